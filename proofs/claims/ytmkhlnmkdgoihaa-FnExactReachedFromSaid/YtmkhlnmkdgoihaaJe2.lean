/- A part of the proof of a law's statement: for every input the law returns true and leaves its arguments as they were. No condition beyond the statement's own. A calculus over plain values for the model's code, proved once. -/
import Derived.Lib.LaidTab
import Derived.Lib.ItoaNum
import Derived.Test.YtmkhlnmkdgoihaaJe1
set_option linter.unusedVariables false
set_option linter.unusedSimpArgs false
set_option linter.unusedSectionVars false
set_option autoImplicit true
set_option relaxedAutoImplicit true
namespace Go.Eng
open Go Go.RowKit
set_option linter.unusedSimpArgs false
set_option linter.unusedVariables false

section
variable {P : Program} {X : Cx} {c : Ctx} {F E : Nat → Foot} {B : Nat → Nat} {M M' : MF} {V : Env} {a : Act} {w w' : World} {G : GL} {o : Oper} {p : Plan}

/-! #### a new list -/

/-- a new list in a new block -/
theorem fin_newlist (h : Pre P X c F E B M M' V a w G) {l : List (Nat × Md)} {E1 : Nat → Foot} {L : Foot} (r1 : RG c F E1 B (addDem l M) V (Act.x a) w) (hL : Free c F E1 w L) {d : Nat} {dp : Bool}
    {sz cp : Nat} {els : List (List PV)} {arr : Array Value} {xs : List Value} {F' : Foot} (hrep : RepL w els.flatten xs F') (hd : Dom F F') (hLF : dp = true → L = F') (t : TypeId) (w1 : World)
    (hw1 : w1.os = w.os ∧ w1.tape = w.tape ∧ w1.output = w.output ∧ w1.heap = w.heap.push (.cells arr t))
    (harr : xs <+: arr.toList) (hcp : els.length ≤ cp) (hsz : cp * sz ≤ arr.size) (hu : ∀ cs ∈ els, cs.length = sz) (ho : ∀ cs ∈ els, ∀ c ∈ cs, oneB c = true) :
    Stp c w w1 ∧ Fin c F E B M V (Act.x a) w w1 d (.own dp) l (.lst sz false els) (.slice (some ⟨w.heap.size, 0, none⟩) els.length cp) := by
  obtain ⟨q1, q2, q3, q4⟩ := hw1
  have hsize : w1.heap.size = w.heap.size + 1 := by rw [q4]; simp
  have hblk : ∀ k, k < w.heap.size → w1.heap[k]? = w.heap[k]? := by
    intro k hk
    rw [q4]; rw [Array.getElem?_push, if_neg (by omega)]
  have hnew : w1.heap[w.heap.size]? = some (.cells arr t) := by rw [q4]; simp
  have hlt := Dom.lt r1 hd
  have hmv : Moves F E1 B (addDem l M) w w1 := r1.grow (by omega) hblk
  refine ⟨⟨q1, q2, q3, by omega, fun k hk => hblk k ?_⟩, ?_⟩
  · unfold Ctx.mine at hk
    have := h.bs
    rcases Nat.lt_or_ge k c.base with h1 | h1
    · omega
    · exact absurd (.inl h1) hk
  · have hR : Rep w1 (.lst sz false els) (.slice (some ⟨w.heap.size, 0, none⟩) els.length cp) ((w.heap.size, 0 + els.length * sz) :: F') := by
      refine .lst (a := ⟨w.heap.size, 0, none⟩) ⟨rfl, arr, t, _, hnew, by simpa using hsz⟩ hcp hu ho ?_ (hrep.keep (keeps_of_blocks hblk hlt))
      intro j v hv
      rw [addr_add_plain rfl]
      simp only [World.cell?, Nat.zero_add, hnew]
      obtain ⟨rest, hr⟩ := harr
      have : arr.toList[j]? = some v := by
        rw [← hr, List.getElem?_append_left]
        · exact hv
        · rcases Nat.lt_or_ge j xs.length with h1 | h1
          · exact h1
          · rw [List.getElem?_eq_none h1] at hv; cases hv
      simpa using this
    have hsub : ∀ e ∈ topOf dp ((w.heap.size, 0 + els.length * sz) :: F'), e = (w.heap.size, 0 + els.length * sz) ∨ (dp = true ∧ e ∈ F') := by
      intro e he
      cases dp
      · left; simpa [topOf] using he
      · have he' : e ∈ (w.heap.size, 0 + els.length * sz) :: F' := he
        rcases List.mem_cons.1 he' with h1 | h1
        · exact .inl h1
        · exact .inr ⟨rfl, h1⟩
    have hnd : ((topOf dp ((w.heap.size, 0 + els.length * sz) :: F')).map (·.1)).Nodup := by
      cases dp
      · simp [topOf]
      · have h2 := hL.l2
        rw [hLF rfl] at h2
        simp only [topOf, if_true, List.map_cons, List.nodup_cons]
        refine ⟨fun hm => ?_, h2⟩
        obtain ⟨f, hf, hfe⟩ := List.mem_map.1 hm
        have := hlt f hf
        omega
    refine Fin0.fin ⟨E1, if dp = true then L else [], _, topOf dp ((w.heap.size, 0 + els.length * sz) :: F'), 0, r1, ?_, hmv, ⟨hR, ⟨fun e he => he, hnd⟩, fun _ => trivial⟩, by simp [mayOwn], ?_, ?_, hnd, by simp [isBox]⟩
    · cases dp
      · simpa using Free.nil
      · simpa using hL
    · intro f hf
      rcases List.mem_cons.1 hf with rfl | hf
      · exact ⟨.inr (.inl (Nat.le_refl _)), by simp only; omega⟩
      · obtain ⟨u, f', h1, h2, h3⟩ := hd f hf
        exact ⟨.inl ⟨u, f', h1, h2, h3⟩, by have := hlt f hf; omega⟩
    · intro e he
      rcases hsub e he with rfl | ⟨hdp, he'⟩
      · refine ⟨⟨List.mem_cons_self .., .inl h.bs, arr, t, hnew⟩, .inl (Nat.le_refl _), ?_⟩
        intro f hf hfe
        rcases List.mem_cons.1 hf with rfl | hf
        · exact Nat.le_refl _
        · have := hlt f hf; simp only at hfe; omega
      · subst hdp
        have heL : e ∈ L := by rw [hLF rfl]; exact he'
        have hel := hlt e he'
        refine ⟨⟨List.mem_cons_of_mem _ he', (hL.l3 e heL).1, ?_⟩, .inr ⟨e, by simpa using heL, rfl, Nat.le_refl _⟩, ?_⟩
        · obtain ⟨arr', ty', hu'⟩ := (hL.l3 e heL).2
          exact ⟨arr', ty', by rw [hblk _ hel]; exact hu'⟩
        · intro f hf hfe
          rcases List.mem_cons.1 hf with rfl | hf
          · simp only at hfe; omega
          · obtain ⟨u, f', h1, h2, h3⟩ := hd f hf
            exact Nat.le_trans h3 (hL.l5 e heL u f' h1 (h2.trans hfe))

theorem Pre.opsA (h : Pre P X c F E B M M' V a w []) : ∀ {os : List (Nat × Operand)} {l : List Opd}, mapO (fun q : Nat × Operand => opd M' [] q.2) os = some l →
    ∃ Fs, OpsA c F E B M V (Act.x a) w l (os.map fun q => a.eval q.2) Fs
  | [], l, hl => by simp [mapO] at hl; subst hl; exact ⟨[], .nil⟩
  | q :: os, l, hl => by
    simp only [mapO] at hl
    split at hl
    · rename_i x hx
      split at hl
      · rename_i l' hl'
        simp only [Option.some.injEq] at hl; subst hl
        obtain ⟨Fx, h1⟩ := h.opA hx
        obtain ⟨Fs, h2⟩ := h.opsA hl'
        exact ⟨_, .cons h1 h2⟩
      · cases hl
    · cases hl

/-- operands that are read -/
inductive OpsR0 (c : Ctx) (F E : Nat → Foot) (B : Nat → Nat) (M : MF) (V : Env) (x : Nat → Value) (w : World) : List Opd → List Value → List Foot → Prop
  | nil : OpsR0 c F E B M V x w [] [] []
  | cons {o v Fx os vs Fs} (h : OpR c F E B M V x w o v Fx) (t : OpsR0 c F E B M V x w os vs Fs) : OpsR0 c F E B M V x w (o :: os) (v :: vs) (Fx :: Fs)
theorem OpsA.toR {x : Nat → Value} : ∀ {os : List Opd} {vs : List Value} {Fs : List Foot}, OpsA c F E B M V x w os vs Fs → OpsR0 c F E B M V x w os vs Fs
  | _, _, _, .nil => .nil
  | _, _, _, .cons h t => .cons h.1 t.toR
theorem Pre.opsR0 (h : Pre P X c F E B M M' V a w G) : ∀ {os : List (Nat × Operand)} {l : List Opd}, mapO (fun q : Nat × Operand => opd M' G q.2) os = some l →
    ∃ Fs, OpsR0 c F E B M V (Act.x a) w l (os.map fun q => a.eval q.2) Fs
  | [], l, hl => by simp [mapO] at hl; subst hl; exact ⟨[], .nil⟩
  | q :: os, l, hl => by
    simp only [mapO] at hl
    split at hl
    · rename_i x hx
      split at hl
      · rename_i l' hl'
        simp only [Option.some.injEq] at hl; subst hl
        obtain ⟨Fx, h1⟩ := h.op_ hx
        obtain ⟨Fs, h2⟩ := h.opsR0 hl'
        exact ⟨_, .cons h1 h2⟩
      · cases hl
    · cases hl
theorem OpsR0.cells {os : List Opd} {vs : List Value} {Fs : List Foot} (h : OpsR0 c F E B M V (Act.x a) w os vs Fs) (hj : ∀ x ∈ os, x.val V ≠ .junk) :
    RepL w (os.map fun x => cellsOf (x.val V)).flatten (vs.flatMap fun v => v.cells.toList) Fs.flatten := by
  induction h with
  | nil => exact .nil
  | cons h _ ih =>
    simp only [List.map_cons, List.flatten_cons, List.flatMap_cons]
    exact (h.rep.cells (hj _ (List.mem_cons_self ..))).append (ih (fun x hx => hj x (List.mem_cons_of_mem _ hx)))
theorem OpsR0.sizes {os : List Opd} {vs : List Value} {Fs : List Foot} (h : OpsR0 c F E B M V (Act.x a) w os vs Fs) (sz : Nat) (hj : ∀ x ∈ os, x.val V ≠ .junk ∧ (cellsOf (x.val V)).length = sz) :
    ∀ v ∈ vs, v.cells.size = sz := by
  induction h with
  | nil => simp
  | cons h _ ih =>
    intro v hv
    rcases List.mem_cons.1 hv with rfl | hv
    · have h1 := hj _ (List.mem_cons_self ..)
      have := (h.rep.cells h1.1).length
      rw [← h1.2, ← this]; simp
    · exact ih (fun x hx => hj x (List.mem_cons_of_mem _ hx)) v hv
theorem OpsR0.dom {os : List Opd} {vs : List Value} {Fs : List Foot} (h : OpsR0 c F E B M V (Act.x a) w os vs Fs) : Dom F Fs.flatten := by
  induction h with
  | nil => exact Dom.nil
  | cons h _ ih =>
    intro f hf
    rw [List.flatten_cons] at hf
    rcases List.mem_append.1 hf with hf | hf
    · exact h.dom f hf
    · exact ih f hf

theorem OpsA.cells {os : List Opd} {vs : List Value} {Fs : List Foot} (h : OpsA c F E B M V (Act.x a) w os vs Fs) (hj : ∀ x ∈ os, x.val V ≠ .junk) :
    RepL w (os.map fun x => cellsOf (x.val V)).flatten (vs.flatMap fun v => v.cells.toList) Fs.flatten := by
  induction h with
  | nil => exact .nil
  | cons h _ ih =>
    simp only [List.map_cons, List.flatten_cons, List.flatMap_cons]
    exact (h.1.rep.cells (hj _ (List.mem_cons_self ..))).append (ih (fun x hx => hj x (List.mem_cons_of_mem _ hx)))

theorem OpsA.sizes {os : List Opd} {vs : List Value} {Fs : List Foot} (h : OpsA c F E B M V (Act.x a) w os vs Fs) (sz : Nat) (hj : ∀ x ∈ os, x.val V ≠ .junk ∧ (cellsOf (x.val V)).length = sz) :
    ∀ v ∈ vs, v.cells.size = sz := by
  induction h with
  | nil => simp
  | cons h _ ih =>
    intro v hv
    rcases List.mem_cons.1 hv with rfl | hv
    · have h1 := hj _ (List.mem_cons_self ..)
      have := (h.1.rep.cells h1.1).length
      rw [← h1.2, ← this]; simp
    · exact ih (fun x hx => hj x (List.mem_cons_of_mem _ hx)) v hv

theorem oneB_junk {v : PV} (h : ∀ c ∈ cellsOf v, oneB c = true) : v ≠ .junk := by
  rintro rfl; have := h .junk (by simp [cellsOf]); simp [oneB] at this

theorem zip_idx_map {l : List (Nat × Value)} {n : Nat} (h : l.map (·.1) = List.range n) : l = ((l.map (·.2)).zipIdx 0).map fun x => (x.2, x.1) := by
  apply List.ext_getElem?
  intro j
  have hl : l.length = n := by have := congrArg List.length h; simpa using this
  by_cases hj : j < l.length
  · have h1 : (l.map (·.1))[j]? = some j := by rw [h]; simp [← hl, hj]
    simp only [List.getElem?_map, List.getElem?_eq_getElem hj, Option.map_some, Option.some.injEq] at h1
    simp only [List.getElem?_map, List.getElem?_zipIdx, List.getElem?_eq_getElem hj, Option.map_some, Nat.zero_add]
    exact congrArg some (Prod.ext h1 rfl)
  · rw [List.getElem?_eq_none (by omega), List.getElem?_eq_none (by simp; omega)]

/-- what is owned may be read alone -/
theorem Fin.toExt {d : Nat} {dp : Bool} {dem : List (Nat × Md)} {v' : PV} {xv : Value} {x : Nat → Value} (h : Fin c F E B M V x w w' d (.own dp) dem v' xv) : Fin c F E B M V x w w' d .ext dem v' xv := by
  obtain ⟨E1, L, F', E', b', r1, f1, hmv, hn, how, hsrc, hE, hnd, hb⟩ := h
  exact ⟨E1, L, F', [], b', r1, f1, hmv, hn.1, fun _ => rfl, hsrc, by simp, by simp, by simp [isBox]⟩

theorem core_buildSlice (h : Pre P X c F E B M M' V a w G) (hs : stepO X M' G o = some p) {t n d : Nat} {ps : Array (Nat × Operand)} (ho : o.op = .buildSlice t n ps) (hd : o.dst = some d) : Core P c F E B M V a w o p := by
  simp only [stepO, ho, hd] at hs
  split at hs
  · rename_i i hi
    split at hs
    · rename_i e hk
      split at hs
      · rename_i j l hj hl
        split at hs
        · cases hs
        · rename_i hc
          simp only [Bool.or_eq_true, bne_iff_ne, ne_eq, decide_eq_true_eq, Bool.not_eq_true', not_or, Decidable.not_not, Nat.not_lt, Bool.not_eq_false, beq_iff_eq] at hc
          obtain ⟨⟨⟨⟨hidx, hsmall⟩, hkd⟩, hzp⟩, hne⟩ := hc
          obtain ⟨jj, hjj, hjs, _, hzz⟩ := tiB.info (h.tb _ _ hj) hkd
          obtain ⟨zz, hz0, _⟩ := hzz hzp
          have hu := kindOK.slice (h.tb _ _ hi) hk
          have hlen : ps.toList.length = n := by have := congrArg List.length hidx; simpa using this
          have hll : l.length = n := by
            rw [← hlen]
            clear hs hidx hlen
            generalize ps.toList = L at hl ⊢
            induction L generalizing l with
            | nil => simp [mapO] at hl; subst hl; rfl
            | cons q L ih =>
              simp only [mapO] at hl
              split at hl
              · split at hl
                · rename_i l' hl'
                  simp only [Option.some.injEq] at hl; subst hl
                  simp [ih l' hl']
                · cases hl
              · cases hl
          have core : ∀ {Fs : List Foot}, OpsR0 c F E B M V (Act.x a) w l (ps.toList.map fun q => a.eval q.2) Fs → ∀ {lm : List (Nat × Md)} {E1 : Nat → Foot} {L : Foot} {dp : Bool}, RG c F E1 B (addDem lm M) V (Act.x a) w → Free c F E1 w L → (dp = true → L = Fs.flatten) →
              Core P c F E B M V a w o ⟨d, .own dp, lm, .set d (.bsl j.sz l), false⟩ := by
            intro Fs hops lm E1 L dp r1 f1 hLF e' he hok
            simp only [POp.set.injEq, true_and] at he
            subst he
            have hjk : ∀ x ∈ l, x.val V ≠ .junk := fun x hx => oneB_junk (hok x hx).2
            have hcells := hops.cells hjk
            have hszs := hops.sizes j.sz (fun x hx => ⟨hjk x hx, (hok x hx).1⟩)
            have hrun : ∃ arr : Array Value, (ps.toList.map fun q => a.eval q.2).flatMap (fun v => v.cells.toList) = arr.toList ∧
                (Instr.buildSlice t n (ps.map fun (i, x) => (i, a.eval x))).run P w = .ok (.slice (some ⟨w.heap.size, 0, none⟩) n n) (w.alloc (.cells arr e)) := by
              by_cases hz : n * j.sz = 0
              · -- no cells
                have hn0 : n = 0 := by
                  rcases Nat.mul_eq_zero.1 hz with h1 | h1
                  · exact h1
                  · exact absurd h1 hne
                subst hn0
                have hps : ps.toList = [] := List.eq_nil_of_length_eq_zero hlen
                have hps' : ps = #[] := by simpa using hps
                subst hps'
                refine ⟨#[], by simp, ?_⟩
                simp [Instr.buildSlice, run_underlying hu, sizeOf, typeInfo, hjj, newRow, Sem.run_bind, Result.andThen, Instr.fill]
                congr 2
                exact Array.eq_empty_of_size_eq_zero (by simp)
              · have hpos : 0 < j.sz := by
                  rcases Nat.eq_zero_or_pos j.sz with h0 | h0
                  · rw [h0] at hz; simp at hz
                  · exact h0
                let vs := ps.toList.map fun q => a.eval q.2
                have hparts : (ps.map fun (i, x) => (i, a.eval x)).toList = (vs.zipIdx 0).map fun x => (x.2, x.1) := by
                  have := zip_idx_map (l := (ps.map fun (i, x) => (i, a.eval x)).toList) (n := n) (by
                    rw [← hidx]; simp [Array.toList_map, List.map_map, Function.comp_def])
                  rw [this]
                  congr 2
                  simp [vs, Array.toList_map, List.map_map, Function.comp_def]
                have hvl : vs.length = n := by simp [vs, ← hlen]
                have hf := Great.fill_whole hpos vs ((Array.range (n * jj.size)).map (zz.cells[· % zz.cells.size]!)) hszs (by simp [hvl, hjs])
                refine ⟨(vs.flatMap fun v => v.cells.toList).toArray, by simp [vs], ?_⟩
                refine run_buildSlice w t e n _ _ jj zz hu hjj hz0 (by rw [hjs]; omega) (by rw [hjs]; exact hz) ?_
                rw [hparts, hjs]
                rw [hjs] at hf
                exact hf
            obtain ⟨arr, harr, hrun⟩ := hrun
            rw [harr] at hcells
            have := fin_newlist h (d := d) (dp := dp) (sz := j.sz) (cp := n) (arr := arr) r1 f1 hcells hops.dom hLF e (w.alloc (.cells arr e)) ⟨rfl, rfl, rfl, rfl⟩ (List.prefix_refl _) (by simp [hll]) (by
              have h1 := hcells.length
              rw [flatten_length (sz := j.sz)] at h1
              · simp [hll] at h1; omega
              · intro cs hcs
                obtain ⟨x, hx, rfl⟩ := List.mem_map.1 hcs
                exact (hok x hx).1) (by
              intro cs hcs
              obtain ⟨x, hx, rfl⟩ := List.mem_map.1 hcs
              exact (hok x hx).1) (by
              intro cs hcs
              obtain ⟨x, hx, rfl⟩ := List.mem_map.1 hcs
              exact (hok x hx).2)
            simp only [List.length_map, hll] at this
            exact ⟨_, _, by simpa [execOp, ho] using run_v hrun, this.1, this.2⟩
          split at hs
          · simp only [Option.some.injEq] at hs; subst hs
            intro e' he hok
            obtain ⟨Fs, hops⟩ := h.opsR0 hl
            obtain ⟨xv, w1, q1, q2, q3⟩ := core hops (lm := []) (dp := false) (by rw [addDem_nil]; exact h.rg) Free.nil (by simp) e' he hok
            exact ⟨xv, w1, q1, q2, Fin.toExt q3⟩
          rename_i hGn
          have hG0 : G = [] := by simpa using hGn
          subst hG0
          obtain ⟨Fs, hops⟩ := h.opsA hl
          split at hs
          · rename_i dm hdm
            simp only [Option.some.injEq] at hs; subst hs
            obtain ⟨E1, r1, f1, _, _⟩ := RG.takes l h.rg Free.nil h.sb hops hdm
            exact core hops.toR r1 f1 (fun _ => by simp)
          · simp only [Option.some.injEq] at hs; subst hs
            exact core hops.toR (by rw [addDem_nil]; exact h.rg) Free.nil (by simp)
      · cases hs
    · cases hs
  · cases hs


/-! #### structs by value -/

def putX (xs : List Value) (off : Nat) (ys : List Value) : List Value := xs.take off ++ ys ++ xs.drop (off + ys.length)

theorem fold_put (off : Nat) (l : List Value) (cs : Array Value) (h : off + l.length ≤ cs.size) :
    (l.zipIdx 0).foldl (fun cs (x : Value × Nat) => cs.setIfInBounds (off + x.2) x.1) cs = (putX cs.toList off l).toArray := by
  obtain ⟨h1, h2⟩ := Great.foldl_set off l 0 cs
  apply Array.ext_getElem?
  intro k
  rw [h2 k]
  simp only [Nat.add_zero, putX, List.getElem?_toArray, List.getElem?_append, List.length_append, List.length_take, Array.length_toList, List.getElem?_take, List.getElem?_drop, Array.getElem?_toList]
  have hm : min off cs.size = off := by omega
  rw [hm]
  by_cases hk : off ≤ k ∧ k < off + l.length ∧ k < cs.size
  · rw [if_pos hk, if_pos (by omega), if_neg (by omega)]
  · rw [if_neg hk]
    by_cases hk1 : k < off
    · rw [if_pos (by omega), if_pos hk1, if_pos hk1]
    · rw [if_neg (by omega)]
      congr 1; omega

/-- the struct's cells, part by part -/
theorem fill_parts {places : Nat → Option (Nat × Nat)} (hx : X = X) : ∀ (ps : List (Nat × Value)) (l : List (Nat × Nat × Opd)) (k : Nat) {A Z : List PV} {ax zx : List Value} {FA : Foot} {Fs : List Foot},
    (∀ (j : Nat) (q : Nat × Nat × Opd), l[j]? = some q → ∃ r : Nat × Value, ps[j]? = some r ∧ places r.1 = some (q.1, q.2.1) ∧ r.2.cells.size = q.2.1) → ps.length = l.length →
    OpsA c F E B M V (Act.x a) w (l.map (·.2.2)) (ps.map (·.2)) Fs → incr k l = true → A.length = k → RepL w A ax FA → RepL w Z zx [] →
    partsOK V (k + Z.length) l →
    ∃ xs, Instr.fill places (ax ++ zx).toArray ps = some xs.toArray ∧ RepL w (putAll (A ++ Z) V l) xs (FA ++ Fs.flatten)
  | [], [], k, A, Z, ax, zx, FA, Fs, _, _, hops, _, _, hA, hZ, _ => by
    cases hops
    refine ⟨ax ++ zx, by simp [Instr.fill], ?_⟩
    simpa [putAll] using hA.append hZ
  | [], q :: l, k, A, Z, ax, zx, FA, Fs, _, hl, _, _, _, _, _, _ => by simp at hl
  | r :: ps, [], k, A, Z, ax, zx, FA, Fs, _, hl, _, _, _, _, _, _ => by simp at hl
  | r :: ps, (off, n, o) :: l, k, A, Z, ax, zx, FA, Fs, hp, hl, hops, hinc, hAk, hA, hZ, hok => by
    simp only [incr, Bool.and_eq_true, decide_eq_true_eq] at hinc
    obtain ⟨r', hr', hpl, hcs⟩ := hp 0 _ rfl
    simp at hr'; subst hr'
    simp only at hpl hcs
    simp only [List.map_cons] at hops
    cases hops with
    | cons ho hrest =>
      rename_i Fx Fs'
      obtain ⟨k1, k2, k3⟩ := hok (off, n, o) (List.mem_cons_self ..)
      simp only at k1 k2 k3
      have hcell := ho.1.rep.cells k3
      have hal := hA.length
      have hzl := hZ.length
      -- the zeros ahead of the part and behind it
      have hsplit : A ++ Z.take (off - k) ++ cellsOf (o.val V) ++ Z.drop (off - k + n) = putc (A ++ Z) off (cellsOf (o.val V)) := by
        unfold putc
        rw [k2, List.take_append, List.take_of_length_le (l := A) (by omega), List.drop_append, List.drop_of_length_le (l := A) (by omega), hAk, List.nil_append]
        congr 2
        omega
      obtain ⟨F1, z1, s1⟩ := hZ.take (off - k)
      obtain ⟨F2, z2, s2⟩ := hZ.drop (off - k + n)
      obtain rfl : F1 = [] := List.sublist_nil.1 s1
      obtain rfl : F2 = [] := List.sublist_nil.1 s2
      have hA' : RepL w (A ++ Z.take (off - k) ++ cellsOf (o.val V)) (ax ++ zx.take (off - k) ++ r.2.cells.toList) (FA ++ Fx) := by
        have := (hA.append z1).append hcell
        simpa using this
      have hlenA' : (A ++ Z.take (off - k) ++ cellsOf (o.val V)).length = off + n := by
        simp only [List.length_append, List.length_take, k2]; omega
      obtain ⟨xs, e1, e2⟩ := fill_parts hx ps l (off + n) (A := A ++ Z.take (off - k) ++ cellsOf (o.val V)) (Z := Z.drop (off - k + n)) (Fs := Fs') (fun j q hq => hp (j + 1) q (by simpa using hq))
        (by simpa using hl) hrest hinc.2 hlenA' hA' z2 (fun q hq => by
          have h1 := hok q (List.mem_cons_of_mem _ hq)
          refine ⟨?_, h1.2⟩
          have h2 := h1.1
          rw [List.length_drop]; omega)
      refine ⟨xs, ?_, ?_⟩
      · unfold Instr.fill
        simp only [hpl]
        have hsz : r.2.cells.size = n := hcs
        rw [if_neg (by simp only [List.size_toArray, List.length_append, hal, hzl, hsz, bne_self_eq_false, Bool.or_eq_true, Bool.false_eq_true, false_or, decide_eq_true_eq]; omega)]
        rw [← e1]
        congr 1
        rw [← Array.foldl_toList, Array.toList_zipIdx, fold_put off r.2.cells.toList _ (by simp [hal, hzl, hsz]; omega)]
        congr 1
        simp only [putX, List.toList_toArray, Array.length_toList, hsz]
        rw [List.take_append, List.take_of_length_le (l := ax) (by omega), List.drop_append, List.drop_of_length_le (l := ax) (by omega), List.nil_append]
        have e3 : off - ax.length = off - k := by omega
        have e4 : off + n - ax.length = off - k + n := by omega
        rw [e3, e4]
      · simp only [putAll]
        rw [← hsplit]
        simpa [List.append_assoc] using e2


theorem places_ok (h : TabOK P X) : ∀ (fs : List Field), (∀ f ∈ fs, ∃ j, X.ti f.type = some j ∧ j.k.data = true) →
    ∃ places, fs.mapM (fun f => (P.info? f.type).map fun i => (f.offset, i.size)) = some places ∧
      ∀ (i : Nat) f j, fs[i]? = some f → X.ti f.type = some j → places[i]? = some (f.offset, j.sz)
  | [], _ => ⟨[], rfl, by simp⟩
  | f :: fs, hf => by
    obtain ⟨j, hj, hk⟩ := hf f (List.mem_cons_self ..)
    obtain ⟨jj, hjj, hjs, _, _⟩ := tiB.info (h _ _ hj) hk
    obtain ⟨places, h1, h2⟩ := places_ok h fs (fun g hg => hf g (List.mem_cons_of_mem _ hg))
    refine ⟨(f.offset, jj.size) :: places, by simp [List.mapM_cons, hjj, h1], ?_⟩
    intro i g j' hg hj'
    cases i with
    | zero => simp at hg; subst hg; rw [hj] at hj'; simp at hj'; subst hj'; simp [hjs]
    | succ i => simpa using h2 i g j' (by simpa using hg) hj'

theorem core_build (h : Pre P X c F E B M M' V a w G) (hs : stepO X M' G o = some p) {t d : Nat} {ps : Array (Nat × Operand)} (ho : o.op = .build t ps) (hd : o.dst = some d)
    (hG : G = []) : Core P c F E B M V a w o p := by
  subst hG
  simp only [stepO, ho, hd] at hs
  split at hs
  · rename_i i hi
    rw [if_neg (by simp)] at hs
    split at hs
    · rename_i fl hk
      split at hs
      · rename_i l hl
        split at hs
        · cases hs
        · rename_i hc
          simp only [Bool.not_eq_true', Bool.not_eq_false, Bool.and_eq_true] at hc
          obtain ⟨⟨⟨hz, hinc⟩, hdt⟩, hall⟩ := hc
          have hti := h.tb _ _ hi
          obtain ⟨fs, hu, hfl⟩ := kindOK.struct hti hk
          obtain ⟨it, hit, hits, _, hzz⟩ := tiB.info hti hdt
          obtain ⟨zz, hz0, hz1, _⟩ := hzz hz
          -- the parts
          have hparts : ∃ Fs, OpsA c F E B M V (Act.x a) w (l.map (·.2.2)) (ps.toList.map fun q => a.eval q.2) Fs ∧ ps.toList.length = l.length ∧
              ∀ (j : Nat) (q : Nat × Nat × Opd), l[j]? = some q → ∃ r : Nat × Operand, ps.toList[j]? = some r ∧ ∃ f jt, fl[r.1]? = some (q.1, f) ∧ X.ti f = some jt ∧ jt.sz = q.2.1 := by
            clear hs hinc
            generalize ps.toList = L at hl ⊢
            induction L generalizing l with
            | nil => simp [mapO] at hl; subst hl; exact ⟨[], .nil, rfl, by simp⟩
            | cons r L ih =>
              simp only [mapO] at hl
              split at hl
              · rename_i y hy
                split at hl
                · rename_i l' hl'
                  simp only [Option.some.injEq] at hl; subst hl
                  obtain ⟨Fs, h1, h2, h3⟩ := ih l' hl'
                  split at hy
                  · rename_i f x hf hx
                    split at hy
                    · rename_i jt hjt
                      split at hy
                      · simp only [Option.some.injEq] at hy; subst hy
                        obtain ⟨Fx, hxA⟩ := h.opA hx
                        refine ⟨Fx :: Fs, .cons hxA h1, by simp [h2], ?_⟩
                        intro j q hq
                        cases j with
                        | zero => simp at hq; subst hq; exact ⟨r, rfl, f.2, jt, hf, hjt, rfl⟩
                        | succ j => obtain ⟨r', e1, e2⟩ := h3 j q (by simpa using hq); exact ⟨r', by simpa using e1, e2⟩
                      · cases hy
                    · cases hy
                  · cases hy
                · cases hl
              · cases hl
          obtain ⟨Fs, hops, hlen, hpl⟩ := hparts
          have hfsall : ∀ f ∈ fs.toList, ∃ j, X.ti f.type = some j ∧ j.k.data = true := by
            intro f hf
            have hm : (f.offset, f.type) ∈ fl := by rw [← hfl]; exact List.mem_map.2 ⟨f, hf, rfl⟩
            have := List.all_eq_true.1 hall _ hm
            simp only at this
            split at this
            · rename_i j hj; exact ⟨j, hj, this⟩
            · cases this
          obtain ⟨places, hp1, hp2⟩ := places_ok h.tb fs.toList hfsall
          have hzr := zOK.rep (w := w) hz1
          have build : ∀ {V0 : Env}, V0 = V → (Ex.bld i.z l).ok V0 → ∃ xs, (execOp a.eval o).run P w = .ok (.value (.agg xs.toArray)) w ∧ RepL w (putAll i.z V l) xs Fs.flatten ∧
              (∀ q ∈ l, q.2.2.val V ≠ .junk) := by
            intro V0 hV hok
            subst hV
            have hok' : partsOK V0 (0 + i.z.length) l := by rw [Nat.zero_add]; exact hok
            have hszs : ∀ (j : Nat) (q : Nat × Nat × Opd), l[j]? = some q → (a.eval (ps.toList[j]?.getD default).2).cells.size = q.2.1 := by
              intro j q hq
              have hmem : q ∈ l := List.mem_of_getElem? hq
              obtain ⟨_, k2, k3⟩ := hok q hmem
              have : ∀ {os : List Opd} {vs : List Value} {Fs : List Foot}, OpsA c F E B M V0 (Act.x a) w os vs Fs → ∀ (j : Nat) x, os[j]? = some x → x.val V0 ≠ .junk → ∃ v, vs[j]? = some v ∧ v.cells.size = (cellsOf (x.val V0)).length := by
                intro os vs Fs hh
                induction hh with
                | nil => intro j x hx; simp at hx
                | cons h1 _ ih =>
                  intro j x hx hj
                  cases j with
                  | zero =>
                    simp at hx; subst hx
                    refine ⟨_, rfl, ?_⟩
                    have := (h1.1.rep.cells hj).length
                    simpa using this
                  | succ j => simpa using ih j x (by simpa using hx) hj
              obtain ⟨v, hv1, hv2⟩ := this hops j q.2.2 (by simp [hq]) k3
              rw [k2] at hv2
              rw [List.getElem?_map] at hv1
              cases hps : ps.toList[j]? with
              | none => rw [hps] at hv1; simp at hv1
              | some r => rw [hps] at hv1; simp at hv1; simp [hv1, hv2]
            obtain ⟨xs, e1, e2⟩ := fill_parts (X := X) (places := (places.toArray[·]?)) rfl (ps.map fun (i, x) => (i, a.eval x)).toList l 0 (A := []) (Z := i.z) (ax := []) (zx := zz.cells.toList) (FA := []) (Fs := Fs)
              (by
                intro j q hq
                obtain ⟨r, e1, f, jt, e2, e3, e4⟩ := hpl j q hq
                refine ⟨(r.1, a.eval r.2), by simp [Array.toList_map, e1], ?_, ?_⟩
                · rw [← hfl, List.getElem?_map] at e2
                  cases hh : fs.toList[r.1]? with
                  | none => rw [hh] at e2; simp at e2
                  | some fd =>
                    rw [hh] at e2; simp at e2
                    have := hp2 r.1 fd jt hh (by rw [e2.2]; exact e3)
                    simp only [List.getElem?_toArray, this, e2.1, e4]
                · have := hszs j q hq
                  rw [e1] at this
                  simpa using this)
              (by simpa [Array.toList_map] using hlen) (by
                have : (ps.map fun (i, x) => (i, a.eval x)).toList.map (·.2) = ps.toList.map fun q => a.eval q.2 := by simp [Array.toList_map, List.map_map, Function.comp_def]
                rw [this]; exact hops) hinc rfl .nil hzr hok'
            refine ⟨xs, ?_, by simpa using e2, fun q hq => (hok q hq).2.2⟩
            have hb : P.built t (ps.map fun (i, x) => (i, a.eval x)).toList = some xs.toArray := by
              unfold Program.built
              simp only [hit, hu, hz0, hp1]
              have : ([] ++ zz.cells.toList).toArray = zz.cells := by simp
              rw [this] at e1
              exact e1
            have := run_build w t _ _ hb
            simpa [execOp, ho] using run_v this
          have hdom := hops.dom
          split at hs
          · rename_i hsc
            simp only [Bool.and_eq_true, List.all_eq_true] at hsc
            simp only [Option.some.injEq] at hs; subst hs
            refine Core.of_pure fun hok => ?_
            obtain ⟨xs, e1, e2, _⟩ := build rfl hok
            refine ⟨_, e1, ?_⟩
            have hnil : Fs.flatten = [] := by
              have : ∀ {os : List Opd} {vs : List Value} {Fs : List Foot}, OpsA c F E B M V (Act.x a) w os vs Fs → (∀ x ∈ os, x.md M = .sc) → Fs.flatten = [] := by
                intro os vs Fs hh
                induction hh with
                | nil => intro _; rfl
                | cons h1 _ ih =>
                  intro hx
                  rw [List.flatten_cons, h1.1.sc (hx _ (List.mem_cons_self ..)), ih (fun x hxx => hx x (List.mem_cons_of_mem _ hxx))]; rfl
              refine this hops (fun x hx => ?_)
              obtain ⟨q, hq, rfl⟩ := List.mem_map.1 hx
              have h1 := hsc.2 q hq
              simp only [isSc, beq_iff_eq] at h1
              cases hqq : q.2.2 with
              | c v => rfl
              | t s =>
                rw [hqq] at h1
                simp only [Opd.md] at h1 ⊢
                rw [← sb_ne h.sb (by rw [h1]; simp)]; exact h1
            rw [hnil] at e2
            exact fin_sc h (.agg e2)
          · split at hs
            · rename_i dm hdm
              simp only [Option.some.injEq] at hs; subst hs
              intro e he hok
              simp only [POp.set.injEq, true_and] at he
              subst he
              obtain ⟨xs, e1, e2, _⟩ := build rfl hok
              obtain ⟨E1, r1, f1, _, _⟩ := RG.takes _ h.rg Free.nil h.sb hops hdm
              exact ⟨_, w, e1, Stp.refl _ _, fin_taken (E := E) (dp := true) r1 f1 (.agg e2) hdom (by simp [topOf]) (by simp)⟩
            · simp only [Option.some.injEq] at hs; subst hs
              refine Core.of_pure fun hok => ?_
              obtain ⟨xs, e1, e2, _⟩ := build rfl hok
              exact ⟨_, e1, Fin.pure h.rg _ (.agg e2) rfl hdom⟩
      · cases hs
    · cases hs
  · cases hs

end
end Go.Eng
namespace Go.Eng
open Go Go.RowKit
set_option linter.unusedSimpArgs false
set_option linter.unusedVariables false

section
variable {P : Program} {X : Cx} {c : Ctx} {F E : Nat → Foot} {B : Nat → Nat} {M M' : MF} {V : Env} {a : Act} {w w' : World} {G : GL} {o : Oper} {p : Plan}

theorem Free.sub (h : Free c F E w L) {L' : Foot} (hs : L'.Sublist L) : Free c F E w L' :=
  ⟨fun e he => h.l1 e (hs.subset he), h.l2.sublist (hs.map _), fun e he => h.l3 e (hs.subset he), fun e he => h.l4 e (hs.subset he), fun e he => h.l5 e (hs.subset he)⟩

theorem setCells_heap (b : Nat) : ∀ (vs : List Value) (o : Nat) (w : World) (k : Nat), k ≠ b → (w.setCells b o vs).heap[k]? = w.heap[k]?
  | [], _, _, _, _ => rfl
  | v :: r, o, w, k, hk => by
    rw [World.setCells, setCells_heap b r (o + 1) _ k hk, Below.heap_setCell _ _ _ _ (by simpa using hk)]
theorem setCells_rest (b : Nat) : ∀ (vs : List Value) (o : Nat) (w : World), (w.setCells b o vs).os = w.os ∧ (w.setCells b o vs).tape = w.tape ∧ (w.setCells b o vs).output = w.output ∧ (w.setCells b o vs).heap.size = w.heap.size
  | [], _, _ => ⟨rfl, rfl, rfl, rfl⟩
  | v :: r, o, w => by
    obtain ⟨h1, h2, h3, h4⟩ := setCells_rest b r (o + 1) (w.setCell ⟨b, o, none⟩ v)
    rw [World.setCells]
    exact ⟨h1, h2, h3, by rw [h4]; simp [World.setCell]⟩
theorem setCells_shape (b : Nat) : ∀ (vs : List Value) (o : Nat) (w : World) {arr : Array Value} {ty : TypeId} {fr : Nat × Nat}, w.heap[b]? = some (.cells arr ty fr) →
    ∃ arr', (w.setCells b o vs).heap[b]? = some (.cells arr' ty fr) ∧ arr'.size = arr.size
  | [], _, _, arr, _, _, h => ⟨arr, h, rfl⟩
  | v :: r, o, w, arr, ty, fr, h => by
    have h1 : (w.setCell ⟨b, o, none⟩ v).heap[b]? = some (.cells (arr.setIfInBounds o v) ty fr) := by
      simp [World.setCell, Array.getElem?_modify, h]
    obtain ⟨arr', h2, h3⟩ := setCells_shape b r (o + 1) _ h1
    exact ⟨arr', by rw [World.setCells]; exact h2, by rw [h3]; simp⟩
theorem setCells_out (b : Nat) (vs : List Value) (o : Nat) (w : World) (k : Nat) (hk : k < o ∨ o + vs.length ≤ k) : (w.setCells b o vs).cell? ⟨b, k, none⟩ = w.cell? ⟨b, k, none⟩ := by
  exact World.cell?_setCells_out b vs o w ⟨b, k, none⟩ (fun _ _ => hk)


theorem one_val {v : PV} {x : Value} {F1 : Foot} (h : Rep w v x F1) (ho : oneB v = true) : x.oneCell' = true := by
  cases h <;> first | rfl | (simp [oneB] at ho; done)
theorem ones_val {vs : List PV} {xs : List Value} {F1 : Foot} : RepL w vs xs F1 → (∀ v ∈ vs, oneB v = true) → ∀ x ∈ xs, x.oneCell' = true
  | .nil, _, x, hx => by cases hx
  | .cons h t, ho, x, hx => by
    rcases List.mem_cons.1 hx with rfl | hx
    · exact one_val h (ho _ (List.mem_cons_self ..))
    · exact ones_val t (fun v hv => ho v (List.mem_cons_of_mem _ hv)) x hx

/-- append, in place -/
theorem run_append_in (t ty e : TypeId) (i : TypeInfo) (ht : P.underlying t = some (.slice e)) (hi : P.info? e = some i) {b : Addr} {sLen sCap n : Nat} {yv : Value} {news : List Value} (hs : b.spot = none)
    (hn : news.length = n * i.size) (hlen : (Builtin.lenOf yv).run P w = .ok n w) (hfc : (Builtin.firstCells i.size n yv).run P w = .ok news.toArray w)
    (h1 : ∀ u ∈ news, u.oneCell' = true) (hroom : sLen + n ≤ sCap) {arr : Array Value} {tt : TypeId} (hb : w.heap[b.block]? = some (.cells arr tt (0, 0))) (hsz : b.off + (sLen + n) * i.size ≤ arr.size) :
    (Builtin.append_ #[t, t] ty #[.slice (some b) sLen sCap, yv]).run P w = .ok (.slice (some b) (sLen + n) sCap) (w.setCells b.block (b.off + sLen * i.size) news) := by
  have hst := run_storeCells_cells (P := P) b.block (b.off + sLen * i.size) news 0 w (fun j hj => by
      simp only [World.cell?, hb, Nat.add_zero]
      have : b.off + sLen * i.size + j < arr.size := by rw [Nat.add_mul] at hsz; omega
      simp [this]) (fun j hj => by simp [World.frozen?, hb]) h1
  rw [Nat.add_zero] at hst
  simp [Builtin.append_, run_underlying ht, sizeOf, typeInfo, hi, hlen, hroom, hfc, addr_add_plain hs, hst]

theorem run_append_nil0 (t ty e : TypeId) (i : TypeInfo) (ht : P.underlying t = some (.slice e)) (hi : P.info? e = some i) {yv : Value} (hlen : (Builtin.lenOf yv).run P w = .ok 0 w)
    (hfc : (Builtin.firstCells i.size 0 yv).run P w = .ok #[] w) :
    (Builtin.append_ #[t, t] ty #[.slice none 0 0, yv]).run P w = .ok (.slice none 0 0) w := by
  simp [Builtin.append_, run_underlying ht, sizeOf, typeInfo, hi, hlen, hfc]

theorem run_append_emp0 (t ty e : TypeId) (i : TypeInfo) (ht : P.underlying t = some (.slice e)) (hi : P.info? e = some i) (b : Addr) {yv : Value} (hlen : (Builtin.lenOf yv).run P w = .ok 0 w)
    (hfc : (Builtin.firstCells i.size 0 yv).run P w = .ok #[] w) :
    (Builtin.append_ #[t, t] ty #[.slice (some b) 0 0, yv]).run P w = .ok (.slice (some b) 0 0) w := by
  simp [Builtin.append_, run_underlying ht, sizeOf, typeInfo, hi, hlen, hfc, storeCells]

theorem keeps_set {b o : Nat} {vs : List Value} {F0 : Foot} (hl : ∀ e ∈ F0, e.1 = b → e.2 ≤ o) : Keeps w (w.setCells b o vs) F0 := by
  intro e he
  by_cases hb : e.1 = b
  · refine ⟨fun k hk => ?_, fun arr ty fr hh => ?_⟩
    · rw [hb]; exact setCells_out b vs o w k (.inl (Nat.lt_of_lt_of_le hk (hl e he hb)))
    · rw [hb] at hh ⊢
      obtain ⟨arr', h1, h2⟩ := setCells_shape b vs o w hh
      exact ⟨arr', fr, h1, h2⟩
  · have hh := setCells_heap b vs o w e.1 hb
    exact ⟨fun k _ => by simp [World.cell?, hh], fun arr ty fr h0 => ⟨arr, fr, by rw [hh]; exact h0, rfl⟩⟩

theorem dom_le {F0 : Foot} (hd : Dom F F0) {b k : Nat} (hb : ∀ u, ∀ f ∈ F u, f.1 = b → f.2 ≤ k) : ∀ e ∈ F0, e.1 = b → e.2 ≤ k := by
  intro e he heb
  obtain ⟨u, f', h1, h2, h3⟩ := hd e he
  exact Nat.le_trans h3 (hb u f' h1 (h2.trans heb))

theorem scL_append : ∀ {a b : List PV}, scL a = true → scL b = true → scL (a ++ b) = true
  | [], _, _, h => h
  | v :: a, b, h1, h2 => by
    simp only [scL, Bool.and_eq_true, List.cons_append] at h1 ⊢
    exact ⟨h1.1, scL_append h1.2 h2⟩
theorem scL_flatten : ∀ {l : List (List PV)}, (∀ cs ∈ l, scL cs = true) → scL l.flatten = true
  | [], _ => rfl
  | c :: l, h => by
    rw [List.flatten_cons]
    exact scL_append (h c (List.mem_cons_self ..)) (scL_flatten fun cs hcs => h cs (List.mem_cons_of_mem _ hcs))

/-- a list of plain data is owned to the bottom where its own row is -/
theorem Fin.deepen {x : Nat → Value} {d : Nat} {dem : List (Nat × Md)} {sz : Nat} {nl : Bool} {l : List (List PV)} {xv : Value} (h : Fin c F E B M V x w w' d (.own false) dem (.lst sz nl l) xv) (hl : ∀ cs ∈ l, scL cs = true) :
    Fin c F E B M V x w w' d (.own true) dem (.lst sz nl l) xv := by
  obtain ⟨E1, L, F', E', b', r1, f1, hmv, ⟨hn1, hn2, _⟩, how, hsrc, hE, hnd, hb⟩ := h
  have hF : topOf true F' = topOf false F' := by
    rcases hn1.lst_inv with ⟨_, _, _, rfl⟩ | ⟨_, _, _, _, rfl⟩ | ⟨_, _, xs, G', _, _, rfl, _, _, _, _, _, hR⟩
    · rfl
    · rfl
    · have : G' = [] := hR.sc (scL_flatten hl)
      subst this; rfl
  refine ⟨E1, L, F', E', b', r1, f1, hmv, ⟨hn1, ?_, by simp⟩, fun hh => (by cases hh), hsrc, hE, hnd, fun hh => (by cases hh)⟩
  unfold Owned at hn2 ⊢
  rw [hF]; exact hn2

theorem core_append (h : Pre P X c F E B M M' V a w []) {t u d : Nat} {x y : Operand} {cl : Call} (hs : stepB X M' [] .append #[x, y] #[t, u] d = some p) (ho : o.op = .call cl) (hcl : cl.callee = .builtin .append)
    (hargs : cl.args = #[x, y]) (htys : cl.argTypes = #[t, u]) : Core P c F E B M V a w o p := by
  simp only [stepB] at hs
  split at hs
  · cases hs
  · rename_i htu
    simp only [bne_iff_ne, ne_eq, Decidable.not_not] at htu
    subst htu
    split at hs
    · rename_i x' y' i hx hy hi
      split at hs
      · rename_i e hk
        split at hs
        · rename_i ie hie
          split at hs
          · cases hs
          · rename_i hc
            simp only [Bool.or_eq_true, bne_self_eq_false, Bool.false_eq_true, false_or, beq_iff_eq, Bool.not_eq_true', not_or, Bool.not_eq_false] at hc
            obtain ⟨⟨⟨hbz, hkd⟩, hzp⟩, hsz0⟩ := hc
            have hti := h.tb _ _ hi
            have hu := kindOK.slice hti hk
            obtain ⟨jj, hjj, hjs, hjb, hzz⟩ := tiB.info (h.tb _ _ hie) hkd
            obtain ⟨zz, hz0, hz1, hz2⟩ := hzz hzp
            obtain ⟨Fx, hxA⟩ := h.opA hx
            obtain ⟨Fy, hyA⟩ := h.opA hy
            have hexec : ∀ {r : Value} {w1 : World}, (Builtin.append_ #[t, t] o.type #[a.eval x, a.eval y]).run P w = .ok r w1 → (execOp a.eval o).run P w = .ok (.value r) w1 := by
              intro r w1 hr
              have := run_v hr
              simpa [execOp, ho, hcl, resolve, invoke, builtin, hargs, htys] using this
            -- the heart of it
            have heart : ∀ {lm : List (Nat × Md)} {E1 : Nat → Foot} {L : Foot} {dp dpn : Bool}, RG c F E1 B (addDem lm M) V (Act.x a) w → Free c F E1 w L →
                ((topOf dp Fx) <+: L) → (dpn = true → dp = true ∧ L = Fx ++ Fy) → (dp = false → True) →
                Core P c F E B M V a w o ⟨d, .own dpn, lm, .set d (.app x' y' ie.sz ie.b), false⟩ := by
              intro lm E1 L dp dpn r1 f1 hpre hdeep _ e' he hok
              simp only [POp.set.injEq, true_and] at he
              subst he
              obtain ⟨k1, k2, k3⟩ := hok
              obtain ⟨nl1, l1, e1⟩ := isLst_inv k1
              obtain ⟨nl2, l2, e2⟩ := isLst_inv k2
              have hrx := hxA.1.rep
              have hry := hyA.1.rep
              rw [e1] at hrx
              rw [e2] at hry
              rw [e1, e2] at k3
              simp only [lenV] at k3
              have hval : (Ex.app x' y' ie.sz ie.b).val V = .lst ie.sz (nl1 && l2.isEmpty) (l1 ++ l2) := by simp [Ex.val, e1, e2, appV]
              rw [hval]
              -- what y holds
              have hyc : ∃ ys G2, (Builtin.lenOf (a.eval y)).run P w = .ok l2.length w ∧ (Builtin.firstCells jj.size l2.length (a.eval y)).run P w = .ok ys.toArray w ∧ RepL w l2.flatten ys G2 ∧ G2.Sublist Fy ∧ (∀ cs ∈ l2, cs.length = ie.sz) ∧
                  (∀ cs ∈ l2, ∀ q ∈ cs, oneB q = true) ∧ ys.length = l2.length * ie.sz ∧ (l2 ≠ [] → ∃ b2 m2 c2, a.eval y = .slice (some b2) m2 c2 ∧ m2 = l2.length ∧ Mem w b2 ys) := by
                rcases hry.lst_inv with ⟨q1, _, rfl, rfl⟩ | ⟨bb, q1, _, rfl, rfl⟩ | ⟨b2, cp2, ys, G2, q1, _, rfl, hdr2, hc2, hu2, ho2, hm2, hR2⟩
                · exact ⟨[], [], by simp [q1, Builtin.lenOf], by simp [q1, Builtin.firstCells], .nil, List.Sublist.refl _, by simp, by simp, by simp, by simp⟩
                · exact ⟨[], [], by simp [q1, Builtin.lenOf], by rw [q1]; exact run_firstCells_some w jj.size 0 bb 0 0 [] (by simp) (by intro j v hv; simp at hv), .nil, List.Sublist.refl _, by simp, by simp, by simp, by simp⟩
                · have hl2 : ys.length = l2.length * ie.sz := by rw [hR2.length, flatten_length hu2]
                  refine ⟨ys, G2, by simp [q1, Builtin.lenOf], ?_, hR2, List.sublist_cons_self _ _, hu2, ho2, hl2, fun _ => ⟨b2, _, cp2, q1, rfl, hm2⟩⟩
                  rw [q1]
                  exact run_firstCells_some w jj.size l2.length b2 l2.length cp2 ys (by rw [hjs]; exact hl2) hm2
              obtain ⟨ys, G2, y1, y2, y3, y4, y5, y6, y7, y8⟩ := hyc
              have hys1 := ones_val y3 (fun v hv => by
                obtain ⟨cs, hcs, hvc⟩ := List.mem_flatten.1 hv
                exact y6 cs hcs v hvc)
              have hdomy : Dom F G2 := hyA.1.dom.sub y4
              have hneed : (l1.length + l2.length) * ie.b ≤ 70368744177664 := by
                have h0 : (((l1.length + l2.length) * ie.b : Nat) : Int) ≤ 70368744177664 := by rw [Int.natCast_mul, Int.natCast_add]; exact k3
                omega
              have hneed' : (l1.length + l2.length) * jj.bytes ≤ 140737488355328 := by rw [hjb]; omega
              have h63 : ((l1.length + l2.length : Nat) : Int) ≤ 9223372036854775807 := by
                have : l1.length + l2.length ≤ (l1.length + l2.length) * ie.b := Nat.le_mul_of_pos_right _ (by omega)
                omega
              have hcat_u : ∀ {xs : Prop}, (∀ cs ∈ l1, cs.length = ie.sz) → ∀ cs ∈ l1 ++ l2, cs.length = ie.sz := fun hh cs hcs => by
                rcases List.mem_append.1 hcs with h0 | h0
                · exact hh cs h0
                · exact y5 cs h0
              rcases hrx.lst_inv with ⟨q1, rfl, rfl, rfl⟩ | ⟨b1, q1, rfl, rfl, rfl⟩ | ⟨b1, cp1, xs, G1, q1, rfl, rfl, hdr1, hc1, hu1, ho1, hm1, hR1⟩
              · -- onto nil
                simp only [List.nil_append, Bool.true_and]
                by_cases hl2 : l2 = []
                · subst hl2
                  refine ⟨.slice none 0 0, w, hexec ?_, Stp.refl _ _, ?_⟩
                  · rw [q1]
                    exact run_append_nil0 t o.type e jj hu hjj (by simpa using y1) (by
                      have : ys = [] := List.eq_nil_of_length_eq_zero (by simpa using y7)
                      rw [this] at y2; simpa using y2)
                  · simp only [List.isEmpty_nil]
                    exact fin_taken (E := E) (E1 := E1) (L := []) (dp := dpn) (F' := []) r1 Free.nil (.nil _) Dom.nil (by simp [topOf_nil]) (fun _ => trivial)
                · obtain ⟨b2, m2, c2, q2, rfl, q3⟩ := y8 hl2
                  have hpos : 0 < l2.length := List.length_pos_iff.2 hl2
                  have hrun := run_append_nil (P := P) w t o.type e jj zz hu hjj hz0 b2 l2.length c2 ys (by rw [hjs]; exact y7) q3 hpos (by simpa using h63) (by simpa using (by
                    have := hneed'; simp only [List.length_nil, Nat.zero_add] at this; omega : l2.length * jj.bytes ≤ 281474976710656))
                  have hemp : l2.isEmpty = false := by cases l2 <;> simp at hl2 ⊢
                  rw [hemp]
                  have hge := grownCap_ge w l2.length 0 e
                  obtain ⟨s1, s2⟩ := fin_newlist h (d := d) (dp := dpn) (sz := ie.sz) (cp := grownCap w l2.length 0 e) (els := l2) r1 (L := if dpn = true then G2 else []) (by
                      cases dpn
                      · simpa using Free.nil
                      · obtain ⟨hd1, hd2⟩ := hdeep rfl
                        simp only [if_true]
                        rw [hd2] at f1
                        exact f1.sub (by simpa using y4)) y3 hdomy (fun hh => by simp [hh]) e (w.drew.alloc (.cells (ys.toArray ++ Builtin.zeroCells zz.cells (grownCap w l2.length 0 e - l2.length)) e)) ⟨rfl, rfl, rfl, rfl⟩ (by simp) hge (by
                      simp only [Array.size_append, List.size_toArray, size_zeroCells, hz2, y7]
                      have : l2.length * ie.sz + (grownCap w l2.length 0 e - l2.length) * ie.sz = grownCap w l2.length 0 e * ie.sz := by rw [← Nat.add_mul]; congr 1; omega
                      omega) y5 y6
                  refine ⟨_, _, hexec ?_, s1, s2⟩
                  rw [q1, q2]
                  exact hrun
              · -- onto an empty one
                simp only [List.nil_append, Bool.false_and]
                by_cases hl2 : l2 = []
                · subst hl2
                  refine ⟨.slice (some b1) 0 0, w, hexec ?_, Stp.refl _ _, ?_⟩
                  · rw [q1]
                    exact run_append_emp0 t o.type e jj hu hjj b1 (by simpa using y1) (by
                      have : ys = [] := List.eq_nil_of_length_eq_zero (by simpa using y7)
                      rw [this] at y2; simpa using y2)
                  · exact fin_taken (E := E) (E1 := E1) (L := []) (dp := dpn) (F' := []) r1 Free.nil (.emp _ b1) Dom.nil (by simp [topOf_nil]) (fun _ => trivial)
                · obtain ⟨b2, m2, c2, q2, rfl, q3⟩ := y8 hl2
                  have hpos : 0 < l2.length := List.length_pos_iff.2 hl2
                  simp only [List.length_nil, Nat.zero_add] at hneed hneed' h63
                  have hrun := run_append_grow (P := P) w t o.type e jj zz hu hjj hz0 b1 0 0 [] (by simp) (by intro j v hv; simp at hv) b2 l2.length c2 ys (by rw [hjs]; exact y7) q3 (by omega) (by simpa using h63) (growslice_fits (by omega) (by simpa using hneed'))
                  simp only [Nat.zero_add] at hrun
                  have hge := grownCap_ge w l2.length 0 e
                  obtain ⟨s1, s2⟩ := fin_newlist h (d := d) (dp := dpn) (sz := ie.sz) (cp := grownCap w l2.length 0 e) (els := l2) r1 (L := if dpn = true then G2 else []) (by
                      cases dpn
                      · simpa using Free.nil
                      · obtain ⟨hd1, hd2⟩ := hdeep rfl
                        simp only [if_true]
                        rw [hd2] at f1
                        exact f1.sub (by simpa using y4)) y3 hdomy (fun hh => by simp [hh]) e (w.drew.alloc (.cells ((#[] : Array Value) ++ ys.toArray ++ Builtin.zeroCells zz.cells (grownCap w l2.length 0 e - l2.length)) e)) ⟨rfl, rfl, rfl, rfl⟩ (by simp) hge (by
                      simp only [Array.size_append, List.size_toArray, size_zeroCells, hz2, y7, Array.size_empty]
                      have : l2.length * ie.sz + (grownCap w l2.length 0 e - l2.length) * ie.sz = grownCap w l2.length 0 e * ie.sz := by rw [← Nat.add_mul]; congr 1; omega
                      omega) y5 y6
                  refine ⟨_, _, hexec ?_, s1, s2⟩
                  rw [q1, q2]
                  exact hrun
              · -- onto a list
                have hxl : xs.length = l1.length * ie.sz := by rw [hR1.length, flatten_length hu1]
                simp only [Bool.false_and]
                have hRR : RepL w (l1 ++ l2).flatten (xs ++ ys) (G1 ++ G2) := by rw [List.flatten_append]; exact hR1.append y3
                have huu : ∀ cs ∈ l1 ++ l2, cs.length = ie.sz := fun cs hcs => (List.mem_append.1 hcs).elim (hu1 cs) (y5 cs)
                have hoo : ∀ cs ∈ l1 ++ l2, ∀ q ∈ cs, oneB q = true := fun cs hcs => (List.mem_append.1 hcs).elim (ho1 cs) (y6 cs)
                have hdomx : Dom F ((b1.block, b1.off + l1.length * ie.sz) :: G1) := hxA.1.dom
                have hdomG : Dom F (G1 ++ G2) := fun f hf => (List.mem_append.1 hf).elim (fun h1 => hdomx f (List.mem_cons_of_mem _ h1)) (hdomy f)
                by_cases hroom : l1.length + l2.length ≤ cp1
                · -- in place
                  have htop : (b1.block, b1.off + l1.length * ie.sz) ∈ L := by
                    refine hpre.subset ?_
                    cases dp <;> simp [topOf]
                  obtain ⟨hmine, arr, tt, harr⟩ := f1.l3 _ htop
                  have hlim := f1.l5 _ htop
                  simp only at hmine harr hlim
                  have hcap : b1.off + cp1 * ie.sz ≤ arr.size := by
                    obtain ⟨_, arr0, ty0, fr0, h1, h2⟩ := hdr1
                    rw [harr] at h1
                    simp only [Option.some.injEq, Obj.cells.injEq] at h1
                    obtain ⟨rfl, _⟩ := h1
                    exact h2
                  have hmul : (l1.length + l2.length) * ie.sz ≤ cp1 * ie.sz := Nat.mul_le_mul_right _ hroom
                  have hmul' : (l1.length + l2.length) * ie.sz = l1.length * ie.sz + l2.length * ie.sz := Nat.add_mul ..
                  have hrun := run_append_in (P := P) (w := w) t o.type e jj hu hjj (b := b1) (sLen := l1.length) (sCap := cp1) (n := l2.length) (yv := a.eval y) (news := ys) hdr1.1 (by rw [hjs]; exact y7) y1 y2 hys1 hroom harr (by rw [hjs]; omega)
                  rw [hjs] at hrun
                  have hkeep : ∀ {F0 : Foot}, Dom F F0 → Keeps w (w.setCells b1.block (b1.off + l1.length * ie.sz) ys) F0 := fun hd => keeps_set (dom_le hd hlim)
                  obtain ⟨z1, z2, z3, z4⟩ := setCells_rest b1.block ys (b1.off + l1.length * ie.sz) w
                  obtain ⟨arr', ha1, ha2⟩ := setCells_shape b1.block ys (b1.off + l1.length * ie.sz) w harr
                  have hblk1 : b1.block < w.heap.size := (Array.getElem?_eq_some_iff.1 harr).1
                  have hL0 : ∃ L0, Free c F E1 w L0 ∧ (b1.block, b1.off + l1.length * ie.sz) ∈ L0 ∧ (dpn = true → L0 = ((b1.block, b1.off + l1.length * ie.sz) :: G1) ++ Fy) := by
                    cases dpn
                    · exact ⟨[(b1.block, b1.off + l1.length * ie.sz)], f1.sub (by simpa using htop), by simp, by simp⟩
                    · exact ⟨L, f1, htop, fun _ => (hdeep rfl).2⟩
                  obtain ⟨L0, hf0, htop0, hL0⟩ := hL0
                  -- what is owned then
                  have hEsub : ∀ q ∈ topOf dpn ((b1.block, b1.off + (l1.length + l2.length) * ie.sz) :: (G1 ++ G2)), q = (b1.block, b1.off + (l1.length + l2.length) * ie.sz) ∨ (dpn = true ∧ q ∈ G1 ++ G2) := by
                    intro q hq
                    cases dpn
                    · left; simpa [topOf] using hq
                    · have hq' : q ∈ (b1.block, b1.off + (l1.length + l2.length) * ie.sz) :: (G1 ++ G2) := hq
                      rcases List.mem_cons.1 hq' with h0 | h0
                      · exact .inl h0
                      · exact .inr ⟨rfl, h0⟩
                  have hdnd : dpn = true → ((((b1.block, b1.off + l1.length * ie.sz) :: (G1 ++ G2)).map (·.1)).Nodup ∧ ∀ q ∈ G1 ++ G2, q ∈ L0) := by
                    intro hdn
                    have h0 := hL0 hdn
                    have hsl : ((b1.block, b1.off + l1.length * ie.sz) :: (G1 ++ G2)).Sublist L0 := by
                      rw [h0]
                      have := List.Sublist.append (List.Sublist.refl ((b1.block, b1.off + l1.length * ie.sz) :: G1)) y4
                      simpa using this
                    exact ⟨hf0.l2.sublist (hsl.map _), fun q hq => hsl.subset (List.mem_cons_of_mem _ hq)⟩
                  have hGb : ∀ f ∈ G1 ++ G2, f.1 = b1.block → f.2 ≤ b1.off + l1.length * ie.sz := dom_le hdomG hlim
                  refine ⟨.slice (some b1) (l1 ++ l2).length cp1, _, hexec (by rw [q1]; simpa using hrun), ⟨z1, z2, z3, by omega, fun k hk => setCells_heap _ _ _ _ _ (fun hh => hk (hh ▸ hmine))⟩, ?_⟩
                  refine Fin0.fin ⟨E1, L0, (b1.block, b1.off + (l1.length + l2.length) * ie.sz) :: (G1 ++ G2), topOf dpn ((b1.block, b1.off + (l1.length + l2.length) * ie.sz) :: (G1 ++ G2)), 0, r1, hf0, ?_, ⟨?_, ⟨fun q hq => hq, ?_⟩, fun _ => trivial⟩, by simp [mayOwn], ?_, ?_, ?_, by simp [isBox]⟩
                  · refine ⟨by omega, fun u => hkeep (fun f hf => ⟨u, f, hf, rfl, Nat.le_refl _⟩), fun u hbu => setCells_heap _ _ _ _ _ ?_, fun u q hq => ?_⟩
                    · intro hh
                      obtain ⟨u', hu'⟩ := hf0.l4 _ htop0
                      exact (r1.b1 u hbu).2.2 u' _ hu' hh.symm
                    · obtain ⟨arr0, ty0, hq0⟩ := (r1.e3 u q hq).2
                      exact ⟨arr0, ty0, by rw [setCells_heap _ _ _ _ _ (fun hh => hf0.l1 _ htop0 u q hq hh.symm)]; exact hq0⟩
                  · have := Rep.lst (w := w.setCells b1.block (b1.off + l1.length * ie.sz) ys) (sz := ie.sz) (els := l1 ++ l2) (a := b1) (c := cp1) (xs := xs ++ ys) (F := G1 ++ G2)
                      ⟨hdr1.1, arr', tt, _, ha1, by rw [ha2]; exact hcap⟩ (by simpa using hroom) huu hoo (by
                        intro j v hv
                        rw [addr_add_plain hdr1.1]
                        by_cases hj : j < xs.length
                        · rw [setCells_out _ _ _ _ _ (.inl (by omega))]
                          rw [List.getElem?_append_left hj] at hv
                          have := hm1 j v hv
                          rwa [addr_add_plain hdr1.1] at this
                        · rw [List.getElem?_append_right (by omega)] at hv
                          have hjl : j - xs.length < ys.length := by
                            rcases Nat.lt_or_ge (j - xs.length) ys.length with h0 | h0
                            · exact h0
                            · rw [List.getElem?_eq_none h0] at hv; cases hv
                          have := World.cell?_setCells_in b1.block ys (b1.off + l1.length * ie.sz) w (fun k hk => by
                            simp only [World.cell?, harr]
                            have : b1.off + l1.length * ie.sz + k < arr.size := by rw [y7] at hk; omega
                            simp [this]) (j - xs.length) hjl
                          rw [show b1.off + l1.length * ie.sz + (j - xs.length) = b1.off + j by omega] at this
                          rw [this]
                          rw [List.getElem?_eq_getElem hjl] at hv
                          exact hv) (hRR.keep (hkeep hdomG))
                    simpa using this
                  · cases dpn
                    · simp [topOf]
                    · have := (hdnd rfl).1
                      simpa [topOf] using this
                  · intro f hf
                    rcases List.mem_cons.1 hf with rfl | hf
                    · exact ⟨.inr (.inr ⟨_, htop0, rfl⟩), by rw [z4]; exact hblk1⟩
                    · obtain ⟨u, f', h1, h2, h3⟩ := hdomG f hf
                      exact ⟨.inl ⟨u, f', h1, h2, h3⟩, by rw [z4, ← h2]; exact r1.f1 u f' h1⟩
                  · intro q hq
                    rcases hEsub q hq with rfl | ⟨hdn, hq'⟩
                    · refine ⟨⟨List.mem_cons_self .., hmine, arr', tt, ha1⟩, .inr ⟨_, htop0, rfl, by simp only; omega⟩, ?_⟩
                      intro f hf hfe
                      rcases List.mem_cons.1 hf with rfl | hf
                      · exact Nat.le_refl _
                      · have := hGb f hf hfe
                        simp only; omega
                    · obtain ⟨hnd, hin⟩ := hdnd hdn
                      have hqL := hin q hq'
                      have hqb : q.1 ≠ b1.block := by
                        intro hh
                        simp only [List.map_cons, List.nodup_cons] at hnd
                        exact hnd.1 (List.mem_map.2 ⟨q, hq', hh⟩)
                      refine ⟨⟨List.mem_cons_of_mem _ hq', (hf0.l3 q hqL).1, ?_⟩, .inr ⟨q, hqL, rfl, Nat.le_refl _⟩, ?_⟩
                      · obtain ⟨arr0, ty0, hq0⟩ := (hf0.l3 q hqL).2
                        exact ⟨arr0, ty0, by rw [setCells_heap _ _ _ _ _ hqb]; exact hq0⟩
                      · intro f hf hfe
                        rcases List.mem_cons.1 hf with rfl | hf
                        · exact absurd hfe.symm hqb
                        · obtain ⟨u, f', h1, h2, h3⟩ := hdomG f hf
                          exact Nat.le_trans h3 (hf0.l5 q hqL u f' h1 (h2.trans hfe))
                  · cases dpn
                    · simp [topOf]
                    · have := (hdnd rfl).1
                      simpa [topOf] using this
                · have hnz : l2 ≠ [] := by rintro rfl; simp at hroom; omega
                  obtain ⟨b2, m2, c2, q2, rfl, q3⟩ := y8 hnz
                  have hrun := run_append_grow (P := P) w t o.type e jj zz hu hjj hz0 b1 l1.length cp1 xs (by rw [hjs]; exact hxl) hm1 b2 l2.length c2 ys (by rw [hjs]; exact y7) q3 (by omega) h63 (growslice_fits (by omega) hneed')
                  have hge := grownCap_ge w (l1.length + l2.length) cp1 e
                  obtain ⟨s1, s2⟩ := fin_newlist h (d := d) (dp := dpn) (sz := ie.sz) (cp := grownCap w (l1.length + l2.length) cp1 e) (els := l1 ++ l2) r1 (L := if dpn = true then G1 ++ G2 else []) (by
                      cases dpn
                      · simpa using Free.nil
                      · obtain ⟨hd1, hd2⟩ := hdeep rfl
                        simp only [if_true]
                        rw [hd2] at f1
                        exact f1.sub (List.Sublist.append (List.sublist_cons_self _ _) y4)) hRR hdomG (fun hh => by simp [hh]) e (w.drew.alloc (.cells (xs.toArray ++ ys.toArray ++ Builtin.zeroCells zz.cells (grownCap w (l1.length + l2.length) cp1 e - (l1.length + l2.length))) e)) ⟨rfl, rfl, rfl, rfl⟩ (by simp) (by simpa using hge) (by
                      simp only [Array.size_append, List.size_toArray, size_zeroCells, hz2, y7, hxl]
                      have : (l1.length + l2.length) * ie.sz + (grownCap w (l1.length + l2.length) cp1 e - (l1.length + l2.length)) * ie.sz = grownCap w (l1.length + l2.length) cp1 e * ie.sz := by rw [← Nat.add_mul]; congr 1; omega
                      rw [Nat.add_mul] at this
                      omega) huu hoo
                  refine ⟨_, _, hexec ?_, s1, by simpa using s2⟩
                  rw [q1, q2]
                  exact hrun
            have flatc : ∀ {lm : List (Nat × Md)}, Core P c F E B M V a w o ⟨d, .own false, lm, .set d (.app x' y' ie.sz ie.b), false⟩ → Core P c F E B M V a w o ⟨d, .own true, lm, .set d (.apf x' y' ie.sz ie.b), false⟩ := by
              intro lm hcore e' he hok
              simp only [POp.set.injEq, true_and] at he
              subst he
              obtain ⟨k, kx, ky⟩ := hok
              obtain ⟨xv, w1, q1, q2, q3⟩ := hcore _ rfl k
              obtain ⟨nl1, l1, e1⟩ := isLst_inv k.1
              obtain ⟨nl2, l2, e2⟩ := isLst_inv k.2.1
              refine ⟨xv, w1, q1, q2, ?_⟩
              have hval : (Ex.app x' y' ie.sz ie.b).val V = .lst ie.sz (nl1 && l2.isEmpty) (l1 ++ l2) := by simp [Ex.val, e1, e2, appV]
              have hval2 : (Ex.apf x' y' ie.sz ie.b).val V = .lst ie.sz (nl1 && l2.isEmpty) (l1 ++ l2) := by simp [Ex.val, e1, e2, appV]
              rw [hval] at q3
              rw [hval2]
              refine q3.deepen fun cs hcs => ?_
              rw [e1] at kx
              rw [e2] at ky
              rcases List.mem_append.1 hcs with h0 | h0
              · exact kx cs h0
              · exact ky cs h0
            split at hs
            · rename_i l dp ht
              obtain ⟨ht1, hd1⟩ := take_same h.sb ht
              obtain ⟨E1, r1, f1, _, hl1⟩ := h.rg.take Free.nil hxA.1 ht1
              have hsub := addDem_sub h.sb hd1
              cases dp
              · simp only [Bool.false_eq_true, if_false] at hs
                split at hs
                · simp only [Option.some.injEq] at hs; subst hs
                  exact flatc (heart r1 f1 (by simp) (by simp) hl1)
                · simp only [Option.some.injEq] at hs; subst hs
                  exact heart r1 f1 (by simp) (by simp) hl1
              · simp only [if_true] at hs
                split at hs
                · rename_i l' hl'
                  simp only [Option.some.injEq] at hs; subst hs
                  have hyA' := hyA.dem ht1 r1
                  obtain ⟨ht2, hd2⟩ := take_same hsub (takeDeep_take hl')
                  obtain ⟨E2, r2, f2, _, _⟩ := r1.take f1 hyA'.1 ht2
                  rw [← addDem_append] at r2
                  exact heart (dp := true) r2 f2 (by simp) (fun _ => ⟨rfl, by simp [topOf]⟩) (by simp)
                · split at hs
                  · simp only [Option.some.injEq] at hs; subst hs
                    exact flatc (heart (dp := true) r1 f1 (by simp) (by simp) (by simp))
                  · simp only [Option.some.injEq] at hs; subst hs
                    exact heart (dp := true) r1 f1 (by simp) (by simp) (by simp)
            · cases hs
        · cases hs
      · cases hs
    · cases hs

end
end Go.Eng
namespace Go.Eng
open Go Go.RowKit
set_option linter.unusedSimpArgs false
set_option linter.unusedVariables false

section
variable {P : Program} {X : Cx} {c : Ctx} {F E : Nat → Foot} {B : Nat → Nat} {M M' : MF} {V : Env} {a : Act} {w w' : World} {G : GL} {o : Oper} {p : Plan}

theorem setF_self {α : Type} (F : Nat → α) (d : Nat) : setF F d (F d) = F := by
  funext t; unfold setF; split <;> simp_all

/-- a store into a variable of the frame's own -/
def CoreSt (P : Program) (c : Ctx) (M : MF) (V : Env) (a : Act) (w : World) (o : Oper) (p : Plan) : Prop :=
  ∀ e, p.p = .set p.d e → e.ok V → ∃ w', (execOp a.eval o).run P w = .ok .skip w' ∧ Stp c w w' ∧
    ∃ F2 E2 B2, RG c F2 E2 B2 (wrote (addDem p.dem M) p.d ⟨p.m, (M p.d).v, (M p.d).c + 1, (M p.d).g⟩) (V.upd p.d (e.val V)) (Act.x a) w'

theorem core_storeF (h : Pre P X c F E B M M' V a w G) {t x r n sz : Nat} {y : Operand} {i : TI} {y' : Opd} {Fy : Foot} {lm : List (Nat × Md)} {E1 : Nat → Foot} (ho : o.op = .store t (.tmp x) y) (hi : X.ti t = some i)
    (hdt : i.k.data = true) (hyA : OpA c F E B M V (Act.x a) w y' (a.eval y) Fy) (hsx : SlotR c F E B M V (Act.x a) w x (.adE r n 0 sz)) (hv : (M r).v = n) (hmr : (M r).m = .fr sz) (hsz : sz = i.sz)
    (r1 : RG c F E1 B (addDem lm M) V (Act.x a) w) {L : Foot} (f1 : Free c F E1 w L) (hLy : L = Fy) (hrM : addDem lm M r = M r) : CoreSt P c M V a w o ⟨r, .fr sz, lm, .set r (.stF r x sz y'), true⟩ := by
  obtain ⟨jj, hjj, hjs, _, _⟩ := tiB.info (h.tb _ _ hi) hdt
  intro e' he hok
  simp only [POp.set.injEq, true_and] at he
  subst he
  obtain ⟨k2, k3⟩ := hok
  have hbx : isBox ((addDem lm M) r).m = true := by rw [hrM, hmr]; rfl
  have hg0 : (M r).g = [] := by have := r1.b0 r hbx; rwa [hrM] at this
  have hrs := r1.slot (s := r) (by rw [hrM]; exact hg0)
  rw [hrM, hmr] at hrs
  obtain ⟨els, arr, tyy, q1, q2, a3, q4, q5, q6, a5, q8⟩ := hrs
  obtain ⟨ad, len, cp, i0, kk, e1, e2, e3, e4, e5⟩ := hsx.2 hv
  rw [q2] at e1
  simp only [Value.slice.injEq, Option.some.injEq] at e1
  obtain ⟨rfl, rfl, rfl⟩ := e1
  obtain ⟨off, hoff⟩ : ∃ off, off = i0 * sz := ⟨_, rfl⟩
  rw [hsz] at k2
  obtain ⟨cs, hcsd⟩ : ∃ cs, cs = els.flatten := ⟨_, rfl⟩
  have hcl : cs.length = els.length * sz := by rw [hcsd]; exact flatten_length q5
  have hi0 : i0 * sz + sz ≤ els.length * sz := by rw [← Nat.succ_mul]; exact Nat.mul_le_mul_right _ e4
  have k1 : off + i.sz ≤ cs.length := by rw [hcl, hoff, ← hsz]; exact hi0
  have a4 : arr.size = cs.length := by rw [hcl]; exact q4
  rw [← hcsd] at a5
  have hflat : (els.set i0 (cellsOf (y'.val V))).flatten = putc cs off (cellsOf (y'.val V)) := by
    rw [flatten_set (by rw [k2, hsz]) q5 i0 e4, putc, hcsd, hoff, k2, hsz]
  obtain ⟨dpn, hdpnT⟩ : ∃ b : Bool, b = true := ⟨_, rfl⟩
  obtain ⟨dp, hdpT⟩ : ∃ b : Bool, b = true := ⟨_, rfl⟩
  obtain ⟨cov, hcov⟩ : ∃ b : Bool, b = false := ⟨_, rfl⟩
  have k4 : cov = true → scL (cs.take off) = true ∧ scL (cs.drop (off + i.sz)) = true := fun hh => by rw [hcov] at hh; cases hh
  have a6 : dp = true → Owned true (F r) (E1 r) := fun _ => q8
  have hdpn : dpn = true → L = Fy ∧ (dp = true ∨ cov = true) := fun _ => ⟨hLy, .inl hdpT⟩
  have hyj : y'.val V ≠ .junk := oneB_junk k3
  have hcy := hyA.1.rep.cells hyj
  have hyl := hcy.length
  have hyone := ones_val hcy k3
  have hdomy := hyA.1.dom
  -- the content, in three
  have hcs : cs = cs.take off ++ sub cs off i.sz ++ cs.drop (off + i.sz) := by
    simp only [sub]
    rw [← List.drop_drop, List.append_assoc, List.take_append_drop, List.take_append_drop]
  rw [hcs] at a5
  obtain ⟨x12, x3, G12, FZ, ex, eF, s12, sZ⟩ := RepL.split _ a5
  obtain ⟨xA, xM, FA, FM, ex2, eF2, sA, sM⟩ := RepL.split _ s12
  have hFr : F r = FA ++ FM ++ FZ := by rw [eF, eF2]
  have lA : xA.length = off := by rw [sA.length, List.length_take]; omega
  have lM : xM.length = i.sz := by rw [sM.length]; simp [sub]; omega
  have harrl : arr.toList.length = cs.length := by simpa using a4
  -- the run
  have hrun : (execOp a.eval o).run P w = .ok .skip (w.setCells (B r) off (a.eval y).cells.toList) := by
    have hst := run_storeCells_cells (P := P) (B r) off (a.eval y).cells.toList 0 w (fun j hj => by
        simp only [World.cell?, a3, Nat.add_zero]
        have : off + j < arr.size := by rw [a4]; rw [hyl, k2] at hj; omega
        simp [this]) (fun j hj => by simp [World.frozen?, a3]) hyone
    rw [Nat.add_zero] at hst
    have hx : a.eval (.tmp x) = .pointer (some ⟨B r, off, none⟩) := by
      have : a.eval (.tmp x) = Act.x a x := rfl
      rw [this, e5, addr_add_plain (a := (⟨B r, 0, none⟩ : Addr)) rfl, addr_add_plain rfl]; simp [hoff]
    have hcsz : (a.eval y).cells.size = jj.size := by have := hyl; rw [k2] at this; simpa [hjs] using this
    have : (Instr.storeAt t (a.eval (.tmp x)) (a.eval y)).run P w = .ok () (w.setCells (B r) off (a.eval y).cells.toList) := by
      rw [hx]
      simp [Instr.storeAt, Instr.sureAddr, storeVar, Sem.run_bind, run_sizeOf hjj, Result.andThen, hcsz, hst]
    simp [execOp, ho, Sem.run_bind, this, Result.andThen]
  obtain ⟨z1, z2, z3, z4⟩ := setCells_rest (B r) (a.eval y).cells.toList off w
  obtain ⟨arr', ha1, ha2⟩ := setCells_shape (B r) (a.eval y).cells.toList off w a3
  obtain ⟨hmine, hblt, hbne⟩ := r1.b1 r hbx
  refine ⟨_, hrun, ⟨z1, z2, z3, by omega, fun k hk => setCells_heap _ _ _ _ _ (fun hh => hk (hh ▸ hmine))⟩, ?_⟩
  have hheap : ∀ k, k ≠ B r → (w.setCells (B r) off (a.eval y).cells.toList).heap[k]? = w.heap[k]? := fun k hk => setCells_heap _ _ _ _ _ hk
  have hkeep : ∀ {F0 : Foot}, (∀ f ∈ F0, f.1 ≠ B r) → Keeps w (w.setCells (B r) off (a.eval y).cells.toList) F0 := fun hf => keeps_set (fun e he hh => absurd hh (hf e he))
  have hneA : ∀ f ∈ FA, f.1 ≠ B r := fun f hf => hbne r f (by rw [hFr]; simp [hf])
  have hneZ : ∀ f ∈ FZ, f.1 ≠ B r := fun f hf => hbne r f (by rw [hFr]; simp [hf])
  have hneY : ∀ f ∈ Fy, f.1 ≠ B r := fun f hf => by
    obtain ⟨u, f', h1, h2, h3⟩ := hdomy f hf
    rw [← h2]; exact hbne u f' h1
  have hdomN : Dom F (FA ++ Fy ++ FZ) := by
    intro f hf
    rcases List.mem_append.1 hf with hf | hf
    · rcases List.mem_append.1 hf with hf | hf
      · exact ⟨r, f, by rw [hFr]; simp [hf], rfl, Nat.le_refl _⟩
      · exact hdomy f hf
    · exact ⟨r, f, by rw [hFr]; simp [hf], rfl, Nat.le_refl _⟩
  have hneN : ∀ f ∈ FA ++ Fy ++ FZ, f.1 ≠ B r := by
    intro f hf
    rcases List.mem_append.1 hf with hf | hf
    · rcases List.mem_append.1 hf with hf | hf
      · exact hneA f hf
      · exact hneY f hf
    · exact hneZ f hf
  -- the cells then
  have harr' : arr'.toList = xA ++ (a.eval y).cells.toList ++ x3 := by
    apply List.ext_getElem?
    intro j
    have hal : arr.toList = xA ++ xM ++ x3 := by rw [ex, ex2]
    have hyl' : (a.eval y).cells.toList.length = i.sz := by rw [hyl, k2]
    by_cases hj : j < arr'.size
    · have hcell : (w.setCells (B r) off (a.eval y).cells.toList).cell? ⟨B r, j, none⟩ = arr'.toList[j]? := by
        simp [World.cell?, ha1]
      rw [← hcell]
      by_cases h1 : j < off
      · rw [setCells_out _ _ _ _ _ (.inl h1)]
        simp only [World.cell?, a3]
        rw [List.append_assoc, List.getElem?_append_left (by omega)]
        have : arr.toList[j]? = xA[j]? := by rw [hal, List.append_assoc, List.getElem?_append_left (by omega)]
        simpa using this
      · by_cases h2 : j < off + i.sz
        · have := World.cell?_setCells_in (B r) (a.eval y).cells.toList off w (fun k hk => by
            simp only [World.cell?, a3]
            have : off + k < arr.size := by rw [a4]; omega
            simp [this]) (j - off) (by omega)
          rw [show off + (j - off) = j by omega] at this
          rw [this, List.append_assoc, List.getElem?_append_right (by omega), List.getElem?_append_left (by omega), lA]
          rw [List.getElem?_eq_getElem (by omega)]
        · rw [setCells_out _ _ _ _ _ (.inr (by omega))]
          simp only [World.cell?, a3]
          have : arr.toList[j]? = x3[j - (off + i.sz)]? := by
            rw [hal, List.getElem?_append_right (by simp [lA, lM]; omega)]
            congr 1; simp [lA, lM]
          rw [List.getElem?_append_right (by simp [lA, hyl']; omega)]
          rw [show j - (xA ++ (a.eval y).cells.toList).length = j - (off + i.sz) by simp only [List.length_append, lA, hyl']]
          simpa using this
    · have h5 : arr'.size = xA.length + i.sz + x3.length := by
        rw [ha2]
        have := congrArg List.length hal
        simp only [List.length_append, lM, Array.length_toList] at this
        omega
      rw [List.getElem?_eq_none (by simpa using hj), List.getElem?_eq_none (by simp only [List.length_append, hyl']; omega)]
  have hnewrep : RepL (w.setCells (B r) off (a.eval y).cells.toList) (putc cs off (cellsOf (y'.val V))) arr'.toList (FA ++ Fy ++ FZ) := by
    rw [harr']
    have := ((sA.append hcy).append sZ).keep (hkeep hneN)
    simpa [putc, k2] using this
  have hlen' : arr'.size = (putc cs off (cellsOf (y'.val V))).length := by
    have := hnewrep.length
    simpa using this
  -- outside the part nothing is owned that would be lost
  have hown : dpn = true → (∀ e ∈ FA ++ FZ, e ∈ E1 r) ∧ ((FA ++ FZ).map (·.1)).Nodup := by
    intro hdn
    rcases (hdpn hdn).2 with h1 | h1
    · obtain ⟨q1, q2⟩ := a6 h1
      simp only [topOf, if_true] at q1 q2
      rw [hFr] at q1 q2
      refine ⟨fun e he => q1 e (by rcases List.mem_append.1 he with h0 | h0 <;> simp [h0]), q2.sublist (List.Sublist.map _ ?_)⟩
      exact List.Sublist.append (List.sublist_append_left _ _) (List.Sublist.refl _)
    · obtain ⟨q1, q2⟩ := k4 h1
      rw [sA.sc q1, sZ.sc q2]; simp
  let E' : Foot := if dpn = true then FA ++ Fy ++ FZ else []
  have hE' : ∀ e ∈ E', dpn = true ∧ e ∈ FA ++ Fy ++ FZ := by
    intro e he
    exact ⟨hdpnT, by simpa [E', hdpnT] using he⟩
  have horig : ∀ e, dpn = true → e ∈ FA ++ Fy ++ FZ → e ∈ E1 r ∨ e ∈ L := by
    intro e hdn he
    rcases List.mem_append.1 he with he | he
    · rcases List.mem_append.1 he with he | he
      · exact .inl ((hown hdn).1 e (List.mem_append_left _ he))
      · exact .inr (by rw [(hdpn hdn).1]; exact he)
    · exact .inl ((hown hdn).1 e (List.mem_append_right _ he))
  have hlim : ∀ e, dpn = true → e ∈ FA ++ Fy ++ FZ → ∀ u, ∀ f ∈ F u, f.1 = e.1 → f.2 ≤ e.2 := by
    intro e hdn he
    rcases horig e hdn he with h0 | h0
    · exact r1.e5 r e h0
    · exact f1.l5 e h0
  have hput := r1.put (E1 := E1) (M' := wrote (addDem lm M) r ⟨.fr sz, (M r).v, (M r).c + 1, (M r).g⟩) r (.lst sz false (els.set i0 (cellsOf (y'.val V)))) (Act.x a r) (FA ++ Fy ++ FZ) E' (B r)
    (w' := w.setCells (B r) off (a.eval y).cells.toList) (by omega) (fun t ht => hkeep (fun f hf => hbne t f hf)) (fun t ht hbt => hheap _ (fun hh => ht (r1.b2 t r hbt hbx hh)))
    (fun t e _ he => by
      obtain ⟨ar, ty0, hq⟩ := (r1.e3 t e he).2
      exact ⟨ar, ty0, by rw [hheap _ (hbne t e (r1.e4 t e he))]; exact hq⟩)
    ⟨by rw [wrote_same, hrM]; exact Nat.le_refl _, by rw [wrote_same, hrM]; exact Nat.lt_succ_self _, fun _ => ⟨rfl, fun bb => by rw [q1]; simp⟩⟩
    (fun t ht => by rw [wrote_ne _ _ ht]; exact ⟨rfl, rfl, rfl⟩) (fun t ht => .inl ⟨by rw [wrote_ne _ _ ht], rfl⟩)
    (by rw [wrote_same]; simp [hg0])
    (by
      rw [wrote_same]
      intro hmo; simp [mayOwn] at hmo)
    (by
      rw [wrote_same]
      simp only [hg0, List.not_mem_nil, false_implies, implies_true, not_true_eq_false, and_true, true_implies]
      refine ⟨_, arr', tyy, by rw [upd_same], by rw [setF_same, setF_same, List.length_set]; exact q2, by rw [setF_same]; exact ha1, by rw [List.length_set, ← q4, ha2], ?_, ?_, by rw [setF_same, hflat]; exact hnewrep, ?_⟩
      · intro cs' hcs
        rcases List.mem_or_eq_of_mem_set hcs with h0 | h0
        · exact q5 _ h0
        · rw [h0, k2, hsz]
      · intro cs' hcs
        rcases List.mem_or_eq_of_mem_set hcs with h0 | h0
        · exact q6 _ h0
        · rw [h0]; exact k3
      have hdn := hdpnT
      rw [setF_same, setF_same]
      refine ⟨fun e he => by simpa [E', hdn, topOf] using he, ?_⟩
      simp only [topOf, if_true]
      obtain ⟨q1, q2⟩ := hown hdn
      have hy2 : (Fy.map (·.1)).Nodup := by rw [← (hdpn hdn).1]; exact f1.l2
      have hdis : ∀ e ∈ Fy, ∀ f ∈ FA ++ FZ, e.1 ≠ f.1 := fun e he f hf => f1.l1 e (by rw [(hdpn hdn).1]; exact he) r f (q1 f hf)
      rw [List.map_append, List.map_append] at *
      rw [List.nodup_append] at q2
      rw [List.nodup_append, List.nodup_append]
      refine ⟨⟨q2.1, hy2, ?_⟩, q2.2.1, ?_⟩
      · intro k hk l hl
        obtain ⟨e, he, rfl⟩ := List.mem_map.1 hk
        obtain ⟨f, hf, rfl⟩ := List.mem_map.1 hl
        exact (hdis f hf e (List.mem_append_left _ he)).symm
      · intro k hk l hl
        obtain ⟨f, hf, rfl⟩ := List.mem_map.1 hl
        rcases List.mem_append.1 hk with hk | hk
        · exact q2.2.2 k hk f.1 (List.mem_map.2 ⟨f, hf, rfl⟩)
        · obtain ⟨e, he, rfl⟩ := List.mem_map.1 hk
          exact hdis e he f (List.mem_append_right _ hf))
    (by
      intro e he t ht f hf
      obtain ⟨hdn, he'⟩ := hE' e he
      rcases horig e hdn he' with h0 | h0
      · exact fun hh => ht (r1.e1 r t e f h0 hf hh).symm
      · exact f1.l1 e h0 t f hf)
    (by
      by_cases hdn : dpn = true
      · obtain ⟨q1, q2⟩ := hown hdn
        have hy2 : (Fy.map (·.1)).Nodup := by rw [← (hdpn hdn).1]; exact f1.l2
        have hdis : ∀ e ∈ Fy, ∀ f ∈ FA ++ FZ, e.1 ≠ f.1 := fun e he f hf => f1.l1 e (by rw [(hdpn hdn).1]; exact he) r f (q1 f hf)
        simp only [E', hdn, if_true]
        rw [List.map_append, List.map_append]
        rw [List.map_append, List.nodup_append] at q2
        rw [List.nodup_append, List.nodup_append]
        refine ⟨⟨q2.1, hy2, ?_⟩, q2.2.1, ?_⟩
        · intro k hk l hl
          obtain ⟨e, he, rfl⟩ := List.mem_map.1 hk
          obtain ⟨f, hf, rfl⟩ := List.mem_map.1 hl
          exact (hdis f hf e (List.mem_append_left _ he)).symm
        · intro k hk l hl
          obtain ⟨f, hf, rfl⟩ := List.mem_map.1 hl
          rcases List.mem_append.1 hk with hk | hk
          · exact q2.2.2 k hk f.1 (List.mem_map.2 ⟨f, hf, rfl⟩)
          · obtain ⟨e, he, rfl⟩ := List.mem_map.1 hk
            exact hdis e he f (List.mem_append_right _ hf)
      · simp [E', hdn])
    (by
      intro e he
      obtain ⟨hdn, he'⟩ := hE' e he
      have h3 : c.mine e.1 ∧ Unfrozen w e.1 := by
        rcases horig e hdn he' with h0 | h0
        · exact r1.e3 r e h0
        · exact f1.l3 e h0
      refine ⟨h3.1, ?_⟩
      obtain ⟨ar, ty0, hq⟩ := h3.2
      exact ⟨ar, ty0, by rw [hheap _ (hneN e he')]; exact hq⟩)
    (fun e he => (hE' e he).2)
    (by
      intro e he
      obtain ⟨hdn, he'⟩ := hE' e he
      refine ⟨fun u _ => hlim e hdn he' u, fun f hf hfe => ?_⟩
      obtain ⟨u, f', h1, h2, h3⟩ := hdomN f hf
      exact Nat.le_trans h3 (hlim e hdn he' u f' h1 (h2.trans hfe)))
    (by
      intro f hf
      obtain ⟨u, f', h1, h2, h3⟩ := hdomN f hf
      refine ⟨fun t _ e he hfe => Nat.le_trans h3 (r1.e5 t e he u f' h1 (h2.trans hfe)), fun t _ hbt => ?_, ?_⟩
      · rw [← h2]; exact (r1.b1 t hbt).2.2 u f' h1
      · rw [← h2, z4]; exact r1.f1 u f' h1)
    (by
      intro f hf
      obtain ⟨u, f', h1, h2, h3⟩ := hdomN f hf
      rcases r1.d1 u f' h1 with h4 | ⟨g, h4, h5, h6⟩
      · exact .inl (h2 ▸ h4)
      · exact .inr ⟨g, h4, h5.trans h2, Nat.le_trans h3 h6⟩)
    (by
      intro _
      rw [wrote_same]
      exact ⟨hg0, hmine, by rw [z4]; exact hblt, fun u _ f hf => hbne u f hf, hneN, fun t ht hbt hh => ht (r1.b2 t r hbt hbx hh)⟩)
  rw [setF_self, setF_self] at hput
  have hval : (Ex.stF r x sz y').val V = .lst sz false (els.set i0 (cellsOf (y'.val V))) := by simp [Ex.val, q1, e3, PV.els, PV.num]
  rw [hval]
  exact ⟨_, _, _, hput⟩

theorem core_store (h : Pre P X c F E B M M' V a w G) (hs : stepO X M' G o = some p) {t x : Nat} {y : Operand} (ho : o.op = .store t (.tmp x) y) (hd : o.dst = none) : CoreSt P c M V a w o p := by
  simp only [stepO, ho, hd] at hs
  split at hs
  · cases hs
  · rename_i hg
    simp only [Bool.or_eq_true, Bool.not_eq_true', bne_iff_ne, ne_eq, not_or, Bool.not_eq_false, Decidable.not_not] at hg
    obtain ⟨hgx, hG⟩ := hg
    subst hG
    split at hs
    · rename_i i y' hi hy
      split at hs
      · cases hs
      · rename_i hdt
        simp only [Bool.not_eq_true', Bool.not_eq_false] at hdt
        split at hs
        · rename_i r n off hmx
          have hMx : M' x = M x := sb_ne h.sb (fun h0 => by simp [asAd, h0] at hmx)
          have hMA : asAd M' x = asAd M x := by unfold asAd; rw [hMx]
          rw [hMA] at hmx
          rw [hMx] at hgx
          have hgx0 : (M x).g = [] := by
            apply List.eq_nil_iff_forall_not_mem.2
            intro q hq
            have := List.all_eq_true.1 hgx q hq
            simp at this
          have hsx := (h.rg.slot hgx0).asAd
          rw [hmx] at hsx
          split at hs
          · cases hs
          · rename_i hv
            simp only [bne_iff_ne, ne_eq, Decidable.not_not] at hv
            split at hs
            · rename_i dp ty hmr
              have hMr : M' r = M r := sb_ne h.sb (fun h0 => by rw [h0] at hmr; cases hmr)
              rw [hMr] at hmr hv
              obtain ⟨hbxr, _, hbs⟩ := boxOf_slot (c := c) (F := F) (E := E) (B := B) (M := M) (V := V) (x := Act.x a) (w := w) (t := r) hmr
              obtain ⟨Fy, hyA⟩ := h.opA hy
              obtain ⟨jj, hjj, hjs, _, _⟩ := tiB.info (h.tb _ _ hi) hdt
              obtain ⟨b, e1, e2, e3⟩ := hsx.2 hv
              have heart : ∀ {lm : List (Nat × Md)} {E1 : Nat → Foot} {L : Foot} {dpn cov : Bool}, RG c F E1 B (addDem lm M) V (Act.x a) w → Free c F E1 w L → addDem lm M r = M r →
                  (dpn = true → L = Fy ∧ (dp = true ∨ cov = true)) →
                  ∀ e, POp.set r (.stB r off i.sz y' cov) = .set r e → e.ok V → ∃ w', (execOp a.eval o).run P w = .ok .skip w' ∧ Stp c w w' ∧
                    ∃ F2 E2 B2, RG c F2 E2 B2 (wrote (addDem lm M) r ⟨.box dpn ty, (M r).v, (M r).c + 1, (M r).g⟩) (V.upd r (e.val V)) (Act.x a) w' ∧ (cov = true → F2 r = Fy) := by
                intro lm E1 L dpn cov r1 f1 hrM hdpn e' he hok
                simp only [POp.set.injEq, true_and] at he
                subst he
                obtain ⟨k1, k2, k3, k4⟩ := hok
                have hbx : isBox ((addDem lm M) r).m = true := by rw [hrM]; exact hbxr
                have hg0 : (M r).g = [] := by have := r1.b0 r hbx; rwa [hrM] at this
                have hrs := r1.slot (s := r) (by rw [hrM]; exact hg0)
                rw [hrM] at hrs
                obtain ⟨cs, arr, tyy, a1, a2, a3, a4, a5, a6⟩ := (boxOf_slot (c := c) (F := F) (E := E1) (B := B) (M := addDem lm M) (V := V) (x := Act.x a) (w := w) (t := r) hmr).2.2 hrs
                rw [a1] at k1 k4
                simp only [PV.pcs] at k1 k4
                have hb : b = ⟨B r, 0, none⟩ := by rw [e1] at a2; simpa using a2
                subst hb
                have hyj : y'.val V ≠ .junk := oneB_junk k3
                have hcy := hyA.1.rep.cells hyj
                have hyl := hcy.length
                have hyone := ones_val hcy k3
                have hdomy := hyA.1.dom
                -- the content, in three
                have hcs : cs = cs.take off ++ sub cs off i.sz ++ cs.drop (off + i.sz) := by
                  simp only [sub]
                  rw [← List.drop_drop, List.append_assoc, List.take_append_drop, List.take_append_drop]
                rw [hcs] at a5
                obtain ⟨x12, x3, G12, FZ, ex, eF, s12, sZ⟩ := RepL.split _ a5
                obtain ⟨xA, xM, FA, FM, ex2, eF2, sA, sM⟩ := RepL.split _ s12
                have hFr : F r = FA ++ FM ++ FZ := by rw [eF, eF2]
                have lA : xA.length = off := by rw [sA.length, List.length_take]; omega
                have lM : xM.length = i.sz := by rw [sM.length]; simp [sub]; omega
                have harrl : arr.toList.length = cs.length := by simpa using a4
                -- the run
                have hrun : (execOp a.eval o).run P w = .ok .skip (w.setCells (B r) off (a.eval y).cells.toList) := by
                  have hst := run_storeCells_cells (P := P) (B r) off (a.eval y).cells.toList 0 w (fun j hj => by
                      simp only [World.cell?, a3, Nat.add_zero]
                      have : off + j < arr.size := by rw [a4]; rw [hyl, k2] at hj; omega
                      simp [this]) (fun j hj => by simp [World.frozen?, a3]) hyone
                  rw [Nat.add_zero] at hst
                  have hx : a.eval (.tmp x) = .pointer (some ⟨B r, off, none⟩) := by
                    have : a.eval (.tmp x) = Act.x a x := rfl
                    rw [this, e3, addr_add_plain rfl]; simp
                  have hcsz : (a.eval y).cells.size = jj.size := by have := hyl; rw [k2] at this; simpa [hjs] using this
                  have : (Instr.storeAt t (a.eval (.tmp x)) (a.eval y)).run P w = .ok () (w.setCells (B r) off (a.eval y).cells.toList) := by
                    rw [hx]
                    simp [Instr.storeAt, Instr.sureAddr, storeVar, Sem.run_bind, run_sizeOf hjj, Result.andThen, hcsz, hst]
                  simp [execOp, ho, Sem.run_bind, this, Result.andThen]
                obtain ⟨z1, z2, z3, z4⟩ := setCells_rest (B r) (a.eval y).cells.toList off w
                obtain ⟨arr', ha1, ha2⟩ := setCells_shape (B r) (a.eval y).cells.toList off w a3
                obtain ⟨hmine, hblt, hbne⟩ := r1.b1 r hbx
                refine ⟨_, hrun, ⟨z1, z2, z3, by omega, fun k hk => setCells_heap _ _ _ _ _ (fun hh => hk (hh ▸ hmine))⟩, ?_⟩
                have hheap : ∀ k, k ≠ B r → (w.setCells (B r) off (a.eval y).cells.toList).heap[k]? = w.heap[k]? := fun k hk => setCells_heap _ _ _ _ _ hk
                have hkeep : ∀ {F0 : Foot}, (∀ f ∈ F0, f.1 ≠ B r) → Keeps w (w.setCells (B r) off (a.eval y).cells.toList) F0 := fun hf => keeps_set (fun e he hh => absurd hh (hf e he))
                have hneA : ∀ f ∈ FA, f.1 ≠ B r := fun f hf => hbne r f (by rw [hFr]; simp [hf])
                have hneZ : ∀ f ∈ FZ, f.1 ≠ B r := fun f hf => hbne r f (by rw [hFr]; simp [hf])
                have hneY : ∀ f ∈ Fy, f.1 ≠ B r := fun f hf => by
                  obtain ⟨u, f', h1, h2, h3⟩ := hdomy f hf
                  rw [← h2]; exact hbne u f' h1
                have hdomN : Dom F (FA ++ Fy ++ FZ) := by
                  intro f hf
                  rcases List.mem_append.1 hf with hf | hf
                  · rcases List.mem_append.1 hf with hf | hf
                    · exact ⟨r, f, by rw [hFr]; simp [hf], rfl, Nat.le_refl _⟩
                    · exact hdomy f hf
                  · exact ⟨r, f, by rw [hFr]; simp [hf], rfl, Nat.le_refl _⟩
                have hneN : ∀ f ∈ FA ++ Fy ++ FZ, f.1 ≠ B r := by
                  intro f hf
                  rcases List.mem_append.1 hf with hf | hf
                  · rcases List.mem_append.1 hf with hf | hf
                    · exact hneA f hf
                    · exact hneY f hf
                  · exact hneZ f hf
                -- the cells then
                have harr' : arr'.toList = xA ++ (a.eval y).cells.toList ++ x3 := by
                  apply List.ext_getElem?
                  intro j
                  have hal : arr.toList = xA ++ xM ++ x3 := by rw [ex, ex2]
                  have hyl' : (a.eval y).cells.toList.length = i.sz := by rw [hyl, k2]
                  by_cases hj : j < arr'.size
                  · have hcell : (w.setCells (B r) off (a.eval y).cells.toList).cell? ⟨B r, j, none⟩ = arr'.toList[j]? := by
                      simp [World.cell?, ha1]
                    rw [← hcell]
                    by_cases h1 : j < off
                    · rw [setCells_out _ _ _ _ _ (.inl h1)]
                      simp only [World.cell?, a3]
                      rw [List.append_assoc, List.getElem?_append_left (by omega)]
                      have : arr.toList[j]? = xA[j]? := by rw [hal, List.append_assoc, List.getElem?_append_left (by omega)]
                      simpa using this
                    · by_cases h2 : j < off + i.sz
                      · have := World.cell?_setCells_in (B r) (a.eval y).cells.toList off w (fun k hk => by
                          simp only [World.cell?, a3]
                          have : off + k < arr.size := by rw [a4]; omega
                          simp [this]) (j - off) (by omega)
                        rw [show off + (j - off) = j by omega] at this
                        rw [this, List.append_assoc, List.getElem?_append_right (by omega), List.getElem?_append_left (by omega), lA]
                        rw [List.getElem?_eq_getElem (by omega)]
                      · rw [setCells_out _ _ _ _ _ (.inr (by omega))]
                        simp only [World.cell?, a3]
                        have : arr.toList[j]? = x3[j - (off + i.sz)]? := by
                          rw [hal, List.getElem?_append_right (by simp [lA, lM]; omega)]
                          congr 1; simp [lA, lM]
                        rw [List.getElem?_append_right (by simp [lA, hyl']; omega)]
                        rw [show j - (xA ++ (a.eval y).cells.toList).length = j - (off + i.sz) by simp only [List.length_append, lA, hyl']]
                        simpa using this
                  · have h5 : arr'.size = xA.length + i.sz + x3.length := by
                      rw [ha2]
                      have := congrArg List.length hal
                      simp only [List.length_append, lM, Array.length_toList] at this
                      omega
                    rw [List.getElem?_eq_none (by simpa using hj), List.getElem?_eq_none (by simp only [List.length_append, hyl']; omega)]
                have hnewrep : RepL (w.setCells (B r) off (a.eval y).cells.toList) (putc cs off (cellsOf (y'.val V))) arr'.toList (FA ++ Fy ++ FZ) := by
                  rw [harr']
                  have := ((sA.append hcy).append sZ).keep (hkeep hneN)
                  simpa [putc, k2] using this
                have hlen' : arr'.size = (putc cs off (cellsOf (y'.val V))).length := by
                  have := hnewrep.length
                  simpa using this
                -- outside the part nothing is owned that would be lost
                have hown : dpn = true → (∀ e ∈ FA ++ FZ, e ∈ E1 r) ∧ ((FA ++ FZ).map (·.1)).Nodup := by
                  intro hdn
                  rcases (hdpn hdn).2 with h1 | h1
                  · obtain ⟨q1, q2⟩ := a6 h1
                    simp only [topOf, if_true] at q1 q2
                    rw [hFr] at q1 q2
                    refine ⟨fun e he => q1 e (by rcases List.mem_append.1 he with h0 | h0 <;> simp [h0]), q2.sublist (List.Sublist.map _ ?_)⟩
                    exact List.Sublist.append (List.sublist_append_left _ _) (List.Sublist.refl _)
                  · obtain ⟨q1, q2⟩ := k4 h1
                    rw [sA.sc q1, sZ.sc q2]; simp
                let E' : Foot := if dpn = true then FA ++ Fy ++ FZ else []
                have hE' : ∀ e ∈ E', dpn = true ∧ e ∈ FA ++ Fy ++ FZ := by
                  intro e he
                  simp only [E'] at he
                  split at he
                  · rename_i hh; exact ⟨hh, he⟩
                  · cases he
                have horig : ∀ e, dpn = true → e ∈ FA ++ Fy ++ FZ → e ∈ E1 r ∨ e ∈ L := by
                  intro e hdn he
                  rcases List.mem_append.1 he with he | he
                  · rcases List.mem_append.1 he with he | he
                    · exact .inl ((hown hdn).1 e (List.mem_append_left _ he))
                    · exact .inr (by rw [(hdpn hdn).1]; exact he)
                  · exact .inl ((hown hdn).1 e (List.mem_append_right _ he))
                have hlim : ∀ e, dpn = true → e ∈ FA ++ Fy ++ FZ → ∀ u, ∀ f ∈ F u, f.1 = e.1 → f.2 ≤ e.2 := by
                  intro e hdn he
                  rcases horig e hdn he with h0 | h0
                  · exact r1.e5 r e h0
                  · exact f1.l5 e h0
                have hput := r1.put (E1 := E1) (M' := wrote (addDem lm M) r ⟨.box dpn ty, (M r).v, (M r).c + 1, (M r).g⟩) r (.ptr (putc cs off (cellsOf (y'.val V)))) (Act.x a r) (FA ++ Fy ++ FZ) E' (B r)
                  (w' := w.setCells (B r) off (a.eval y).cells.toList) (by omega) (fun t ht => hkeep (fun f hf => hbne t f hf)) (fun t ht hbt => hheap _ (fun hh => ht (r1.b2 t r hbt hbx hh)))
                  (fun t e _ he => by
                    obtain ⟨ar, ty0, hq⟩ := (r1.e3 t e he).2
                    exact ⟨ar, ty0, by rw [hheap _ (hbne t e (r1.e4 t e he))]; exact hq⟩)
                  ⟨by rw [wrote_same, hrM]; exact Nat.le_refl _, by rw [wrote_same, hrM]; exact Nat.lt_succ_self _, fun _ => ⟨rfl, fun bb => by rw [a1]; simp⟩⟩
                  (fun t ht => by rw [wrote_ne _ _ ht]; exact ⟨rfl, rfl, rfl⟩) (fun t ht => .inl ⟨by rw [wrote_ne _ _ ht], rfl⟩)
                  (by rw [wrote_same]; simp [hg0])
                  (by
                    rw [wrote_same]
                    intro hmo
                    have : dpn = false := by cases dpn <;> simp [mayOwn] at hmo ⊢
                    simp [E', this])
                  (by
                    rw [wrote_same]
                    simp only [hg0, List.not_mem_nil, false_implies, implies_true, not_true_eq_false, and_true, true_implies]
                    refine ⟨_, arr', tyy, by rw [upd_same], by rw [setF_same, setF_same]; exact a2, by rw [setF_same]; exact ha1, hlen', by rw [setF_same]; exact hnewrep, ?_⟩
                    intro hdn
                    rw [setF_same, setF_same]
                    refine ⟨fun e he => by simpa [E', hdn, topOf] using he, ?_⟩
                    simp only [topOf, if_true]
                    obtain ⟨q1, q2⟩ := hown hdn
                    have hy2 : (Fy.map (·.1)).Nodup := by rw [← (hdpn hdn).1]; exact f1.l2
                    have hdis : ∀ e ∈ Fy, ∀ f ∈ FA ++ FZ, e.1 ≠ f.1 := fun e he f hf => f1.l1 e (by rw [(hdpn hdn).1]; exact he) r f (q1 f hf)
                    rw [List.map_append, List.map_append] at *
                    rw [List.nodup_append] at q2
                    rw [List.nodup_append, List.nodup_append]
                    refine ⟨⟨q2.1, hy2, ?_⟩, q2.2.1, ?_⟩
                    · intro k hk l hl
                      obtain ⟨e, he, rfl⟩ := List.mem_map.1 hk
                      obtain ⟨f, hf, rfl⟩ := List.mem_map.1 hl
                      exact (hdis f hf e (List.mem_append_left _ he)).symm
                    · intro k hk l hl
                      obtain ⟨f, hf, rfl⟩ := List.mem_map.1 hl
                      rcases List.mem_append.1 hk with hk | hk
                      · exact q2.2.2 k hk f.1 (List.mem_map.2 ⟨f, hf, rfl⟩)
                      · obtain ⟨e, he, rfl⟩ := List.mem_map.1 hk
                        exact hdis e he f (List.mem_append_right _ hf))
                  (by
                    intro e he t ht f hf
                    obtain ⟨hdn, he'⟩ := hE' e he
                    rcases horig e hdn he' with h0 | h0
                    · exact fun hh => ht (r1.e1 r t e f h0 hf hh).symm
                    · exact f1.l1 e h0 t f hf)
                  (by
                    by_cases hdn : dpn = true
                    · obtain ⟨q1, q2⟩ := hown hdn
                      have hy2 : (Fy.map (·.1)).Nodup := by rw [← (hdpn hdn).1]; exact f1.l2
                      have hdis : ∀ e ∈ Fy, ∀ f ∈ FA ++ FZ, e.1 ≠ f.1 := fun e he f hf => f1.l1 e (by rw [(hdpn hdn).1]; exact he) r f (q1 f hf)
                      simp only [E', hdn, if_true]
                      rw [List.map_append, List.map_append]
                      rw [List.map_append, List.nodup_append] at q2
                      rw [List.nodup_append, List.nodup_append]
                      refine ⟨⟨q2.1, hy2, ?_⟩, q2.2.1, ?_⟩
                      · intro k hk l hl
                        obtain ⟨e, he, rfl⟩ := List.mem_map.1 hk
                        obtain ⟨f, hf, rfl⟩ := List.mem_map.1 hl
                        exact (hdis f hf e (List.mem_append_left _ he)).symm
                      · intro k hk l hl
                        obtain ⟨f, hf, rfl⟩ := List.mem_map.1 hl
                        rcases List.mem_append.1 hk with hk | hk
                        · exact q2.2.2 k hk f.1 (List.mem_map.2 ⟨f, hf, rfl⟩)
                        · obtain ⟨e, he, rfl⟩ := List.mem_map.1 hk
                          exact hdis e he f (List.mem_append_right _ hf)
                    · simp [E', hdn])
                  (by
                    intro e he
                    obtain ⟨hdn, he'⟩ := hE' e he
                    have h3 : c.mine e.1 ∧ Unfrozen w e.1 := by
                      rcases horig e hdn he' with h0 | h0
                      · exact r1.e3 r e h0
                      · exact f1.l3 e h0
                    refine ⟨h3.1, ?_⟩
                    obtain ⟨ar, ty0, hq⟩ := h3.2
                    exact ⟨ar, ty0, by rw [hheap _ (hneN e he')]; exact hq⟩)
                  (fun e he => (hE' e he).2)
                  (by
                    intro e he
                    obtain ⟨hdn, he'⟩ := hE' e he
                    refine ⟨fun u _ => hlim e hdn he' u, fun f hf hfe => ?_⟩
                    obtain ⟨u, f', h1, h2, h3⟩ := hdomN f hf
                    exact Nat.le_trans h3 (hlim e hdn he' u f' h1 (h2.trans hfe)))
                  (by
                    intro f hf
                    obtain ⟨u, f', h1, h2, h3⟩ := hdomN f hf
                    refine ⟨fun t _ e he hfe => Nat.le_trans h3 (r1.e5 t e he u f' h1 (h2.trans hfe)), fun t _ hbt => ?_, ?_⟩
                    · rw [← h2]; exact (r1.b1 t hbt).2.2 u f' h1
                    · rw [← h2, z4]; exact r1.f1 u f' h1)
                  (by
                    intro f hf
                    obtain ⟨u, f', h1, h2, h3⟩ := hdomN f hf
                    rcases r1.d1 u f' h1 with h4 | ⟨g, h4, h5, h6⟩
                    · exact .inl (h2 ▸ h4)
                    · exact .inr ⟨g, h4, h5.trans h2, Nat.le_trans h3 h6⟩)
                  (by
                    intro _
                    rw [wrote_same]
                    exact ⟨hg0, hmine, by rw [z4]; exact hblt, fun u _ f hf => hbne u f hf, hneN, fun t ht hbt hh => ht (r1.b2 t r hbt hbx hh)⟩)
                rw [setF_self, setF_self] at hput
                have hval : (Ex.stB r off i.sz y' cov).val V = .ptr (putc cs off (cellsOf (y'.val V))) := by simp [Ex.val, a1, PV.pcs]
                rw [hval]
                exact ⟨_, _, _, hput, fun hcv => by
                  obtain ⟨q1, q2⟩ := k4 hcv
                  rw [setF_same, sA.sc q1, sZ.sc q2]; simp⟩
              have drop : ∀ {lm : List (Nat × Md)} {dpn cov : Bool}, (∀ e, POp.set r (.stB r off i.sz y' cov) = .set r e → e.ok V → ∃ w', (execOp a.eval o).run P w = .ok .skip w' ∧ Stp c w w' ∧
                    ∃ F2 E2 B2, RG c F2 E2 B2 (wrote (addDem lm M) r ⟨.box dpn ty, (M r).v, (M r).c + 1, (M r).g⟩) (V.upd r (e.val V)) (Act.x a) w' ∧ (cov = true → F2 r = Fy)) →
                  CoreSt P c M V a w o ⟨r, .box dpn ty, lm, .set r (.stB r off i.sz y' cov), true⟩ := by
                intro lm dpn cov hh e' he hok
                obtain ⟨w1, h1, h2, F2, E2, B2, h3, _⟩ := hh e' he hok
                exact ⟨w1, h1, h2, F2, E2, B2, h3⟩
              split at hs
              · rename_i l hl
                split at hs
                · rename_i hc
                  simp only [Bool.and_eq_true, Option.isNone_iff_eq_none] at hc
                  simp only [Option.some.injEq] at hs; subst hs
                  obtain ⟨ht1, hd1⟩ := take_same h.sb (takeDeep_take hl)
                  obtain ⟨E1, r1, f1, _, _⟩ := h.rg.take Free.nil hyA.1 ht1
                  refine drop (heart r1 f1 (by unfold addDem; rw [hc.2]) (fun _ => ⟨by simp [topOf], ?_⟩))
                  cases dp <;> simp
                · simp only [Option.some.injEq] at hs; subst hs
                  exact drop (heart (lm := []) (by rw [addDem_nil]; exact h.rg) Free.nil (by rw [addDem_nil]) (by simp))
              · split at hs
                · rename_i hpc
                  simp only [Bool.and_eq_true, beq_iff_eq] at hpc
                  simp only [Option.some.injEq] at hs; subst hs
                  have hpf : ∀ f ∈ Fy, f.1 < c.base ∧ f.1 ∉ c.ms := by
                    cases y' with
                    | c v => exact absurd hpc.1 (by simp [Opd.md])
                    | t s =>
                      have hM := opd_same h.sb hy
                      have hpar := hpc.1
                      simp only [Opd.md, hM] at hpar
                      obtain ⟨⟨q1, q2, q3, q4⟩, _⟩ := hyA
                      rw [hpar] at q2
                      rw [q4]; exact q2.2
                  intro e' he hok
                  obtain ⟨w1, hrun, hstp, F2, E2, B2, hrg, hF⟩ := heart (lm := []) (cov := true) (dpn := false) (by rw [addDem_nil]; exact h.rg) Free.nil (by rw [addDem_nil]) (by simp) e' he hok
                  have hdm := hrg.demote r (.boxP ty) [] (by simp) (by simp) (by rw [wrote_same]; simp [isBox]) (by simp) (fun hs => by
                    rw [wrote_same] at hs
                    obtain ⟨cs, arr, tyy, a1, a2, a3, a4, a5, _⟩ := hs
                    exact ⟨⟨cs, arr, tyy, a1, a2, a3, a4, a5⟩, by rw [hF rfl]; exact hpf⟩)
                  refine ⟨w1, hrun, hstp, F2, setF E2 r [], B2, ?_⟩
                  have hMM : addDem [(r, .boxP ty)] (wrote (addDem [] M) r ⟨.box false ty, (M r).v, (M r).c + 1, (M r).g⟩) = wrote (addDem [] M) r ⟨.boxP ty, (M r).v, (M r).c + 1, (M r).g⟩ := by
                    funext t
                    by_cases ht : t = r
                    · subst ht; simp [addDem, wrote]
                    · have : (t == r) = false := by simpa using ht
                      simp [addDem, wrote, List.lookup, this, ht]
                  rw [hMM] at hdm
                  exact hdm
                · simp only [Option.some.injEq] at hs; subst hs
                  exact drop (heart (lm := []) (by rw [addDem_nil]; exact h.rg) Free.nil (by rw [addDem_nil]) (by simp))
            · cases hs
        · rename_i r n off sz hmx
          have hMx : M' x = M x := sb_ne h.sb (fun h0 => by simp [asAd, h0] at hmx)
          have hMA : asAd M' x = asAd M x := by unfold asAd; rw [hMx]
          rw [hMA] at hmx
          rw [hMx] at hgx
          have hgx0 : (M x).g = [] := by
            apply List.eq_nil_iff_forall_not_mem.2
            intro q hq
            have := List.all_eq_true.1 hgx q hq
            simp at this
          have hsx := (h.rg.slot hgx0).asAd
          rw [hmx] at hsx
          split at hs
          · cases hs
          · rename_i hc
            simp only [Bool.or_eq_true, bne_iff_ne, ne_eq, not_or, Decidable.not_not] at hc
            obtain ⟨⟨hv, hoff⟩, hsz⟩ := hc
            split at hs
            · rename_i sz' l hz hl
              split at hs
              · cases hs
              · rename_i hc2
                simp only [Bool.or_eq_true, bne_iff_ne, ne_eq, not_or, Decidable.not_not, Bool.not_eq_true', Bool.not_eq_false, Option.isNone_iff_eq_none] at hc2
                simp only [Option.some.injEq] at hs; subst hs
                have hMr : M' r = M r := sb_ne h.sb (fun h0 => by rw [h0] at hz; cases hz)
                rw [hMr] at hz hv
                have hmr : (M r).m = .fr sz := by
                  cases hm : (M r).m <;> rw [hm] at hz <;> simp [frSz] at hz
                  rw [hz, hc2.1]
                obtain ⟨Fy, hyA⟩ := h.opA hy
                obtain ⟨ht1, hd1⟩ := take_same h.sb (takeDeep_take hl)
                obtain ⟨E1, r1, f1, _, _⟩ := h.rg.take Free.nil hyA.1 ht1
                subst hoff
                exact core_storeF h ho hi hdt hyA hsx hv hmr hsz r1 f1 (by simp [topOf]) (by unfold addDem; rw [hc2.2])
            · cases hs
        · cases hs
    · cases hs

end
end Go.Eng
namespace Go.Eng
open Go Go.RowKit
set_option linter.unusedSimpArgs false
set_option linter.unusedVariables false

section
variable {P : Program} {X : Cx} {c : Ctx} {F E : Nat → Foot} {B : Nat → Nat} {M M' : MF} {V : Env} {a : Act} {w w' : World} {G : GL} {o : Oper} {p : Plan}

theorem kindOK.map {t : Nat} {i : TI} (hi : tiB P t i = true) (hk : i.k = .mapP) : mapB P t = true := by
  have := tiB.kind hi
  rw [hk] at this
  exact this

theorem core_makeMap (h : Pre P X c F E B M M' V a w G) (hs : stepO X M' G o = some p) {t d : Nat} (ho : o.op = .makeMap t none) (hd : o.dst = some d) : Core P c F E B M V a w o p := by
  simp only [stepO, ho, hd] at hs
  split at hs
  · cases hs
  split at hs
  · rename_i i hi
    split at hs
    · simp only [Option.some.injEq] at hs; subst hs
      intro ex he hok
      simp only [POp.set.injEq, true_and] at he
      subst he
      have hr : (Instr.makeMap t none).run P w = .ok (.map (some w.heap.size)) (w.alloc (.map #[] 0)) := by
        simp [Instr.makeMap, Sem.run_bind, Result.andThen]
      refine ⟨_, _, by simpa [execOp, ho] using run_v hr, stp_alloc h.bs _, ?_⟩
      have hmv : Moves F E B (addDem [] M) w (w.alloc (.map #[] 0)) := by
        rw [addDem_nil]; exact h.rg.grow (by rw [alloc_size]; omega) (alloc_blocks w _)
      exact Fin0.fin ⟨E, [], [], [], w.heap.size, by rw [addDem_nil]; exact h.rg, Free.nil, hmv,
        ⟨⟨[], #[], 0, rfl, rfl, alloc_new w _, rfl, by simp [bornOK]⟩, rfl⟩, by simp, by simp, by simp, by simp, fun _ => ⟨h.bs, Nat.le_refl _, .inl h.bs, by rw [alloc_size]; omega, by simp⟩⟩
    · cases hs
  · cases hs

/-- a point's value -/
theorem isPt_inv {v : PV} {x : Value} {F : Foot} (h : Rep w v x F) (hp : isPt v = true) : x = ptv (keyX v) (keyY v) ∧ F = [] := by
  unfold isPt at hp
  split at hp
  · rename_i k1 k2
    cases h with
    | agg t =>
      obtain ⟨_, _, _, _, rfl, rfl, h1, h2⟩ := t.cons_inv
      obtain ⟨_, _, _, _, rfl, rfl, h3, h4⟩ := h2.cons_inv
      obtain ⟨rfl, rfl⟩ := h4.nil_inv
      obtain ⟨rfl, rfl⟩ := h1.int_inv
      obtain ⟨rfl, rfl⟩ := h3.int_inv
      exact ⟨rfl, rfl⟩
  · cases hp
theorem isI64_inv {v : PV} {x : Value} {F : Foot} (h : Rep w v x F) (hp : isI64 v = true) : x = .int .i64 v.num ∧ F = [] := by
  unfold isI64 at hp
  split at hp
  · exact h.int_inv
  · cases hp

theorem core_lookup (h : Pre P X c F E B M M' V a w G) (hs : stepO X M' G o = some p) {t s d : Nat} {k : Operand} (ho : o.op = .lookup t (.tmp s) k true) (hd : o.dst = some d) : Core P c F E B M V a w o p := by
  simp only [stepO, ho, hd] at hs
  split at hs
  · cases hs
  split at hs
  · rename_i r k' i hf hk hi
    split at hs
    · rename_i hik hmr
      simp only [Option.some.injEq] at hs; subst hs
      obtain ⟨hMr, hm, hx, ⟨l, es, ck, e1, e2, e3, e4, e5⟩, hF⟩ := frOf_mp h hf hmr
      obtain ⟨Fk, hkr⟩ := h.op_ hk
      refine Core.of_pure fun hok => ?_
      obtain ⟨hkx, _⟩ := isPt_inv hkr.rep hok
      have hrun := run_lookup_pt (P := P) (w := w) (kindOK.map (h.tb _ _ hi) hik) e3 e4 (keyX (k'.val V)) (keyY (k'.val V))
      have hev : a.eval (.tmp s) = .map (some (B r)) := by
        have : a.eval (.tmp s) = Act.x a s := rfl
        rw [this, hx, e2]
      rw [← hev, ← hkx] at hrun
      refine ⟨_, by simpa [execOp, ho] using run_v hrun, ?_⟩
      refine fin_sc h ?_
      simp only [Ex.val, e1, decM_ent]
      exact .tup (.cons (F := []) (.int _ _) (.cons (F := []) (.bool _) .nil))
    · cases hs
  · cases hs

theorem setM_heap {w : World} {b k : Nat} {o : Obj} (h : k ≠ b) : (setM w b o).heap[k]? = w.heap[k]? := by
  simp only [setM]
  rw [Array.getElem?_setIfInBounds_ne (fun hh => h hh.symm)]
theorem setM_same {w : World} {b : Nat} {o : Obj} (h : b < w.heap.size) : (setM w b o).heap[b]? = some o := by
  simp [setM, h]

/-- an entry is set -/
theorem core_upd (h : Pre P X c F E B M M' V a w G) {t s : Nat} {k x : Operand} (hs : stepU X M' G t s k x = some p) (hrn : ∀ {w1 : World}, (Instr.mapUpdate t (a.eval (.tmp s)) (a.eval k) (a.eval x)).run P w = .ok () w1 → (execOp a.eval o).run P w = .ok .skip w1) : CoreSt P c M V a w o p := by
  unfold stepU at hs
  split at hs
  · cases hs
  split at hs
  · rename_i r k' x' i hf hk hxo hi
    split at hs
    · rename_i hik hmr
      simp only [Option.some.injEq] at hs; subst hs
      obtain ⟨hMr, hm, hx, ⟨l, es, ck, e1, e2, e3, e4, e5⟩, hF⟩ := frOf_mp h hf hmr
      obtain ⟨Fk, hkr⟩ := h.op_ hk
      obtain ⟨Fx, hxr⟩ := h.op_ hxo
      intro e' he hok
      simp only [POp.set.injEq, true_and] at he
      subst he
      obtain ⟨k1, k2⟩ := hok
      obtain ⟨hkx, _⟩ := isPt_inv hkr.rep k1
      obtain ⟨hxx, _⟩ := isI64_inv hxr.rep k2
      obtain ⟨es', ck', hrun, hes, hbo⟩ := run_update_pt (P := P) (w := w) (kindOK.map (h.tb _ _ hi) hik) e3 e4 e5 (keyX (k'.val V)) (keyY (k'.val V)) (x'.val V).num
      have hev : a.eval (.tmp s) = .map (some (B r)) := by
        have : a.eval (.tmp s) = Act.x a s := rfl
        rw [this, hx, e2]
      rw [← hev, ← hkx, ← hxx] at hrun
      have hbx : isBox (M r).m = true := by rw [hm]; rfl
      have hg0 := h.rg.b0 r hbx
      obtain ⟨hmine, hblt, hbne⟩ := h.rg.b1 r hbx
      refine ⟨setM w (B r) (.map es' ck'), hrn hrun, ⟨rfl, rfl, rfl, by simp [setM], fun k hk => setM_heap (fun hh => hk (hh ▸ hmine))⟩, ?_⟩
      have hkeep : ∀ {F0 : Foot}, (∀ f ∈ F0, f.1 ≠ B r) → Keeps w (setM w (B r) (.map es' ck')) F0 := fun hf e he => ⟨fun o ho => by simp only [World.cell?, setM_heap (hf e he)] at ho ⊢, fun arr ty fr hh => ⟨arr, fr, by rw [setM_heap (hf e he)]; exact hh, rfl⟩⟩
      have hE0 : E r = [] := (h.rg.en r).ow (by rw [hm]; rfl)
      have hput := h.rg.put (E1 := E) (M' := wrote (addDem [] M) r ⟨.mp, (M r).v, (M r).c + 1, (M r).g⟩) r (.lst 3 false ((putE (keyX (k'.val V)) (keyY (k'.val V)) (x'.val V).num l).map ent)) (Act.x a r) [] [] (B r)
        (w' := setM w (B r) (.map es' ck')) (by simp [setM]) (fun t ht => hkeep (fun f hf => hbne t f hf)) (fun t ht hbt => setM_heap (fun hh => ht (h.rg.b2 t r hbt hbx hh)))
        (fun t e _ he => by
          obtain ⟨ar, ty0, hq⟩ := (h.rg.e3 t e he).2
          exact ⟨ar, ty0, by rw [setM_heap (hbne t e (h.rg.e4 t e he))]; exact hq⟩)
        ⟨by rw [wrote_same]; exact Nat.le_refl _, by rw [wrote_same]; exact Nat.lt_succ_self _, fun _ => ⟨rfl, fun bb => by rw [e1]; simp⟩⟩
        (fun t ht => by rw [wrote_ne _ _ ht, addDem_nil]; exact ⟨rfl, rfl, rfl⟩) (fun t ht => .inl ⟨by rw [wrote_ne _ _ ht, addDem_nil], rfl⟩)
        (by rw [wrote_same]; simp [hg0])
        (by simp)
        (by
          rw [wrote_same]
          simp only [hg0, List.not_mem_nil, false_implies, implies_true, not_true_eq_false, and_true, true_implies]
          simp only [SlotR, upd_same, setF_same]
          exact ⟨⟨_, es', ck', rfl, e2, setM_same hblt, hes, hbo⟩, trivial⟩)
        (by simp) (by simp) (by simp) (by simp) (by simp) (by simp) (by simp)
        (by
          intro _
          rw [wrote_same]
          exact ⟨hg0, hmine, by simpa [setM] using hblt, fun u _ f hf => hbne u f hf, by simp, fun t ht hbt hh => ht (h.rg.b2 t r hbt hbx hh)⟩)
      rw [setF_self B, setF_self (Act.x a)] at hput
      have hval : (Ex.mpu r k' x').val V = .lst 3 false ((putE (keyX (k'.val V)) (keyY (k'.val V)) (x'.val V).num l).map ent) := by simp only [Ex.val, e1, decM_ent]
      rw [hval]
      exact ⟨_, _, _, hput⟩
    · cases hs
  · cases hs

end
end Go.Eng
namespace Go.Eng
open Go Go.RowKit
set_option linter.unusedSimpArgs false
set_option linter.unusedVariables false

def RK.md : RK → Md | .sc => .sc | .lin => .own true | .ext => .ext | .tup => .tup []

/-- the function can be called -/
def callB (P : Program) (f : Nat) : Bool := match P.funcs[f]? with
  | some fn => fn.name != "runtime.NumGoroutine" && fn.body.isSome
  | none => false

def pow10N : String := "internal/strconv.uint64pow10"
/-- what the functions may lean on, of the world: the table of the powers of ten, where the program has one -/
def Inv (P : Program) (w : World) : Prop := P.globalNamed pow10N = none ∨ Lib.TabIs P w pow10N .u64 Lib.pow10Tab

/-- WHAT IS SHOWN OF A FUNCTION: on values that read as 'args' it returns a value that reads as 'res', and leaves what was there as it was. 'lin': what it returns is new to the bottom. -/
def Fn (P : Program) (f : Nat) (lin : Bool) (args : List PV) (res : PV) : Prop :=
  callB P f = true ∧ ∀ (w : World) (xs : List Value) (Fs : Foot), Inv P w → RepL w args xs Fs → (∀ g ∈ Fs, g.1 < w.heap.size) →
    Calls P f xs.toArray w fun e w' => ∃ x F', e = .returned x ∧ Rep w' res x F' ∧ Below w.heap.size w w' ∧ (∀ g ∈ F', g.1 < w'.heap.size) ∧
      (if lin = true then (∀ g ∈ F', w.heap.size ≤ g.1 ∧ Unfrozen w' g.1) ∧ (F'.map (·.1)).Nodup else ∀ g ∈ F', w.heap.size ≤ g.1 ∨ ∃ g' ∈ Fs, g'.1 = g.1 ∧ g.2 ≤ g'.2)

/-- two values of one kind -/
def kin : PV → PV → Bool
  | .lst .., .lst .. => true
  | .agg _, .agg _ => true
  | .ptr _, .ptr _ => true
  | _, _ => false

/-- WHAT IS SHOWN OF A FUNCTION THAT WRITES BEHIND ITS FIRST ARGUMENT, which is owned to the bottom: 'v'' is what that argument stands for afterwards. The others are plain data. -/
def FnM (P : Program) (f : Nat) (args : List PV) (res v' : PV) : Prop :=
  callB P f = true ∧ ∃ v vs, args = v :: vs ∧ kin v v' = true ∧ ∀ (w : World) (x0 : Value) (F0 : Foot) (xs : List Value), Inv P w →
    (∀ g, P.globalNamed pow10N = some g → ∀ e ∈ F0, e.1 ≠ g) → Rep w v x0 F0 → (F0.map (·.1)).Nodup → (∀ g ∈ F0, g.1 < w.heap.size ∧ Unfrozen w g.1) → RepL w vs xs [] →
    Calls P f (x0 :: xs).toArray w fun e w' => ∃ x F' Fr, e = .returned x ∧ Rep w' res x Fr ∧ Rep w' v' x0 F' ∧
      (w'.os = w.os ∧ w'.tape = w.tape ∧ w'.output = w.output ∧ w.heap.size ≤ w'.heap.size ∧ ∀ k, k < w.heap.size → (∀ e ∈ F0, e.1 ≠ k) → w'.heap[k]? = w.heap[k]?) ∧
      (∀ g ∈ F' ++ Fr, g.1 < w'.heap.size ∧ Unfrozen w' g.1 ∧ (w.heap.size ≤ g.1 ∨ ∃ e ∈ F0, e.1 = g.1)) ∧ ((F' ++ Fr).map (·.1)).Nodup

/-- WHAT IS SHOWN OF A FUNCTION THAT TAKES ITS ARGUMENTS: they are owned to the bottom, and what it returns is owned, too. -/
def FnX (P : Program) (f : Nat) (args : List PV) (res : PV) : Prop :=
  callB P f = true ∧ ∀ (w : World) (xs : List Value) (Fs : Foot), Inv P w → (∀ g, P.globalNamed pow10N = some g → ∀ e ∈ Fs, e.1 ≠ g) → RepL w args xs Fs → (Fs.map (·.1)).Nodup →
    (∀ g ∈ Fs, g.1 < w.heap.size ∧ Unfrozen w g.1) →
    Calls P f xs.toArray w fun e w' => ∃ x F', e = .returned x ∧ Rep w' res x F' ∧
      (w'.os = w.os ∧ w'.tape = w.tape ∧ w'.output = w.output ∧ w.heap.size ≤ w'.heap.size ∧ ∀ k, k < w.heap.size → (∀ e ∈ Fs, e.1 ≠ k) → w'.heap[k]? = w.heap[k]?) ∧
      (∀ g ∈ F', g.1 < w'.heap.size ∧ Unfrozen w' g.1 ∧ (w.heap.size ≤ g.1 ∨ ∃ e ∈ Fs, e.1 = g.1)) ∧ (F'.map (·.1)).Nodup

/-- the bytes of a cursor -/
def curU8 : List (List PV) → Bool
  | [] => true
  | [.int .u8 _] :: r => curU8 r
  | _ => false
def curEls (l : List (List PV)) : Bool := curU8 l && decide (l.length ≤ 9223372036854775807)
/-- a cursor: bytes, a place, a number -/
def isCur : PV → Bool
  | .ptr [.lst 1 _ l, .int .i64 i, .int .i64 _] => decide (0 ≤ i) && curEls l
  | _ => false
/-- a cursor in memory: its block, and what its bytes rest on -/
def CurAt (w : World) (x : Value) (b : Nat) (F : Foot) : Prop := ∃ sl i h ty nl els, x = .pointer (some ⟨b, 0, none⟩) ∧ w.heap[b]? = some (.cells #[sl, .int .i64 i, .int .i64 h] ty (0, 0)) ∧
  0 ≤ i ∧ curEls els = true ∧ Rep w (.lst 1 nl els) sl F

/-- what a call leaves that may write the blocks 'bs': one of the values of 'R' -/
def RPost (w w' : World) (Fs : Foot) (lin : Bool) (R : PV → Prop) (bs : List Nat) (e : Ending) : Prop := ∃ x F' res, e = .returned x ∧ R res ∧ Rep w' res x F' ∧
  (w'.os = w.os ∧ w'.tape = w.tape ∧ w'.output = w.output ∧ w.heap.size ≤ w'.heap.size ∧ ∀ k, k < w.heap.size → k ∉ bs → w'.heap[k]? = w.heap[k]?) ∧ (∀ g ∈ F', g.1 < w'.heap.size) ∧
  (if lin = true then (∀ g ∈ F', w.heap.size ≤ g.1 ∧ Unfrozen w' g.1) ∧ (F'.map (·.1)).Nodup else ∀ g ∈ F', w.heap.size ≤ g.1 ∨ ∃ g' ∈ Fs, g'.1 = g.1 ∧ g.2 ≤ g'.2)

/-- WHAT IS SHOWN OF A FUNCTION THAT DRAWS: it returns one of the values of 'R'. 'cur': ahead of its arguments it takes a cursor, and writes nothing but that. -/
def FnR (P : Program) (f : Nat) (cur lin : Bool) (args : List PV) (R : PV → Prop) : Prop :=
  callB P f = true ∧ ∀ (w : World) (xs : List Value) (Fs : Foot), Inv P w → RepL w args xs Fs → (∀ g ∈ Fs, g.1 < w.heap.size) →
    if cur = true then ∀ x0 b F1, (∀ g, P.globalNamed pow10N = some g → g ≠ b) → CurAt w x0 b F1 → b < w.heap.size → (∀ g ∈ F1, g.1 < w.heap.size ∧ g.1 ≠ b) → (∀ g ∈ Fs, g.1 ≠ b) →
      Calls P f (x0 :: xs).toArray w fun e w' => (∃ F1', CurAt w' x0 b F1' ∧ ∀ g ∈ F1', ∃ g' ∈ F1, g'.1 = g.1 ∧ g.2 ≤ g'.2) ∧ RPost w w' Fs lin R [b] e
    else Calls P f xs.toArray w fun e w' => RPost w w' Fs lin R [] e

/-- .. of a function that makes a cursor -/
def FnN (P : Program) (f : Nat) (args : List PV) : Prop :=
  callB P f = true ∧ ∀ (w : World) (xs : List Value) (Fs : Foot), Inv P w → RepL w args xs Fs → (∀ g ∈ Fs, g.1 < w.heap.size) →
    Calls P f xs.toArray w fun e w' => ∃ x b F1, e = .returned x ∧ CurAt w' x b F1 ∧ w.heap.size ≤ b ∧ b < w'.heap.size ∧ (∀ g ∈ F1, ∃ g' ∈ Fs, g'.1 = g.1 ∧ g.2 ≤ g'.2) ∧ Below w.heap.size w w'

/-- WHAT IS SHOWN OF A FUNCTION THAT RETURNS A MAP OF ITS OWN; its arguments it reads. -/
def FnP (P : Program) (f : Nat) (vs : List PV) (v : PV) : Prop :=
  callB P f = true ∧ ∀ (w : World) (xs : List Value) (Fs : Foot), Inv P w → RepL w vs xs Fs → (∀ g ∈ Fs, g.1 < w.heap.size) →
    Calls P f xs.toArray w fun e w' => ∃ b, e = .returned (.map (some b)) ∧ w.heap.size ≤ b ∧ b < w'.heap.size ∧ MapR w' b v (.map (some b)) ∧ Below w.heap.size w w'

abbrev FC (P : Program) : Ctr := ⟨Fn P, FnM P, FnX P, FnR P, FnN P, FnP P⟩

/-- what a frame leans on -/
def IvOK (P : Program) (X : Cx) (c : Ctx) : Prop := (∀ w, c.iv w → Inv P w ∧ ∀ g, P.globalNamed pow10N = some g → ¬ c.mine g) ∧ (c.z = true → X.mu = true)

section
variable {P : Program} {X : Cx} {c : Ctx} {F E : Nat → Foot} {B : Nat → Nat} {M M' : MF} {V : Env} {a : Act} {w w' : World} {G : GL} {o : Oper} {p : Plan}

theorem run_callFunc {f : Nat} (h : callB P f = true) (args : Array Value) : (callFunc f args).run P w = .ok (.enter f args) w := by
  unfold callB at h
  cases hf : P.funcs[f]? with
  | none => rw [hf] at h; cases h
  | some fn =>
    rw [hf] at h
    simp only [Bool.and_eq_true, bne_iff_ne, ne_eq] at h
    cases hb : fn.body with
    | none => rw [hb] at h; simp at h
    | some b => simp [callFunc, hf, h.1, hb]

/-! #### len, max, min, make -/

theorem exec_builtin {cl : Call} {b : Builtin} {r : Value} (ho : o.op = .call cl) (hcl : cl.callee = .builtin b) {s : Sem Value} (hb : ∀ cs, builtin b cl.argTypes o.type cs (cl.args.map a.eval) = (do let y ← s; pure (.value y) : Sem Next)) (hr : s.run P w = .ok r w') :
    (execOp a.eval o).run P w = .ok (.value r) w' := by
  simp only [execOp, ho, resolve, hcl, Sem.run_bind, Sem.run_pure, Result.andThen_ok, invoke, hb]
  simp [hr, Result.andThen]

theorem core_len (h : Pre P X c F E B M M' V a w G) {t d : Nat} {x : Operand} {cl : Call} (hs : stepB X M' G .len #[x] #[t] d = some p) (ho : o.op = .call cl) (hcl : cl.callee = .builtin .len)
    (hargs : cl.args = #[x]) (htys : cl.argTypes = #[t]) : Core P c F E B M V a w o p := by
  simp only [stepB] at hs
  split at hs
  · rename_i x' i hx hi
    obtain ⟨F1, h1⟩ := h.op_ hx
    have hti := h.tb _ _ hi
    have hrep := h1.rep
    split at hs
    · rename_i e hk
      simp only [Option.some.injEq] at hs; subst hs
      refine Core.of_pure fun hok => ?_
      have hrun : (Builtin.len_ #[t] o.type #[a.eval x]).run P w = .ok (.int .i64 (lenV (x'.val V))) w := by
        have hu := kindOK.slice hti hk
        have hok' : isL (x'.val V) = true := by simpa [Ex.ok] using hok
        cases hv : x'.val V <;> rw [hv] at hok' <;> simp [isL] at hok'
        rename_i sz nl l
        rw [hv] at hrep
        rcases hrep.lst_inv with ⟨q, _, rfl, _⟩ | ⟨b, q, _, rfl, _⟩ | ⟨b, cp, xs, G', q, _⟩
        · simp [q, Builtin.len_, run_underlying hu, goInt, lenV]
        · simp [q, Builtin.len_, run_underlying hu, goInt, lenV]
        · simp [q, Builtin.len_, run_underlying hu, goInt, lenV]
      exact ⟨_, exec_builtin ho hcl (s := Builtin.len_ #[t] o.type #[a.eval x]) (fun cs => by simp [builtin, hargs, htys]) hrun, fin_sc h (.int _ _)⟩
    · rename_i hk
      simp only [Option.some.injEq] at hs; subst hs
      refine Core.of_pure fun hok => ?_
      have hrun : (Builtin.len_ #[t] o.type #[a.eval x]).run P w = .ok (.int .i64 (lenV (x'.val V))) w := by
        have hu := kindOK.str hti hk
        have hok' : isStr (x'.val V) = true := by simpa [Ex.ok] using hok
        obtain ⟨s, hv⟩ := isStr_inv hok'
        rw [hv] at hrep ⊢
        have q := hrep.str_inv.1
        simp [q, Builtin.len_, run_underlying hu, goInt, lenV]
      exact ⟨_, exec_builtin ho hcl (s := Builtin.len_ #[t] o.type #[a.eval x]) (fun cs => by simp [builtin, hargs, htys]) hrun, fin_sc h (.int _ _)⟩
    · cases hs
  · cases hs

theorem core_max (h : Pre P X c F E B M M' V a w G) {d : Nat} {x y : Operand} {tys : Array TypeId} {cl : Call} (hs : stepB X M' G .max #[x, y] tys d = some p) (ho : o.op = .call cl) (hcl : cl.callee = .builtin .max)
    (hargs : cl.args = #[x, y]) : Core P c F E B M V a w o p := by
  simp only [stepB] at hs
  split at hs
  · rename_i x' y' hx hy
    obtain ⟨F1, h1⟩ := h.op_ hx
    obtain ⟨F2, h2⟩ := h.op_ hy
    simp only [Option.some.injEq] at hs; subst hs
    refine Core.of_pure fun hok => ?_
    obtain ⟨r, hr, hrep⟩ := rep_max (P := P) h1.rep h2.rep hok.1 hok.2 cl.argTypes o.type
    exact ⟨r, exec_builtin ho hcl (s := Builtin.max_ cl.argTypes o.type #[a.eval x, a.eval y]) (fun cs => by simp [builtin, hargs]) hr, fin_sc h hrep⟩
  · cases hs

theorem core_min (h : Pre P X c F E B M M' V a w G) {d : Nat} {x y : Operand} {tys : Array TypeId} {cl : Call} (hs : stepB X M' G .min #[x, y] tys d = some p) (ho : o.op = .call cl) (hcl : cl.callee = .builtin .min)
    (hargs : cl.args = #[x, y]) : Core P c F E B M V a w o p := by
  simp only [stepB] at hs
  split at hs
  · rename_i x' y' hx hy
    obtain ⟨F1, h1⟩ := h.op_ hx
    obtain ⟨F2, h2⟩ := h.op_ hy
    simp only [Option.some.injEq] at hs; subst hs
    refine Core.of_pure fun hok => ?_
    obtain ⟨r, hr, hrep⟩ := rep_min (P := P) h1.rep h2.rep hok.1 hok.2 cl.argTypes o.type
    exact ⟨r, exec_builtin ho hcl (s := Builtin.min_ cl.argTypes o.type #[a.eval x, a.eval y]) (fun cs => by simp [builtin, hargs]) hr, fin_sc h hrep⟩
  · cases hs

/-! #### calls -/

/-- a call's arguments: their values, and where they lie -/
inductive ArgR (F : Nat → Foot) (B : Nat → Nat) (M : MF) (V : Env) (x : Nat → Value) (w : World) (lin : Bool) : List Opd → List Value → Foot → Prop
  | nil : ArgR F B M V x w lin [] [] []
  | cons {o v Fx os vs Fs} (h : Rep w (o.val V) v Fx) (hd : lin = false → Dom F Fx) (hlt : ∀ f ∈ Fx, f.1 < w.heap.size) (t : ArgR F B M V x w lin os vs Fs) : ArgR F B M V x w lin (o :: os) (v :: vs) (Fx ++ Fs)

theorem ArgR.repl {lin : Bool} {os : List Opd} {vs : List Value} {Fs : Foot} (h : ArgR F B M V (Act.x a) w lin os vs Fs) : RepL w (os.map (·.val V)) vs Fs := by
  induction h with
  | nil => exact .nil
  | cons h _ _ _ ih => exact .cons h ih
theorem ArgR.lt {lin : Bool} {os : List Opd} {vs : List Value} {Fs : Foot} (h : ArgR F B M V (Act.x a) w lin os vs Fs) : ∀ f ∈ Fs, f.1 < w.heap.size := by
  induction h with
  | nil => simp
  | cons _ _ hlt _ ih => intro f hf; exact (List.mem_append.1 hf).elim (hlt f) (ih f)
theorem ArgR.dom {lin : Bool} {os : List Opd} {vs : List Value} {Fs : Foot} (h : ArgR F B M V (Act.x a) w lin os vs Fs) (hl : lin = false) : Dom F Fs := by
  induction h with
  | nil => exact Dom.nil
  | cons _ hd _ _ ih => intro f hf; exact (List.mem_append.1 hf).elim (hd hl f) (ih f)

theorem Pre.args (h : Pre P X c F E B M M' V a w G) (lin : Bool) : ∀ {os : List Operand} {l : List Opd}, mapO (argO M' G lin) os = some l →
    ∃ Fs, ArgR F B M V (Act.x a) w lin l (os.map a.eval) Fs
  | [], l, hl => by simp [mapO] at hl; subst hl; exact ⟨[], .nil⟩
  | x :: os, l, hl => by
    simp only [mapO] at hl
    split at hl
    · rename_i y hy
      split at hl
      · rename_i l' hl'
        simp only [Option.some.injEq] at hl; subst hl
        obtain ⟨Fs, h2⟩ := h.args lin hl'
        have plain : opd M' G x = some y → ∃ Fs, ArgR F B M V (Act.x a) w lin (y :: l') ((x :: os).map a.eval) Fs := by
          intro hy
          obtain ⟨Fx, h1⟩ := h.op_ hy
          exact ⟨_, .cons h1.rep (fun _ => h1.dom) (fun f hf => by
            obtain ⟨u, f', q1, q2, q3⟩ := h1.dom f hf
            rw [← q2]; exact h.rg.f1 u f' q1) h2⟩
        cases x with
        | const v => exact plain hy
        | global g => exact plain hy
        | func f => exact plain hy
        | tmp t =>
          simp only [argO] at hy
          split at hy
          · rename_i dp ty hm
            split at hy
            · rename_i hc
              simp only [Bool.and_eq_true] at hc
              simp only [Option.some.injEq] at hy; subst hy
              have hM : M' t = M t := sb_ne h.sb (by rw [hm]; simp)
              rw [hM] at hm
              have hb : isBox (M t).m = true := by rw [hm]; rfl
              have hs := h.rg.slot (h.rg.b0 t hb)
              rw [hm] at hs
              obtain ⟨cs, arr, tyy, a1, a2, a3, a4, a5, a6⟩ := hs
              have hrep : Rep w ((Opd.t t).val V) (a.eval (.tmp t)) ((B t, 0 + cs.length) :: F t) := by
                have he : a.eval (.tmp t) = .pointer (some ⟨B t, 0, none⟩) := a2
                simp only [Opd.val, a1, he]
                refine Rep.ptr (a := ⟨B t, 0, none⟩) ⟨rfl, arr, tyy, _, a3, by simp [a4]⟩ ?_ a5
                intro j v hv
                rw [addr_add_plain rfl]
                simp only [World.cell?, Nat.zero_add, a3]
                simpa using hv
              refine ⟨_, .cons hrep (by simp [hc.1]) ?_ h2⟩
              intro f hf
              rcases List.mem_cons.1 hf with rfl | hf
              · exact (h.rg.b1 t hb).2.1
              · exact h.rg.f1 t f hf
            · cases hy
          · exact plain hy
      · cases hl
    · cases hl

/-- what a call leaves can be put into its slot -/
theorem fin_call (h : Pre P X c F E B M M' V a w G) {Fs : Foot} {lin : Bool} {k : RK} (hF : k = .ext → Dom F Fs) {res : PV} {xv : Value} {F' : Foot} (hrep : Rep w' res xv F') (hb : Below w.heap.size w w') (hlt : ∀ g ∈ F', g.1 < w'.heap.size)
    (hl : if lin = true then (∀ g ∈ F', w.heap.size ≤ g.1 ∧ Unfrozen w' g.1) ∧ (F'.map (·.1)).Nodup else ∀ g ∈ F', w.heap.size ≤ g.1 ∨ ∃ g' ∈ Fs, g'.1 = g.1 ∧ g.2 ≤ g'.2) {d : Nat}
    (hk : k = .ext → lin = false) (hk2 : (k = .lin ∨ k = .tup) → lin = true) (hsc : k = .sc → scB res = true) (htup : k = .tup → ∃ vs, res = .tup vs) :
    Stp c w w' ∧ Fin c F E B M V (Act.x a) w w' d k.md [] res xv := by
  refine ⟨⟨hb.os, hb.tape, hb.output, hb.size, fun k hk => hb.block k ?_⟩, ?_⟩
  · unfold Ctx.mine at hk
    have := h.bs
    rcases Nat.lt_or_ge k c.base with h1 | h1
    · omega
    · exact absurd (.inl h1) hk
  · have hmv : Moves F E B (addDem [] M) w w' := by rw [addDem_nil]; exact h.rg.grow hb.size hb.block
    have owned : lin = true → ∀ {m : Md}, (isBox m = false) → NewR c F (addDem [] M) V (Act.x a) w' d res xv F' F' 0 m → (mayOwn m = true) → Fin c F E B M V (Act.x a) w w' d m [] res xv := by
      intro hl0 m hm hn hmo
      rw [if_pos hl0] at hl
      refine Fin0.fin ⟨E, [], F', F', 0, by rw [addDem_nil]; exact h.rg, Free.nil, hmv, hn, by simp [hmo], fun f hf => ⟨.inr (.inl (hl.1 f hf).1), hlt f hf⟩, fun e he => ⟨⟨he, .inl (Nat.le_trans h.bs (hl.1 e he).1), (hl.1 e he).2⟩, .inl (hl.1 e he).1, fun f hf hfe => ?_⟩, hl.2, by simp [hm]⟩
      -- one entry a block
      have hnd := hl.2
      have : f = e := by
        clear hn hl hlt hrep
        induction F' with
        | nil => cases he
        | cons g L ih =>
          simp only [List.map_cons, List.nodup_cons] at hnd
          rcases List.mem_cons.1 he with h1 | h1
          · rcases List.mem_cons.1 hf with h2 | h2
            · rw [h1, h2]
            · exact absurd (List.mem_map.2 ⟨f, h2, hfe.trans (congrArg Prod.fst h1)⟩) hnd.1
          · rcases List.mem_cons.1 hf with h2 | h2
            · exact absurd (List.mem_map.2 ⟨e, h1, hfe.symm.trans (congrArg Prod.fst h2)⟩) hnd.1
            · exact ih h1 h2 hnd.2
      rw [this]; exact Nat.le_refl _
    cases k with
    | sc =>
      simp only [RK.md]
      have : F' = [] := hrep.sc (hsc rfl)
      subst this
      refine Fin0.fin ⟨E, [], [], [], 0, by rw [addDem_nil]; exact h.rg, Free.nil, hmv, ⟨hrep, rfl⟩, by simp, by simp, by simp, by simp, by simp [isBox]⟩
    | lin =>
      have hl0 := hk2 (.inl rfl)
      have hnd := hl
      rw [if_pos hl0] at hnd
      exact owned hl0 rfl ⟨hrep, ⟨fun e he => by simpa [topOf] using he, by simpa [topOf] using hnd.2⟩, by simp⟩ rfl
    | tup =>
      have hl0 := hk2 (.inr rfl)
      have hnd := hl
      rw [if_pos hl0] at hnd
      obtain ⟨vs, rfl⟩ := htup rfl
      obtain ⟨xs, rfl, hR⟩ : ∃ xs : List Value, xv = .tuple xs.toArray ∧ RepL w' vs xs F' := by
        cases hrep with
        | tup t => exact ⟨_, rfl, t⟩
      obtain ⟨Fs', e1, e2⟩ : ∃ Fs', Reps w' vs xs Fs' ∧ F' = Fs'.flatten := by
        clear hl hlt hrep owned hnd htup hsc
        induction vs generalizing xs F' with
        | nil => obtain ⟨rfl, rfl⟩ := hR.nil_inv; exact ⟨[], .nil, rfl⟩
        | cons v vs ih =>
          obtain ⟨x, xs', F1, F2, rfl, rfl, h1, h2⟩ := hR.cons_inv
          obtain ⟨Fs', h3, h4⟩ := ih _ h2
          exact ⟨F1 :: Fs', .cons h1 h3, by rw [h4]; rfl⟩
      refine owned hl0 rfl ⟨vs, xs.toArray, Fs', rfl, rfl, by simpa using e1, e2, ?_, hnd.2⟩ rfl
      intro e he
      rw [e2]; exact (keepIdx_sub [] 0 Fs').subset he
    | ext =>
      have hl0 := hk rfl
      rw [if_neg (by simp [hl0])] at hl
      refine Fin0.fin ⟨E, [], F', [], 0, by rw [addDem_nil]; exact h.rg, Free.nil, hmv, hrep, by simp, fun f hf => ⟨?_, hlt f hf⟩, by simp, by simp, by simp [isBox, RK.md]⟩
      rcases hl f hf with h1 | ⟨g', h1, h2, h3⟩
      · exact .inr (.inl h1)
      · obtain ⟨u, f', q1, q2, q3⟩ := hF rfl g' h1
        exact .inl ⟨u, f', q1, q2.trans h2, Nat.le_trans h3 q3⟩

end
end Go.Eng
namespace Go.Eng
open Go Go.RowKit
set_option linter.unusedSimpArgs false
set_option linter.unusedVariables false

section
variable {P : Program} {X : Cx} {c : Ctx} {F E : Nat → Foot} {B : Nat → Nat} {M M' : MF} {V : Env} {a : Act} {w w' : World} {G : GL} {o : Oper} {p : Plan}

/-- the frame and the world stand for 'V' -/
def RA (c : Ctx) (N : Nat) (M : MF) (V : Env) (a : Act) (w : World) : Prop :=
  ∃ F E B, RG c F E B M V (Act.x a) w ∧ c.base ≤ w.heap.size ∧ a.tmps.size = N ∧ a.defers = [] ∧ c.iv w ∧ c.ax a

theorem x_put {d : Nat} {v : Value} (h : d < a.tmps.size) : Act.x (a.put (some d) v) = setF (Act.x a) d v := by
  funext t
  simp only [Act.x, Act.put, setF, Array.getD_eq_getD_getElem?, Array.getElem?_setIfInBounds]
  by_cases ht : t = d
  · subst ht; simp [h]
  · rw [if_neg (fun hh => ht hh.symm), if_neg ht]

theorem put_fin (hf : Fin c F E B M V (Act.x a) w w' d m dem v' xv) (hbs : c.base ≤ w.heap.size) (hd : d < a.tmps.size) {G : GL} (hG : ∀ q ∈ G, q.1 ≠ d ∧ (M q.1).v = q.2.1) (hh : ∀ q ∈ G, V q.1 = .bool q.2.2) (hbx : isBox m = true → G = []) :
    ∃ F2 E2 B2, RG c F2 E2 B2 (wrote (addDem dem M) d ⟨m, (M d).v + 1, (M d).c + 1, G⟩) (V.upd d v') (Act.x (a.put (some d) xv)) w' := by
  obtain ⟨E1, L, F', E', b', r1, f1, hmv, hn, how, hsrc, hE, hnd, hb⟩ := hf
  have hv := addDem_v dem M
  have := r1.putW f1 hmv hbs d m G v' xv F' E' b' (fun q hq => ⟨(hG q hq).1, by rw [(hv q.1).1]; exact (hG q hq).2⟩) how (fun _ => hn) (fun hno => absurd hh hno) hsrc hE hnd (fun hbm => ⟨hbx hbm, hb hbm⟩)
  rw [(hv d).1, (hv d).2.1] at this
  rw [x_put hd]
  exact ⟨_, _, _, this⟩

/-- a step that is passed over -/
theorem put_skip (h : RG c F E B M V (Act.x a) w) (hbs : c.base ≤ w.heap.size) (d : Nat) (m : Md) (v' : PV) (hd : d < a.tmps.size) {G : GL} (hG : ∀ q ∈ G, q.1 ≠ d ∧ (M q.1).v = q.2.1) (hh : ¬ ∀ q ∈ G, V q.1 = .bool q.2.2) (hbx : isBox m = false) :
    ∃ F2 E2 B2, RG c F2 E2 B2 (wrote M d ⟨m, (M d).v + 1, (M d).c + 1, G⟩) (V.upd d v') (Act.x (a.put (some d) undef)) w := by
  have := h.putW (Free.nil) h.still hbs d m G v' undef [] [] 0 hG (fun _ => rfl) (fun hy => absurd hy hh) (fun _ => rfl) (by simp) (by simp) (by simp) (by simp [hbx])
  rw [x_put hd]
  exact ⟨_, _, _, this⟩

theorem upds_eq {dem : List (Nat × Md)} {d : Nat} {ne : SM} (hM : ∀ q ∈ dem, M' q.1 = M q.1) :
    upds M ((d, ne) :: dem.map fun q => (q.1, { M' q.1 with m := q.2 })) = wrote (addDem dem M) d ne := by
  funext t
  simp only [upds, wrote, List.lookup]
  by_cases ht : t = d
  · subst ht; simp
  · have : (t == d) = false := by simpa using ht
    simp only [this, if_neg ht, addDem]
    induction dem with
    | nil => simp
    | cons q l ih =>
      simp only [List.map_cons, List.lookup]
      by_cases hq : t = q.1
      · subst hq; simp [hM q (List.mem_cons_self ..)]
      · have : (t == q.1) = false := by simpa using hq
        simp only [this]
        exact ih (fun q hq => hM q (List.mem_cons_of_mem _ hq))

theorem restr_sub (M : MF) (l : List Nat) : ∀ t, restr M l t = M t ∨ restr M l t = {} := by
  intro t; unfold restr; split
  · exact .inl rfl
  · exact .inr rfl
theorem restr_in {M : MF} {l : List Nat} {t : Nat} (h : l.contains t = true) : restr M l t = M t := by unfold restr; rw [if_pos h]

/-- what 'step' tells -/
theorem step_inv {gs : Option (Nat × Bool)} {u : List (Nat × SM)} {gp : GP} {rd : List Nat} (h : step X M gs o = some (u, gp, rd)) :
    ∃ p, rd = rdset M gs o ∧ stepO X (restr M rd) (chain (restr M rd) gs) o = some p ∧ fixG (chain (restr M rd) gs) p = some p ∧ liveG (restr M rd) (chain (restr M rd) gs) = true ∧
      (∀ q, gs = some q → (restr M rd q.1).m = .sc) ∧ gp = ⟨(chain (restr M rd) gs).map fun q => (q.1, q.2.2), p.p⟩ ∧ (∀ q ∈ chain (restr M rd) gs, q.1 ≠ p.d) ∧ rootOK p.d p.m = true ∧
      rd.contains p.d = true ∧ (∀ q ∈ p.dem, rd.contains q.1 = true) ∧ (∀ t ∈ gp.slots, rd.contains t = true) ∧ p.p.dst = p.d ∧ shapeOK o p = true ∧
      u = (p.d, if p.inner then { m := p.m, v := (M p.d).v, c := (M p.d).c + 1, g := (M p.d).g } else { m := p.m, v := (M p.d).v + 1, c := (M p.d).c + 1, g := chain (restr M rd) gs }) :: p.dem.map fun q => (q.1, { restr M rd q.1 with m := q.2 }) := by
  unfold step at h
  simp only at h
  split at h
  · cases h
  · rename_i h1
    simp only [Bool.not_eq_true', Bool.not_eq_false, Bool.and_eq_true] at h1
    split at h
    · cases h
    · rename_i p0 h2
      split at h
      · cases h
      · rename_i p h3
        split at h
        · cases h
        · rename_i h4
          simp only [Bool.or_eq_true, Bool.not_eq_true', not_or, Bool.not_eq_false, Bool.and_eq_true, Bool.not_eq_true, List.any_eq_false, beq_iff_eq, List.all_eq_true] at h4
          simp only [Option.some.injEq, Prod.mk.injEq] at h
          obtain ⟨rfl, rfl, rfl⟩ := h
          have hpp : p0 = p := by
            unfold fixG at h3
            split at h3
            · simpa using h3
            · split at h3 <;> first | cases h3 | skip
              split at h3
              · simpa using h3
              · cases h3
          subst hpp
          obtain ⟨⟨⟨h40, h41⟩, h42⟩, ⟨⟨h43, h44⟩, h45⟩, h46⟩ := h4
          refine ⟨p0, rfl, h2, h3, h1.1, ?_, rfl, ?_, h42, h43, h44, h45, h46, h40, ?_⟩
          · rintro q rfl
            have := h1.2
            simpa using this
          · intro q hq
            have := h41 q hq
            simpa using this
          · rw [restr_in h43]

end
end Go.Eng
namespace Go.Eng
open Go Go.RowKit
set_option linter.unusedSimpArgs false
set_option linter.unusedVariables false

section
variable {P : Program} {X : Cx} {c : Ctx} {F E : Nat → Foot} {B : Nat → Nat} {M M' : MF} {V : Env} {a : Act} {w w' : World} {G : GL} {o : Oper} {p : Plan}

theorem fixG_own (h : fixG G p = some p) : (∀ d, p.m = .own d → G = []) ∧ (∀ tk, p.m = .tup tk → G = []) ∧ (∀ dp t, p.m = .box dp t → G = []) ∧ (p.m = .no → G = []) ∧ (G ≠ [] → p.dem = [] ∧ p.inner = false) := by
  unfold fixG at h
  by_cases hG : (G == []) = true
  · have : G = [] := by simpa using hG
    simp [this]
  · have hG' : ¬ G = [] := by simpa using hG
    rw [if_neg hG] at h
    refine ⟨fun d hm => ?_, fun d hm => ?_, fun d t hm => ?_, fun hm => ?_, fun _ => ?_⟩
    · rw [hm] at h; cases h
    · rw [hm] at h; cases h
    · rw [hm] at h; cases h
    · rw [hm] at h; cases h
    · split at h <;> first | cases h | skip
      split at h
      · rename_i hc; simp at hc; exact ⟨by simpa using hc.1, hc.2⟩
      · cases h

/-- whatever operation gives a value -/
theorem fixG_fr (h : fixG G p = some p) : (∀ sz, p.m = .fr sz → G = []) ∧ ∀ r n, p.m = .adS r n → G = [] := by
  unfold fixG at h
  split at h
  · rename_i hg; exact ⟨fun _ _ => by simpa using hg, fun _ _ _ => by simpa using hg⟩
  · refine ⟨fun sz hm => ?_, fun r n hm => ?_⟩ <;> (rw [hm] at h; cases h)
theorem stepF_md {s r d : Nat} (hs : stepF M G s r d true = some p) : (∃ sz, p.m = .fr sz) ∨ p.m = .own true ∨ p.m = .mp := by
  unfold stepF at hs
  simp only [Bool.true_or, if_true] at hs
  repeat' split at hs
  all_goals first
    | (cases hs; done)
    | (simp only [Option.some.injEq] at hs; subst hs; simp)

theorem core_any (h : Pre P X c F E B M M' V a w G) (hs : stepO X M' G o = some p) {d : Nat} (hd : o.dst = some d) (hr : rootOK p.d p.m = true) (hG : fixG G p = some p)
    {e : Ex} (he : p.p = .set p.d e) : Core P c F E B M V a w o p := by
  have hf := fixG_own hG
  have hs0 := hs
  cases hop : o.op with
  | move x => exact core_mov h hs hop hd hr
  | assign x =>
    refine core_assign h hs hop hd hr (fun hm => ?_)
    simp only [stepO, hop, hd, stepM, if_true] at hs
    cases hpm : p.m with
    | own dp => exact hf.1 dp hpm
    | tup tk => exact hf.2.1 tk hpm
    | box dp t => exact hf.2.2.1 dp t hpm
    | boxP t =>
      by_cases hG0 : (G == []) = true
      · simpa using hG0
      · exfalso; unfold fixG at hG; rw [if_neg hG0, hpm] at hG; cases hG
    | no => exact hf.2.2.2.1 hpm
    | mp =>
      by_cases hG0 : (G == []) = true
      · simpa using hG0
      · exfalso; unfold fixG at hG; rw [if_neg hG0, hpm] at hG; cases hG
    | fr sz => exact (fixG_fr hG).1 sz hpm
    | adS r n => exact (fixG_fr hG).2 r n hpm
    | sc => exact absurd hpm hm.2.1
    | ext => exact absurd hpm hm.1
    | par => exact absurd hpm hm.2.2
    | via _ _ _ | adB _ _ _ | adE _ _ _ _ =>
      exfalso
      clear hs0 hG hf hm hr he
      repeat' split at hs
      all_goals first
        | (cases hs; done)
        | (refine absurd (stepF_md hs) ?_; rw [hpm]; simp; done)
        | (rename_i hff; exact absurd rfl hff)
        | (simp only [Option.some.injEq] at hs; subst hs; simp only at hpm; cases hpm; done)
        | ((try simp only [if_true] at hs)
           repeat' split at hs
           all_goals first
            | (cases hs; done)
            | (simp only [Option.some.injEq] at hs; subst hs; simp only at hpm; cases hpm; done))
  | pick cc x y =>
    cases cc with
    | tmp s => exact core_pick h hs hop hd
    | _ => simp [stepO, hop, hd] at hs
  | alloc t => exact core_alloc h hs hop hd
  | makeMap t r =>
    cases r with
    | none => exact core_makeMap h hs hop hd
    | some _ => simp [stepO, hop, hd] at hs
  | lookup t x k ok =>
    cases x with
    | tmp s =>
      cases ok with
      | true => exact core_lookup h hs hop hd
      | false => simp [stepO, hop, hd] at hs
    | _ => simp [stepO, hop, hd] at hs
  | makeSlice t l cp =>
    cases l with
    | tmp x =>
      cases cp with
      | tmp y => exact core_makeSlice h hs hop hd
      | _ => simp [stepO, hop, hd] at hs
    | _ => simp [stepO, hop, hd] at hs
  | box t x => exact core_box h hs hop hd
  | build t ps =>
    by_cases hG0 : G = []
    · exact core_build h hs hop hd hG0
    · exfalso; simp only [stepO, hop, hd] at hs
      split at hs
      · rw [if_pos (by simpa using hG0)] at hs; cases hs
      · cases hs
  | buildSlice t n ps => exact core_buildSlice h hs hop hd
  | load t x =>
    cases x with
    | tmp s => exact core_load h hs hop hd hr
    | _ => simp [stepO, hop, hd] at hs
  | binOp op t x y u => exact core_bin h hs hop hd
  | unOp op t x => exact core_un h hs hop hd
  | convert s t x => exact core_conv h hs hop hd
  | makeFunc g first caps =>
    cases g with
    | func f => exact core_mkf h hs hop hd
    | _ => simp [stepO, hop, hd] at hs
  | fieldAddr t x f =>
    cases x with
    | tmp s => exact core_fieldAddr h hs hop hd hr
    | _ => simp [stepO, hop, hd] at hs
  | nilCheck x =>
    cases x with
    | tmp s => exact core_nilCheck h hs hop hd hr
    | _ => simp [stepO, hop, hd] at hs
  | indexAddr t s i =>
    cases s with
    | tmp s => exact core_indexAddr h hs hop hd hr
    | _ => simp [stepO, hop, hd] at hs
  | field t x f => exact core_field h hs hop hd hr
  | index t x i => exact core_index h hs hop hd
  | slice t x lo hi mx =>
    cases mx with
    | none => exact core_slice h hs hop hd
    | some _ => simp [stepO, hop, hd] at hs
  | extract x i =>
    cases x with
    | tmp s => exact core_extract h hs hop hd
    | _ => simp [stepO, hop, hd] at hs
  | call cl =>
    simp only [stepO, hop, hd] at hs
    split at hs
    · rename_i b hb
      have hs1 := hs
      simp only [stepB] at hs1
      split at hs1
      · rename_i x t ha ht
        refine core_len h (d := d) (x := x) (t := t) ?_ hop hb (by rw [← ha]) (by rw [← ht])
        rw [show (#[x] : Array Operand) = cl.args from by rw [← ha], show (#[t] : Array TypeId) = cl.argTypes from by rw [← ht]]
        exact hs
      · rename_i x y t u ha ht
        have hG0 : G = [] := by
          by_cases hG0 : G = []
          · exact hG0
          · exfalso
            have hG1 : (G != []) = true := by simpa using hG0
            simp only [hG1, Bool.true_or, if_true] at hs1
            repeat' split at hs1
            all_goals (cases hs1)
        subst hG0
        refine core_append h (d := d) (x := x) (y := y) (t := t) (u := u) ?_ hop hb (by rw [← ha]) (by rw [← ht])
        rw [show (#[x, y] : Array Operand) = cl.args from by rw [← ha], show (#[t, u] : Array TypeId) = cl.argTypes from by rw [← ht]]
        exact hs
      · rename_i x y ha
        refine core_max h (d := d) (x := x) (y := y) (tys := cl.argTypes) ?_ hop hb (by rw [← ha])
        rw [show (#[x, y] : Array Operand) = cl.args from by rw [← ha]]
        exact hs
      · rename_i x y ha
        refine core_min h (d := d) (x := x) (y := y) (tys := cl.argTypes) ?_ hop hb (by rw [← ha])
        rw [show (#[x, y] : Array Operand) = cl.args from by rw [← ha]]
        exact hs
      · cases hs1
    · exfalso
      repeat' split at hs
      all_goals first
        | (cases hs; done)
        | (simp only [Option.some.injEq] at hs; subst hs; cases he; done)
    · exfalso
      repeat' split at hs
      all_goals first
        | (cases hs; done)
        | (simp only [Option.some.injEq] at hs; subst hs; cases he; done)
    · cases hs
  | _ => simp [stepO, hop, hd] at hs

end
end Go.Eng
namespace Go.Eng
open Go Go.RowKit
set_option linter.unusedSimpArgs false
set_option linter.unusedVariables false

section
variable {P : Program} {X : Cx} {c : Ctx} {F E : Nat → Foot} {B : Nat → Nat} {M M' : MF} {V : Env} {a : Act} {w w' : World} {G : GL} {o : Oper} {p : Plan} {N : Nat}

def wantedX (gs : Option (Nat × Bool)) (x : Nat → Value) : Prop := match gs with | none => True | some q => x q.1 = .bool q.2

theorem stepF_set {s r d : Nat} {asg : Bool} (hs : stepF M G s r d asg = some p) (no : ∀ {d' e}, p.p = .set d' e → False) : False := by
  unfold stepF at hs
  repeat' split at hs
  all_goals first
    | (cases hs; done)
    | (simp only [Option.some.injEq] at hs; subst hs; exact no rfl)
theorem stepIx_set {t r d : Nat} {i : Operand} (hs : stepIx X M G t r i d = some p) (no : ∀ {d' e}, p.p = .set d' e → False) : False := by
  unfold stepIx at hs
  repeat' split at hs
  all_goals first
    | (cases hs; done)
    | (simp only [Option.some.injEq] at hs; subst hs; exact no rfl)

theorem RA.put {d : Nat} {v : Value} (hN : a.tmps.size = N) (hdef : a.defers = [] ∧ c.iv w' ∧ c.ax a) (hd0 : c.z = true → d ≠ 0) (hb : c.base ≤ w'.heap.size)
    (h : ∃ F2 E2 B2, RG c F2 E2 B2 M V (Act.x (a.put (some d) v)) w') : RA c N M V (a.put (some d) v) w' := by
  obtain ⟨F2, E2, B2, h⟩ := h
  exact ⟨F2, E2, B2, h, hb, by simp [Act.put, hN], by simp [Act.put, hdef.1], hdef.2.1, c.axs a (some d) v (fun hz h0 => hd0 hz (Option.some.inj h0)) hdef.2.2⟩

/-- the guards hold just where the operation runs -/
theorem guards_iff (hR : RG c F E B M V (Act.x a) w) {gs : Option (Nat × Bool)} (hsub : ∀ t, M' t = M t ∨ M' t = {}) (hl : liveG M' (chain M' gs) = true) (hsc : ∀ q, gs = some q → (M' q.1).m = .sc)
    (hb : gBool V ((chain M' gs).map fun q => (q.1, q.2.2))) :
    (∀ q ∈ chain M' gs, (M q.1).v = q.2.1) ∧ (wantedX gs (Act.x a) ↔ ∀ q ∈ chain M' gs, V q.1 = .bool q.2.2) := by
  cases gs with
  | none => simp [chain, wantedX]
  | some q =>
    obtain ⟨s, b⟩ := q
    have hsc' := hsc _ rfl
    have hM : M' s = M s := sb_ne hsub (by rw [hsc']; simp)
    rw [hM] at hsc'
    have hlive : ∀ q ∈ chain M' (some (s, b)), (M q.1).v = q.2.1 := by
      intro q hq
      have h1 := List.all_eq_true.1 hl q hq
      simp only [Bool.and_eq_true, beq_iff_eq] at h1
      have h2 := sb_ne hsub (t := q.1) (by rw [h1.2]; simp)
      rw [h2] at h1; exact h1.1
    refine ⟨hlive, ?_⟩
    simp only [wantedX, chain, List.mem_cons, forall_eq_or_imp, hM] at hlive ⊢
    have hen := (hR.en s).sl (fun q hq => hlive.2 q hq)
    rw [hsc'] at hen
    simp only [chain, List.map_cons, gBool, hM] at hb
    constructor
    · intro hx
      have hg : ∀ q ∈ (M s).g, V q.1 = .bool q.2.2 := by
        by_cases hh : ∀ q ∈ (M s).g, V q.1 = .bool q.2.2
        · exact hh
        · have := hen.2 hh; rw [this] at hx; cases hx
      refine ⟨?_, hg⟩
      obtain ⟨b', hb'⟩ := isBool_inv (hb (by
        intro q hq
        obtain ⟨r, hr, rfl⟩ := List.mem_map.1 hq
        exact hg r hr))
      have hrep := (hen.1 hg).1
      rw [hb', hx] at hrep
      have := hrep.bool_inv.1
      simp only [Value.bool.injEq] at this
      subst this; exact hb'
    · rintro ⟨h1, h2⟩
      have hrep := (hen.1 h2).1
      rw [h1] at hrep
      exact hrep.bool_inv.1


theorem upon_value {next : Act → World → Prop} {Q : Exit → Act → World → Prop} {v : Value} (h : (execOp a.eval o).run P w = .ok (.value v) w') (hn : next (a.put o.dst v) w') : o.wp P a w next Q := by
  unfold Oper.wp; rw [h, Oper.upon_value]; exact hn
theorem upon_skip {next : Act → World → Prop} {Q : Exit → Act → World → Prop} (h : (execOp a.eval o).run P w = .ok .skip w') (hn : next (a.put o.dst undef) w') : o.wp P a w next Q := by
  unfold Oper.wp; rw [h, Oper.upon_skip]; exact hn
theorem upon_call {next : Act → World → Prop} {Q : Exit → Act → World → Prop} {f : Nat} {args : Array Value} (h : (execOp a.eval o).run P w = .ok (.enter f args) w)
    (hn : Calls P f args w fun e w'' => ∃ v, e = .returned v ∧ next (a.put o.dst v) w'') : o.wp P a w next Q := by
  unfold Oper.wp; rw [h, Oper.upon_enter]
  refine Calls.mono hn (fun e w'' he => ?_)
  obtain ⟨v, rfl, hv⟩ := he
  exact hv

theorem exec_call {cl : Call} {fv : Operand} {f : Nat} {caps : Array Value} (ho : o.op = .call cl) (hc : cl.callee = .value fv) (hf : a.eval fv = .func (.func f) #[] caps) (hcb : callB P f = true) :
    (execOp a.eval o).run P w = .ok (.enter f (cl.args.map a.eval ++ caps)) w := by
  simp only [execOp, ho, resolve, hc, hf, Deferred.ofValue, Sem.run_bind, Sem.run_pure, Result.andThen_ok, invoke, Array.empty_append]
  exact run_callFunc hcb _

theorem args_toList (cl : Call) (a : Act) : (cl.args.toList.map a.eval).toArray = cl.args.map a.eval := by
  apply Array.ext'; simp

set_option maxHeartbeats 2000000 in
/-- the plan's operation is a call -/
theorem stepO_call (hs : stepO X M' G o = some p) {d : Nat} (hd : o.dst = some d) (hp : ∀ e, p.p ≠ .set p.d e) (hpd : p.p.dst = p.d) :
    ∃ cl, o.op = .call cl ∧ p.d = d ∧ p.dem = [] ∧ p.inner = false ∧
      ((∃ f l k, cl.callee = .value (.func f) ∧ mapO (argO M' G (k != .ext)) cl.args.toList = some l ∧ p.p = .call d f l k ∧
          p.m = k.md) ∨
       (∃ t t' l, cl.callee = .value (.tmp t) ∧ opd M' G (.tmp t) = some t' ∧ mapO (argO M' G true) cl.args.toList = some l ∧ p.p = .callv d t' l ∧ p.m = .sc) ∨
       (∃ f l, cl.callee = .value (.func f) ∧ mapO (argO M' G true) cl.args.toList = some l ∧ p.p = .callp d f l ∧ p.m = .mp ∧ G = [])) := by
  have no : ∀ {d' e}, p.p = .set d' e → False := by
    intro d' e he
    have : d' = p.d := by rw [← hpd, he]; rfl
    exact hp e (by rw [he, this])
  cases hop : o.op with
  | call cl =>
    refine ⟨cl, rfl, ?_⟩
    simp only [stepO, hop, hd] at hs
    split at hs
    · exfalso
      simp only [stepB] at hs
      repeat' split at hs
      all_goals first
        | (cases hs; done)
        | (simp only [Option.some.injEq] at hs; subst hs; exact no rfl)
    · rename_i f hf
      split at hs
      · split at hs
        · cases hs
        · rename_i hG
          have hG0 : G = [] := by simpa using hG
          split at hs
          · rename_i l hl
            simp only [Option.some.injEq] at hs; subst hs
            exact ⟨rfl, rfl, rfl, .inr (.inr ⟨f, l, hf, hl, rfl, rfl, hG0⟩)⟩
          · cases hs
      split at hs
      · rename_i lin hlin
        split at hs
        · rename_i l hl
          split at hs
          · rename_i hfl
            simp only [Option.some.injEq] at hs; subst hs
            exact ⟨rfl, rfl, rfl, .inl ⟨f, l, .sc, hf, by rw [show (RK.sc != RK.ext) = true from by decide]; simpa [hfl] using hl, rfl, rfl⟩⟩
          · rename_i hfl
            split at hs
            · rename_i how
              split at hs
              · split at hs
                · simp only [Option.some.injEq] at hs; subst hs
                  exact ⟨rfl, rfl, rfl, .inl ⟨f, l, .tup, hf, by rw [show (RK.tup != RK.ext) = true from by decide]; rw [how] at hl; simpa using hl, rfl, rfl⟩⟩
                · simp only [Option.some.injEq] at hs; subst hs
                  exact ⟨rfl, rfl, rfl, .inl ⟨f, l, .lin, hf, by rw [show (RK.lin != RK.ext) = true from by decide]; rw [how] at hl; simpa using hl, rfl, rfl⟩⟩
              · cases hs
            · rename_i how
              simp only [Option.some.injEq] at hs; subst hs
              refine ⟨rfl, rfl, rfl, .inl ⟨f, l, .ext, hf, ?_, rfl, rfl⟩⟩
              have h1 : (lin && G == []) = false := by simpa using how
              have h2 : X.flat o.type = false := by simpa using hfl
              rw [h1, h2] at hl
              rw [show (RK.ext != RK.ext) = false from by decide]; simpa using hl
        · cases hs
      · cases hs
    · rename_i t ht
      split at hs
      · rename_i t' l ht' hl
        split at hs
        · simp only [Option.some.injEq] at hs; subst hs
          exact ⟨rfl, rfl, rfl, .inr (.inl ⟨t, t', l, ht, ht', hl, rfl, rfl⟩)⟩
        · cases hs
      · cases hs
    · cases hs
  | move x =>
    exfalso
    simp only [stepO, hop, hd, stepM] at hs
    repeat' split at hs
    all_goals first
      | (cases hs; done)
      | (exact stepF_set hs no)
      | (simp only [Option.some.injEq] at hs; subst hs; exact no rfl)
  | assign x =>
    exfalso
    simp only [stepO, hop, hd, stepM] at hs
    repeat' split at hs
    all_goals first
      | (cases hs; done)
      | (exact stepF_set hs no)
      | (simp only [Option.some.injEq] at hs; subst hs; exact no rfl)
  | indexAddr t s i =>
    exfalso
    simp only [stepO, hop, hd] at hs
    repeat' split at hs
    all_goals first
      | (cases hs; done)
      | contradiction
      | (exact stepIx_set hs no)
      | (simp only [Option.some.injEq] at hs; subst hs; exact no rfl)
  | _ =>
    exfalso
    simp only [stepO, hop, hd] at hs
    repeat' split at hs
    all_goals first
      | (cases hs; done)
      | contradiction
      | (simp only [Option.some.injEq] at hs; subst hs; exact no rfl)

theorem sim_step (hX : TabOK P X) (hIv : IvOK P X c) (hR : RA c N M V a w) {gs : Option (Nat × Bool)} {u : List (Nat × SM)} {gp : GP} {rd : List Nat} (hst : step X M gs o = some (u, gp, rd)) (hN : ∀ d, o.dst = some d → d < N ∧ (X.mu = true → d ≠ 0))
    {K : Env → Prop} (hw : gp.wp (FC P) K V) (Q : Exit → Act → World → Prop) :
    (wantedX gs (Act.x a) → o.wp P a w (fun a' w' => Stp c w w' ∧ ∃ V', RA c N (upds M u) V' a' w' ∧ K V') Q) ∧
    (¬ wantedX gs (Act.x a) → ∃ V', RA c N (upds M u) V' (a.put o.dst undef) w ∧ K V') := by
  obtain ⟨p, hrd, hs, hfix, hlive, hsc, rfl, hGd, hroot, hpd, hdem, hslots, hdst, hshape, hu⟩ := step_inv hst
  obtain ⟨F, E, B, hrg, hbase, hsize, hdefs, hiv, hax⟩ := hR
  have hstv : ∀ {w1}, Stp c w w1 → c.iv w1 := fun hs => c.ivs _ _ hs.2.2.2.2 hiv
  have hsub := restr_sub M rd
  obtain ⟨hbool, hwp⟩ := hw
  obtain ⟨hver, hiff⟩ := guards_iff hrg hsub hlive hsc hbool
  have hdemM : ∀ q ∈ p.dem, restr M rd q.1 = M q.1 := fun q hq => restr_in (hdem q hq)
  rw [hu]
  generalize hGG : chain (restr M rd) gs = G at *
  have hGs : ∀ q ∈ G, q.1 ≠ p.d ∧ (M q.1).v = q.2.1 := fun q hq => ⟨hGd q hq, hver q hq⟩
  have hgh : (∀ q ∈ G, V q.1 = .bool q.2.2) → gHold V (G.map fun q => (q.1, q.2.2)) := by
    intro hh q hq
    obtain ⟨r, hr, rfl⟩ := List.mem_map.1 hq
    exact hh r hr
  have hbxG : isBox p.m = true → G = [] := by
    intro hb
    cases hm : p.m <;> rw [hm] at hb <;> simp [isBox] at hb
    · exact (fixG_own hfix).2.2.1 _ _ hm
    · exact (fixG_fr hfix).1 _ hm
    · by_cases hG0 : (G == []) = true
      · simpa using hG0
      · exfalso; unfold fixG at hfix; rw [if_neg hG0, hm] at hfix; cases hfix
    · by_cases hG0 : (G == []) = true
      · simpa using hG0
      · exfalso; unfold fixG at hfix; rw [if_neg hG0, hm] at hfix; cases hfix
  by_cases hin : p.inner = true
  · -- a store
    have hop : ((∃ t x y, o.op = .store t (.tmp x) y) ∨ (∃ t s k x, o.op = .mapUpdate t (.tmp s) k x) ∨ ∃ t s k x, o.op = .insert t (.tmp s) k x) ∧ o.dst = none ∧ ∃ d e, p.p = .set d e := by
      have rest : (p.inner && o.dst.isNone && (match p.p with | .set .. => true | _ => false)) = true → o.dst = none ∧ ∃ d e, p.p = .set d e := by
        intro hshape
        simp only [Bool.and_eq_true, Option.isNone_iff_eq_none] at hshape
        refine ⟨hshape.1.2, ?_⟩
        have h3 := hshape.2
        split at h3
        · rename_i d e he; exact ⟨d, e, he⟩
        · cases h3
      unfold shapeOK at hshape
      split at hshape
      · rename_i t x y hop; exact ⟨.inl ⟨_, _, _, hop⟩, rest hshape⟩
      · rename_i t x y z hop; exact ⟨.inr (.inl ⟨_, _, _, _, hop⟩), rest hshape⟩
      · rename_i t x y z hop; exact ⟨.inr (.inr ⟨_, _, _, _, hop⟩), rest hshape⟩
      · simp [hin] at hshape
    obtain ⟨hop, hdn, d, e, hpe⟩ := hop
    have hde : d = p.d := by rw [← hdst, hpe]; rfl
    subst hde
    have hG0 : G = [] := by
      by_cases hG0 : G = []
      · exact hG0
      · have := ((fixG_own hfix).2.2.2.2 hG0).2; rw [hin] at this; cases this
    subst hG0
    have hwant : wantedX gs (Act.x a) := by rw [hiff]; simp
    refine ⟨fun _ => ?_, fun hh => absurd hwant hh⟩
    have hpre : Pre P X c F E B M (restr M rd) V a w [] := ⟨hX, hrg, hsub, by simp, by simp, hbase⟩
    rw [hpe] at hwp
    obtain ⟨hok, hK⟩ := hwp
    have hcore : CoreSt P c M V a w o p := by
      rcases hop with ⟨t, x, y, hop⟩ | ⟨t, s, k, x, hop⟩ | ⟨t, s, k, x, hop⟩
      · exact core_store hpre hs hop hdn
      · exact core_upd (t := t) (s := s) (k := k) (x := x) hpre (by simpa only [stepO, hop, hdn] using hs) (fun h => by simp [execOp, hop, Sem.run_bind, h, Result.andThen])
      · exact core_upd (t := t) (s := s) (k := k) (x := x) hpre (by simpa only [stepO, hop, hdn] using hs) (fun h => by simp [execOp, hop, Sem.run_bind, h, Result.andThen])
    obtain ⟨w1, hrun, hstp, F2, E2, B2, hrg2⟩ := hcore e hpe (hok (by simp [gHold]))
    refine upon_skip hrun ⟨hstp, _, ⟨F2, E2, B2, ?_, ?_, ?_, ?_, hstv hstp, ?_⟩, hK⟩
    · rw [upds_eq hdemM, hdn]
      simp only [hin, if_true, Act.put]
      exact hrg2
    · exact Nat.le_trans hbase hstp.2.2.2.1
    · rw [hdn]; exact hsize
    · rw [hdn]; exact hdefs
    · rw [hdn]; exact c.axs a none undef (fun _ => by simp) hax
  · have hin' : p.inner = false := by simpa using hin
    have hd : o.dst = some p.d := by
      unfold shapeOK at hshape
      split at hshape
      · simp [hin'] at hshape
      · simp [hin'] at hshape
      · simp [hin'] at hshape
      · simpa [hin'] using hshape
    have hdN : p.d < a.tmps.size := by rw [hsize]; exact (hN _ hd).1
    have hd0 : c.z = true → p.d ≠ 0 := fun hz => (hN _ hd).2 (hIv.2 hz)
    have hpre : (∀ q ∈ G, V q.1 = .bool q.2.2) → Pre P X c F E B M (restr M rd) V a w G := fun hh => ⟨hX, hrg, hsub, hver, hh, hbase⟩
    rw [upds_eq hdemM, hd]
    simp only [hin', Bool.false_eq_true, if_false]
    -- passed over
    have skip : ∀ v', K (V.upd p.d v') → ¬ wantedX gs (Act.x a) → ∃ V', RA c N (wrote (addDem p.dem M) p.d ⟨p.m, (M p.d).v + 1, (M p.d).c + 1, G⟩) V' (a.put (some p.d) undef) w ∧ K V' := by
      intro v' hK hnw
      have hno : ¬ ∀ q ∈ G, V q.1 = .bool q.2.2 := fun hh => hnw (hiff.2 hh)
      have hGn : G ≠ [] := by rintro rfl; exact hno (by simp)
      rw [((fixG_own hfix).2.2.2.2 hGn).1, addDem_nil]
      refine ⟨_, RA.put hsize ⟨hdefs, hiv, hax⟩ hd0 hbase (put_skip hrg hbase p.d p.m v' hdN hGs hno ?_), hK⟩
      cases hb : isBox p.m with
      | false => rfl
      | true => exact absurd (hbxG hb) hGn
    have done : ∀ {v' : PV} {xv : Value} {w1 : World}, K (V.upd p.d v') → (∀ q ∈ G, V q.1 = .bool q.2.2) → Stp c w w1 → Fin c F E B M V (Act.x a) w w1 p.d p.m p.dem v' xv →
        (Stp c w w1 ∧ ∃ V', RA c N (wrote (addDem p.dem M) p.d ⟨p.m, (M p.d).v + 1, (M p.d).c + 1, G⟩) V' (a.put (some p.d) xv) w1 ∧ K V') := by
      intro v' xv w1 hK hh hstp hfin
      exact ⟨hstp, _, RA.put hsize ⟨hdefs, hstv hstp, hax⟩ hd0 (Nat.le_trans hbase hstp.2.2.2.1) (put_fin hfin hbase hdN hGs hh hbxG), hK⟩
    by_cases hset : ∃ e, p.p = .set p.d e
    · obtain ⟨e, hpe⟩ := hset
      rw [hpe] at hwp
      obtain ⟨hok, hK⟩ := hwp
      refine ⟨fun hwant => ?_, skip _ hK⟩
      have hh := hiff.1 hwant
      obtain ⟨xv, w1, hrun, hstp, hfin⟩ := core_any (hpre hh) hs hd hroot hfix hpe e hpe (hok (hgh hh))
      have := done hK hh hstp hfin
      exact upon_value hrun (by rw [hd]; exact this)
    · obtain ⟨cl, hop, hpd', hdm, _, hcase⟩ := stepO_call hs hd (fun e he => hset ⟨e, he⟩) hdst
      rcases hcase with ⟨f, l, k, hcal, hargs, hpp, hmm⟩ | ⟨t, t', l, hcal, htt, hargs, hpp, hmm⟩ | ⟨f, l, hcal, hargs, hpp, hmm, hG0⟩
      · rw [hpp] at hwp
        obtain ⟨r, hC, hk1, hk2, hK⟩ := hwp
        refine ⟨fun hwant => ?_, skip _ hK⟩
        have hh := hiff.1 hwant
        have hp := hpre hh
        obtain ⟨hcb, hcon⟩ := hC (hgh hh)
        obtain ⟨Fs, hA⟩ := hp.args (k != .ext) hargs
        have hrun := exec_call (P := P) (a := a) (w := w) (caps := #[]) hop hcal rfl hcb
        simp only [Array.append_empty] at hrun
        rw [← args_toList] at hrun
        refine upon_call hrun ((hcon w _ Fs (hIv.1 w hiv).1 hA.repl hA.lt).mono fun e w1 he => ?_)
        obtain ⟨xv, F', rfl, q1, q2, q3, q4⟩ := he
        refine ⟨xv, rfl, ?_⟩
        obtain ⟨s1, s2⟩ := fin_call (k := k) (d := p.d) hp (fun hk => hA.dom (by simp [hk])) q1 q2 q3 q4 (by rintro rfl; rfl) (by rintro (rfl | rfl) <;> rfl) hk1 hk2
        rw [← hmm, ← hdm] at s2
        rw [hd]
        exact done hK hh s1 s2
      · rw [hpp] at hwp
        obtain ⟨r, hC, hk1, hK⟩ := hwp
        refine ⟨fun hwant => ?_, skip _ hK⟩
        have hh := hiff.1 hwant
        have hp := hpre hh
        obtain ⟨f, caps, hfv, hcb, hcon⟩ := hC (hgh hh)
        obtain ⟨Fs, hA⟩ := hp.args true hargs
        obtain ⟨Ff, hfr⟩ := hp.op_ htt
        have hfrep := hfr.rep
        rw [hfv] at hfrep
        obtain ⟨xs, hxs, hcl⟩ : ∃ xs : List Value, a.eval (.tmp t) = .func (.func f) #[] xs.toArray ∧ RepL w caps xs Ff := by
          generalize a.eval (.tmp t) = y at hfrep
          cases hfrep with
          | fn t => exact ⟨_, rfl, t⟩
        have hrun := exec_call (P := P) (w := w) hop hcal hxs hcb
        have e1 : cl.args.map a.eval ++ xs.toArray = (cl.args.toList.map a.eval ++ xs).toArray := by apply Array.ext'; simp
        rw [e1] at hrun
        have hlt : ∀ g ∈ Fs ++ Ff, g.1 < w.heap.size := by
          intro g hg
          rcases List.mem_append.1 hg with hg | hg
          · exact hA.lt g hg
          · obtain ⟨u', f', h1, h2, h3⟩ := hfr.dom g hg
            rw [← h2]; exact hrg.f1 u' f' h1
        refine upon_call hrun ((hcon w _ (Fs ++ Ff) (hIv.1 w hiv).1 (hA.repl.append hcl) hlt).mono fun e w1 he => ?_)
        obtain ⟨xv, F', rfl, q1, q2, q3, q4⟩ := he
        refine ⟨xv, rfl, ?_⟩
        obtain ⟨s1, s2⟩ := fin_call (k := .sc) (d := p.d) hp (by simp) q1 q2 q3 q4 (by simp) (by simp) (fun _ => hk1) (by simp)
        simp only [RK.md] at s2
        rw [← hmm, ← hdm] at s2
        rw [hd]
        exact done hK hh s1 s2
      · rw [hpp] at hwp
        obtain ⟨r, hC, hK⟩ := hwp
        refine ⟨fun hwant => ?_, skip _ hK⟩
        have hh := hiff.1 hwant
        have hp := hpre hh
        obtain ⟨hcb, hcon⟩ := hC (hgh hh)
        obtain ⟨Fs, hA⟩ := hp.args true hargs
        have hrun := exec_call (P := P) (a := a) (w := w) (caps := #[]) hop hcal rfl hcb
        simp only [Array.append_empty] at hrun
        rw [← args_toList] at hrun
        refine upon_call hrun ((hcon w _ Fs (hIv.1 w hiv).1 hA.repl hA.lt).mono fun e w1 he => ?_)
        obtain ⟨b, rfl, q1, q2, q3, q4⟩ := he
        refine ⟨.map (some b), rfl, ?_⟩
        rw [hd]
        have hmv : Moves F E B (addDem [] M) w w1 := by rw [addDem_nil]; exact hrg.grow q4.size q4.block
        have hfin : Fin c F E B M V (Act.x a) w w1 p.d p.m p.dem r (.map (some b)) := by
          rw [hmm, hdm]
          exact Fin0.fin ⟨E, [], [], [], b, by rw [addDem_nil]; exact hrg, Free.nil, hmv, ⟨q3, rfl⟩, by simp, by simp, by simp, by simp, fun _ => ⟨hbase, q1, .inl (Nat.le_trans hbase q1), q2, by simp⟩⟩
        refine done hK hh ⟨q4.os, q4.tape, q4.output, q4.size, fun k hk => q4.block k ?_⟩ hfin
        unfold Ctx.mine at hk
        rcases Nat.lt_or_ge k c.base with h1 | h1
        · omega
        · exact absurd (.inl h1) hk

end
end Go.Eng
namespace Go.Eng
open Go Go.RowKit
set_option linter.unusedSimpArgs false
set_option linter.unusedVariables false

/-! #### what an operation looks at -/

def AgV (V W : Env) (l : List Nat) : Prop := ∀ t ∈ l, V t = W t

theorem AgV.sub {V W : Env} {l l' : List Nat} (h : AgV V W l) (hs : ∀ t ∈ l', t ∈ l) : AgV V W l' := fun t ht => h t (hs t ht)
theorem AgV.symm {V W : Env} {l : List Nat} (h : AgV V W l) : AgV W V l := fun t ht => (h t ht).symm

theorem Opd.ag {V W : Env} {x : Opd} (h : AgV V W x.slots) : x.val V = x.val W := by
  cases x with
  | t i => exact h i (by simp [Opd.slots])
  | c v => rfl

theorem map_ag {V W : Env} {l : List Opd} (h : AgV V W (l.flatMap Opd.slots)) : l.map (·.val V) = l.map (·.val W) := by
  apply List.map_congr_left
  intro x hx
  exact Opd.ag (h.sub (fun t ht => List.mem_flatMap.2 ⟨x, hx, ht⟩))

theorem optNum_ag {V W : Env} {d : Int} {o : Option Opd} (h : AgV V W (o.toList.flatMap Opd.slots)) : optNum V d o = optNum W d o := by
  cases o with
  | none => rfl
  | some x => simp only [optNum]; rw [Opd.ag (h.sub (by simp))]

theorem optB_ag {V W : Env} {lo hi : Option Opd} {n m : Int} (h1 : AgV V W (lo.toList.flatMap Opd.slots)) (h2 : AgV V W (hi.toList.flatMap Opd.slots)) : optB V lo hi n m ↔ optB W lo hi n m := by
  unfold optB
  rw [optNum_ag h1, optNum_ag h2]
  have e1 : (∀ x, lo = some x → ∃ k i, x.val V = .int k i) ↔ (∀ x, lo = some x → ∃ k i, x.val W = .int k i) := by
    constructor <;> (intro h x hx; subst hx; have := h x rfl; rw [Opd.ag (h1.sub (by simp))] at *; exact this)
  have e2 : (∀ x, hi = some x → ∃ k i, x.val V = .int k i) ↔ (∀ x, hi = some x → ∃ k i, x.val W = .int k i) := by
    constructor <;> (intro h x hx; subst hx; have := h x rfl; rw [Opd.ag (h2.sub (by simp))] at *; exact this)
  rw [e1, e2]

theorem putAll_ag {V W : Env} : ∀ (ps : List (Nat × Nat × Opd)) (z : List PV), AgV V W (ps.flatMap fun q => q.2.2.slots) → putAll z V ps = putAll z W ps
  | [], _, _ => rfl
  | (off, n, x) :: r, z, h => by
    simp only [putAll]
    rw [Opd.ag (h.sub (fun t ht => List.mem_flatMap.2 ⟨_, List.mem_cons_self .., ht⟩)), putAll_ag r _ (h.sub (fun t ht => by
      obtain ⟨q, hq, ht⟩ := List.mem_flatMap.1 ht
      exact List.mem_flatMap.2 ⟨q, List.mem_cons_of_mem _ hq, ht⟩))]

theorem Ex.ag {V W : Env} {e : Ex} (h : AgV V W e.slots) : e.val V = e.val W ∧ (e.ok V → e.ok W) := by
  cases e <;> simp only [Ex.slots] at h
  case mv x => exact ⟨Opd.ag h, id⟩
  case bin op x y => simp only [Ex.val, Ex.ok, Opd.ag (h.sub (l' := x.slots) (by simp_all)), Opd.ag (h.sub (l' := y.slots) (by simp_all))]; exact ⟨trivial, id⟩
  case beq ng x y => simp only [Ex.val, Ex.ok, Opd.ag (h.sub (l' := x.slots) (by simp_all)), Opd.ag (h.sub (l' := y.slots) (by simp_all))]; exact ⟨trivial, id⟩
  case eqa ng ks x y => simp only [Ex.val, Ex.ok, Opd.ag (h.sub (l' := x.slots) (by simp_all)), Opd.ag (h.sub (l' := y.slots) (by simp_all))]; exact ⟨trivial, id⟩
  case not x => simp only [Ex.val, Ex.ok, Opd.ag h]; exact ⟨trivial, id⟩
  case neg x => simp only [Ex.val, Ex.ok, Opd.ag h]; exact ⟨trivial, id⟩
  case pick c x y => simp only [Ex.val, Ex.ok, Opd.ag (h.sub (l' := c.slots) (by simp_all)), Opd.ag (h.sub (l' := x.slots) (by simp_all)), Opd.ag (h.sub (l' := y.slots) (by simp_all))]; exact ⟨trivial, id⟩
  case conv k x => simp only [Ex.val, Ex.ok, Opd.ag h]; exact ⟨trivial, id⟩
  case len st x => simp only [Ex.val, Ex.ok, Opd.ag h]; exact ⟨trivial, id⟩
  case idx s i sz => simp only [Ex.val, Ex.ok, Opd.ag (h.sub (l' := s.slots) (by simp_all)), Opd.ag (h.sub (l' := i.slots) (by simp_all))]; exact ⟨trivial, id⟩
  case ldE s a off n agg sc sz => simp only [Ex.val, Ex.ok, h s (by simp), h a (by simp)]; exact ⟨trivial, id⟩
  case ldB b off n agg sc => simp only [Ex.val, Ex.ok, h b (by simp)]; exact ⟨trivial, id⟩
  case lk r k => simp only [Ex.val, Ex.ok, h r (by simp), Opd.ag (h.sub (l' := k.slots) (by simp_all))]; exact ⟨trivial, id⟩
  case mpu r k v => simp only [Ex.val, Ex.ok, h r (by simp), Opd.ag (h.sub (l' := k.slots) (by simp_all)), Opd.ag (h.sub (l' := v.slots) (by simp_all))]; exact ⟨trivial, id⟩
  case fld x off n agg sc => simp only [Ex.val, Ex.ok, Opd.ag h]; exact ⟨trivial, id⟩
  case ext x i sc => simp only [Ex.val, Ex.ok, h x (by simp)]; exact ⟨trivial, id⟩
  case bld z ps =>
    refine ⟨by simp only [Ex.val]; rw [putAll_ag ps z h], fun hok q hq => ?_⟩
    have := hok q hq
    rw [Opd.ag (h.sub (fun t ht => List.mem_flatMap.2 ⟨q, hq, ht⟩))] at this
    exact this
  case bsl sz ps =>
    refine ⟨?_, fun hok x hx => ?_⟩
    · simp only [Ex.val]
      congr 1
      apply List.map_congr_left
      intro x hx
      rw [Opd.ag (h.sub (fun t ht => List.mem_flatMap.2 ⟨x, hx, ht⟩))]
    · have := hok x hx
      rw [Opd.ag (h.sub (fun t ht => List.mem_flatMap.2 ⟨x, hx, ht⟩))] at this
      exact this
  case sl sz x lo hi =>
    have h1 := Opd.ag (h.sub (l' := x.slots) (by simp_all))
    have h2 : AgV V W (lo.toList.flatMap Opd.slots) := h.sub (by simp_all)
    have h3 : AgV V W (hi.toList.flatMap Opd.slots) := h.sub (by simp_all)
    refine ⟨?_, fun hok => ?_⟩
    · simp only [Ex.val, h1]; congr 1
      · funext n; rw [optNum_ag h2]
      · funext n; rw [optNum_ag h3]
    · simp only [Ex.ok, h1] at hok ⊢; exact ⟨hok.1, (optB_ag h2 h3).1 hok.2⟩
  case ssl x lo hi =>
    have h1 := Opd.ag (h.sub (l' := x.slots) (by simp_all))
    have h2 : AgV V W (lo.toList.flatMap Opd.slots) := h.sub (by simp_all)
    have h3 : AgV V W (hi.toList.flatMap Opd.slots) := h.sub (by simp_all)
    refine ⟨?_, fun hok => ?_⟩
    · simp only [Ex.val, h1]; congr 1
      · funext n; rw [optNum_ag h2]
      · funext n; rw [optNum_ag h3]
    · simp only [Ex.ok, h1] at hok ⊢; exact ⟨hok.1, (optB_ag h2 h3).1 hok.2⟩
  case app x y sz b => simp only [Ex.val, Ex.ok, Opd.ag (h.sub (l' := x.slots) (by simp_all)), Opd.ag (h.sub (l' := y.slots) (by simp_all))]; exact ⟨trivial, id⟩
  case pck x => simp only [Ex.val, Ex.ok, h x (by simp)]; exact ⟨trivial, id⟩
  case box z x => simp only [Ex.val, Ex.ok, Opd.ag h]; exact ⟨trivial, id⟩
  case apf x y sz b => simp only [Ex.val, Ex.ok, Opd.ag (h.sub (l' := x.slots) (by simp_all)), Opd.ag (h.sub (l' := y.slots) (by simp_all))]; exact ⟨trivial, id⟩
  case isn ng x => simp only [Ex.val, Ex.ok, Opd.ag h]; exact ⟨trivial, id⟩
  case alc z => exact ⟨rfl, id⟩
  case stB b off n x cov => simp only [Ex.val, Ex.ok, h b (by simp), Opd.ag (h.sub (l' := x.slots) (by simp_all))]; exact ⟨trivial, id⟩
  case mkf f cs => simp only [Ex.val, Ex.ok, map_ag h]; exact ⟨trivial, id⟩
  case stF r a sz x => simp only [Ex.val, Ex.ok, h r (by simp), h a (by simp), Opd.ag (h.sub (l' := x.slots) (by simp_all))]; exact ⟨trivial, id⟩
  case mks sz b z n => simp only [Ex.val, Ex.ok, Opd.ag h]; exact ⟨trivial, id⟩
  case bst x => simp only [Ex.val, Ex.ok, Opd.ag (h.sub (l' := x.slots) (by simp_all))]; exact ⟨trivial, id⟩
  case six x i => simp only [Ex.val, Ex.ok, Opd.ag (h.sub (l' := x.slots) (by simp_all)), Opd.ag (h.sub (l' := i.slots) (by simp_all))]; exact ⟨trivial, id⟩
  case mx x y => simp only [Ex.val, Ex.ok, Opd.ag (h.sub (l' := x.slots) (by simp_all)), Opd.ag (h.sub (l' := y.slots) (by simp_all))]; exact ⟨trivial, id⟩
  case mn x y => simp only [Ex.val, Ex.ok, Opd.ag (h.sub (l' := x.slots) (by simp_all)), Opd.ag (h.sub (l' := y.slots) (by simp_all))]; exact ⟨trivial, id⟩

theorem gHold_ag {V W : Env} {g : List (Nat × Bool)} (h : AgV V W (g.map (·.1))) : gHold V g ↔ gHold W g := by
  unfold gHold
  constructor
  · intro h1 q hq; rw [← h q.1 (List.mem_map.2 ⟨q, hq, rfl⟩)]; exact h1 q hq
  · intro h1 q hq; rw [h q.1 (List.mem_map.2 ⟨q, hq, rfl⟩)]; exact h1 q hq
theorem gBool_ag {V W : Env} {g : List (Nat × Bool)} (h : AgV V W (g.map (·.1))) (h1 : gBool V g) : gBool W g := by
  cases g with
  | nil => trivial
  | cons q r =>
    simp only [gBool] at h1 ⊢
    intro h2
    rw [← h q.1 (by simp)]
    exact h1 ((gHold_ag (h.sub (by intro t ht; simp only [List.map_cons, List.mem_cons]; exact .inr ht))).2 h2)

/-- an operation asks for a value of its slot, and that alone -/
def GP.ask (C : Ctr) (o : GP) (V : Env) (v : PV) : Prop :=
  gBool V o.g ∧ match o.p with
  | .set _ e => (gHold V o.g → e.ok V) ∧ v = e.val V
  | .call _ f args k => (gHold V o.g → C f (k == .lin || k == .tup) (args.map (·.val V)) v) ∧ (k = .sc → scB v = true) ∧ (k = .tup → ∃ vs, v = .tup vs)
  | .callv _ fv args => (gHold V o.g → ∃ f caps, fv.val V = .fn f caps ∧ C f false (args.map (·.val V) ++ caps) v) ∧ scB v = true
  | .callp _ f args => (gHold V o.g → C.fp f (args.map (·.val V)) v)

theorem GP.wp_iff {C : Ctr} {K : Env → Prop} {V : Env} {o : GP} : o.wp C K V ↔ ∃ v, o.ask C V v ∧ K (V.upd o.p.dst v) := by
  obtain ⟨g, p⟩ := o
  cases p with
  | set d e => simp only [GP.wp, GP.ask, POp.dst]; exact ⟨fun ⟨h1, h2, h3⟩ => ⟨_, ⟨h1, h2, rfl⟩, h3⟩, fun ⟨v, ⟨h1, h2, h3⟩, h4⟩ => ⟨h1, h2, h3 ▸ h4⟩⟩
  | call d f args k => simp only [GP.wp, GP.ask, POp.dst]; exact ⟨fun ⟨h1, r, h2, h3, h4, h5⟩ => ⟨r, ⟨h1, h2, h3, h4⟩, h5⟩, fun ⟨r, ⟨h1, h2, h3, h4⟩, h5⟩ => ⟨h1, r, h2, h3, h4, h5⟩⟩
  | callv d fv args => simp only [GP.wp, GP.ask, POp.dst]; exact ⟨fun ⟨h1, r, h2, h3, h5⟩ => ⟨r, ⟨h1, h2, h3⟩, h5⟩, fun ⟨r, ⟨h1, h2, h3⟩, h5⟩ => ⟨h1, r, h2, h3, h5⟩⟩
  | callp d f args => simp only [GP.wp, GP.ask, POp.dst]; exact ⟨fun ⟨h1, r, h2, h5⟩ => ⟨r, ⟨h1, h2⟩, h5⟩, fun ⟨r, ⟨h1, h2⟩, h5⟩ => ⟨h1, r, h2, h5⟩⟩

theorem GP.ask_ag {C : Ctr} {V W : Env} {o : GP} {v : PV} (h : AgV V W o.slots) (ha : o.ask C V v) : o.ask C W v := by
  obtain ⟨g, p⟩ := o
  have hg : AgV V W (g.map (·.1)) := h.sub (by intro t ht; simp only [GP.slots, List.mem_append]; exact .inr ht)
  have hp : AgV V W p.slots := h.sub (by intro t ht; simp only [GP.slots, List.mem_append]; exact .inl ht)
  obtain ⟨h1, h2⟩ := ha
  refine ⟨gBool_ag hg h1, ?_⟩
  cases p with
  | set d e =>
    obtain ⟨e1, e2⟩ := Ex.ag (hp.sub (l' := e.slots) (by intro t ht; simp [POp.slots, ht]))
    exact ⟨fun hh => e2 (h2.1 ((gHold_ag hg).2 hh)), by rw [h2.2, e1]⟩
  | call d f args k =>
    have e1 := map_ag (hp.sub (l' := args.flatMap Opd.slots) (by intro t ht; simp only [POp.slots, List.mem_cons]; exact .inr ht))
    exact ⟨fun hh => by rw [← e1]; exact h2.1 ((gHold_ag hg).2 hh), h2.2⟩
  | callv d fv args =>
    have e1 := map_ag (hp.sub (l' := args.flatMap Opd.slots) (by intro t ht; simp only [POp.slots, List.mem_cons, List.mem_append]; exact .inr (.inr ht)))
    have e2 := Opd.ag (hp.sub (l' := fv.slots) (by intro t ht; simp only [POp.slots, List.mem_cons, List.mem_append]; exact .inr (.inl ht)))
    exact ⟨fun hh => by rw [← e1, ← e2]; exact h2.1 ((gHold_ag hg).2 hh), h2.2⟩
  | callp d f args =>
    have e1 := map_ag (hp.sub (l' := args.flatMap Opd.slots) (by intro t ht; simp only [POp.slots, List.mem_cons]; exact .inr ht))
    exact fun hh => by rw [← e1]; exact h2 ((gHold_ag hg).2 hh)

theorem GP.wp_mono {C : Ctr} {K K' : Env → Prop} {V : Env} {o : GP} (h : ∀ V, K V → K' V) (hw : o.wp C K V) : o.wp C K' V := by
  rw [GP.wp_iff] at hw ⊢
  obtain ⟨v, h1, h2⟩ := hw
  exact ⟨v, h1, h _ h2⟩

theorem flatMap_congr' {α β : Type} {f g : α → List β} : ∀ {l : List α}, (∀ x ∈ l, f x = g x) → l.flatMap f = l.flatMap g
  | [], _ => rfl
  | x :: l, h => by
    rw [List.flatMap_cons, List.flatMap_cons, h x (List.mem_cons_self ..), flatMap_congr' (fun y hy => h y (List.mem_cons_of_mem _ hy))]

/-! #### the step looks at what it says it looks at -/

theorem step_ag {X : Cx} {M M2 : MF} {gs : Option (Nat × Bool)} {o : Oper} {u : List (Nat × SM)} {gp : GP} {rd : List Nat} (h : step X M gs o = some (u, gp, rd)) (hag : ∀ t ∈ rd, M2 t = M t) :
    step X M2 gs o = some (u, gp, rd) := by
  have hrd : rd = rdset M gs o := by obtain ⟨p, h1, _⟩ := step_inv h; exact h1
  have htm : ∀ t ∈ tmpsOf o, twoLevel M2 t = twoLevel M t := by
    intro t ht
    have hin : ∀ r ∈ twoLevel M t, r ∈ rd := by
      intro r hr
      rw [hrd]; simp only [rdset, List.mem_append, List.mem_flatMap]
      exact .inl (.inr ⟨t, ht, hr⟩)
    have h0 : M2 t = M t := hag t (hin t (by simp [twoLevel]))
    have h1 : oneLevel M2 t = oneLevel M t := by simp [oneLevel, h0]
    simp only [twoLevel, h1]
    congr 1
    apply flatMap_congr'
    intro r hr
    have h2 : M2 r = M r := hag r (hin r (by simp only [twoLevel, List.mem_cons, List.mem_flatMap]; exact .inr ⟨r, hr, .inl rfl⟩))
    simp [oneLevel, h2]
  have hch : chain M2 gs = chain M gs := by
    cases gs with
    | none => rfl
    | some q =>
      have : M2 q.1 = M q.1 := hag q.1 (by rw [hrd]; simp [rdset, chain])
      simp [chain, this]
  have hrd2 : rdset M2 gs o = rd := by
    rw [hrd]; simp only [rdset, hch]
    congr 2
    apply flatMap_congr'
    exact htm
  have hre : restr M2 rd = restr M rd := by
    funext t
    unfold restr
    by_cases ht : rd.contains t = true
    · rw [if_pos ht, if_pos ht]; exact hag t (by simpa using ht)
    · rw [if_neg ht, if_neg ht]
  unfold step at h ⊢
  simp only [hrd2, hre]
  rw [← hrd] at h
  exact h

theorem upds_keys {M : MF} {u : List (Nat × SM)} {t : Nat} (h : t ∉ u.map (·.1)) : upds M u t = M t := by
  unfold upds
  have : u.lookup t = none := by
    induction u with
    | nil => rfl
    | cons q u ih =>
      simp only [List.map_cons, List.mem_cons, not_or] at h
      simp only [List.lookup]
      have : (t == q.1) = false := by simpa using h.1
      rw [this]; exact ih h.2
  rw [this]

theorem step_keys {X : Cx} {M : MF} {gs : Option (Nat × Bool)} {o : Oper} {u : List (Nat × SM)} {gp : GP} {rd : List Nat} (h : step X M gs o = some (u, gp, rd)) :
    (∀ t ∈ u.map (·.1), t ∈ rd) ∧ (∀ t ∈ gp.slots, t ∈ rd) ∧ gp.p.dst ∈ u.map (·.1) := by
  obtain ⟨p, hrd, hs, hfix, hlive, hsc, rfl, hGd, hroot, hpd, hdem, hslots, hdst, hshape, hu⟩ := step_inv h
  refine ⟨?_, fun t ht => by simpa using hslots t ht, ?_⟩
  · rw [hu]
    intro t ht
    simp only [List.map_cons, List.mem_cons, List.map_map, List.mem_map, Function.comp] at ht
    rcases ht with rfl | ⟨q, hq, rfl⟩
    · simpa using hpd
    · simpa using hdem q hq
  · rw [hu]; simp only [List.map_cons, List.mem_cons]; left; exact hdst

end Go.Eng
namespace Go.Eng
open Go Go.RowKit
set_option linter.unusedSimpArgs false
set_option linter.unusedVariables false

/-! ### regions -/

def gsOf (ops : Array Oper) (o : Oper) : Option (Option (Nat × Bool)) := match o.guard with
  | none => some none
  | some (j, b) => match (ops[j]?).bind (·.dst) with
    | some s => some (some (s, b))
    | none => none

/-- 'tx': the tuple of which a part that is plain data is taken -/
structure Rec where
  u : List (Nat × SM)
  gp : GP
  rd : List Nat
  tx : Option Nat := none
  al : Option Nat := none
  deriving Inhabited
def tupS (e : SM) : Bool := match e.m with | .tup _ => true | _ => false
/-- the same, but for what of a tuple is taken -/
def simE (e f : SM) : Bool := e == f || (tupS e && tupS f && e.v == f.v && e.c == f.c && e.g == f.g)
def txOf (X : Cx) (o : Oper) : Option Nat := if o.guard.isSome then none else match o.op with
  | .extract (.tmp t) _ => if X.flat o.type then some t else none
  | _ => none

/-- the slot that is moved -/
def alOf (o : Oper) : Option Nat := if o.guard.isSome then none else match o.op with
  | .move (.tmp t) => some t
  | _ => none
/-- the same, but for how often it was written -/
def eqC (e f : SM) : Bool := e.m == f.m && e.v == f.v && e.g == f.g
def isBP (e : SM) : Bool := match e.m with | .boxP _ => true | _ => false

def mf (l : List SM) : MF := fun t => l.getD t {}
def setL (l : List SM) (u : List (Nat × SM)) : List SM := u.foldr (fun q acc => acc.set q.1 q.2) l

/-- which operations must have come before -/
def cloOr (acc : List Nat) (b : Nat) (e : Edge) : Nat := if Region.binds .any e then (b ||| 1 <<< e.on) ||| acc.getD e.on 0 else b
def indep (r s : Rec) : Bool := (r.u.all fun q => !s.rd.contains q.1 || (s.tx == some q.1 && tupS q.2 && q.1 != r.gp.p.dst)) && (s.u.all fun q => !r.rd.contains q.1)

section
variable {P : Program} {X : Cx} {c : Ctx} {V : Env} {a : Act} {w w' : World} {o : Oper} {N : Nat} {ops : Array Oper}

theorem mf_set {l : List SM} {t : Nat} {e : SM} (h : t < l.length) : mf (l.set t e) = fun s => if s = t then e else mf l s := by
  funext s
  simp only [mf, List.getD_eq_getElem?_getD, List.getElem?_set]
  by_cases hs : s = t
  · subst hs; simp [h]
  · rw [if_neg (fun hh => hs hh.symm), if_neg hs]

theorem setL_length (l : List SM) (u : List (Nat × SM)) : (setL l u).length = l.length := by
  induction u with
  | nil => rfl
  | cons q u ih => simp only [setL, List.foldr_cons, List.length_set] at ih ⊢; exact ih

theorem mf_setL {l : List SM} : ∀ {u : List (Nat × SM)}, (∀ q ∈ u, q.1 < l.length) → mf (setL l u) = upds (mf l) u
  | [], _ => by funext t; simp [setL, upds]
  | q :: u, h => by
    have ih := mf_setL (l := l) (u := u) (fun r hr => h r (List.mem_cons_of_mem _ hr))
    have hq := h q (List.mem_cons_self ..)
    have : setL l (q :: u) = (setL l u).set q.1 q.2 := rfl
    rw [this, mf_set (by rw [setL_length]; exact hq), ih]
    funext s
    simp only [upds, List.lookup]
    by_cases hs : s = q.1
    · subst hs; simp
    · have : (s == q.1) = false := by simpa using hs
      rw [if_neg hs, this]

theorem wanted_iff {gs : Option (Nat × Bool)} (h : gsOf ops o = some gs) : Region.wanted o (yielded ops a.tmps) = true ↔ wantedX gs (Act.x a) := by
  unfold gsOf at h
  unfold Region.wanted
  cases hg : o.guard with
  | none => rw [hg] at h; simp at h; subst h; simp [wantedX]
  | some q =>
    obtain ⟨j, b⟩ := q
    rw [hg] at h
    simp only at h ⊢
    cases hd : (ops[j]?).bind (·.dst) with
    | none => rw [hd] at h; cases h
    | some s =>
      rw [hd] at h
      simp only [Option.some.injEq] at h; subst h
      simp only [yielded, hd, Option.bind_some, wantedX, Act.x, Array.getD_eq_getD_getElem?]
      cases ht : a.tmps[s]? with
      | none => simp [undef]
      | some v => cases v <;> simp

theorem upds_comm {M : MF} {u v : List (Nat × SM)} (h : ∀ t ∈ u.map (·.1), t ∉ v.map (·.1)) : upds (upds M u) v = upds (upds M v) u := by
  funext t
  by_cases h1 : t ∈ u.map (·.1)
  · have h2 := h t h1
    rw [upds_keys h2]
    unfold upds
    cases hh : u.lookup t with
    | some e => rfl
    | none =>
      exfalso
      clear h h2
      induction u with
      | nil => cases h1
      | cons q u ih =>
        simp only [List.lookup] at hh
        split at hh
        · cases hh
        · rename_i hq
          simp only [List.map_cons, List.mem_cons] at h1
          rcases h1 with h1 | h1
          · simp [h1] at hq
          · exact ih h1 hh
  · rw [upds_keys (M := upds M v) h1]
    unfold upds
    cases v.lookup t with
    | some e => rfl
    | none =>
      have := upds_keys (M := M) h1
      unfold upds at this
      simpa using this

theorem indep_inv {r s : Rec} (h : indep r s = true) : (∀ q ∈ r.u, q.1 ∈ s.rd → s.tx = some q.1 ∧ tupS q.2 = true ∧ q.1 ≠ r.gp.p.dst) ∧ (∀ t ∈ s.u.map (·.1), t ∉ r.rd) := by
  simp only [indep, Bool.and_eq_true, List.all_eq_true, Bool.or_eq_true, Bool.not_eq_true', List.contains_eq_mem, decide_eq_false_iff_not, beq_iff_eq, bne_iff_ne] at h
  refine ⟨fun q hq hrd => ?_, fun t ht => ?_⟩
  · rcases h.1 q hq with h1 | h1
    · exact absurd hrd h1
    · exact ⟨h1.1.1, h1.1.2, h1.2⟩
  · obtain ⟨q, hq, rfl⟩ := List.mem_map.1 ht; exact h.2 q hq

/-- a part that is plain data is taken of a tuple, whatever else of it is taken -/
theorem step_tx {M N : MF} {i tt : Nat} {u : List (Nat × SM)} {gp : GP} {rd : List Nat} (hop : o.op = .extract (.tmp tt) i) (hfl : X.flat o.type = true) (h : step X N none o = some (u, gp, rd)) (hs : ∀ t ∈ rd, simE (M t) (N t) = true) (htt : tupS (N tt) = true) :
    step X M none o = some (u, gp, rd) ∧ ∀ q ∈ u, q.1 = gp.p.dst := by
  cases hd : o.dst with
  | none => simp [step, stepO, hop, hd] at h
  | some d =>
    have htm : tmpsOf o = [tt] := by simp [tmpsOf, hop, Op.operands]
    have hol : ∀ K : MF, tupS (K tt) = true → rdset K none o = [d, tt] := by
      intro K hk
      unfold tupS at hk
      split at hk
      case h_2 => cases hk
      rename_i tk hm
      simp [rdset, htm, hd, twoLevel, oneLevel, hm, chain]
    have hrd : rd = [d, tt] := by
      obtain ⟨p, hrd, _⟩ := step_inv h
      rw [hrd]; exact hol N htt
    subst hrd
    have hst := hs tt (by simp)
    have hsd := hs d (by simp)
    have sim3 : ∀ {e f : SM}, simE e f = true → e.v = f.v ∧ e.c = f.c ∧ e.g = f.g ∧ (tupS f = true → tupS e = true) := by
      intro e f h0
      simp only [simE, Bool.or_eq_true, Bool.and_eq_true, beq_iff_eq] at h0
      rcases h0 with rfl | ⟨⟨⟨⟨h1, h2⟩, h3⟩, h4⟩, h5⟩
      · exact ⟨rfl, rfl, rfl, id⟩
      · exact ⟨h3, h4, h5, fun _ => h1⟩
    obtain ⟨t1, t2, t3, t4⟩ := sim3 hst
    obtain ⟨d1, d2, d3, _⟩ := sim3 hsd
    have hMt := t4 htt
    have e1 := hol M hMt
    have e2 := hol N htt
    unfold step at h ⊢
    simp only [e1, e2] at h ⊢
    have r1 : ∀ K : MF, restr K [d, tt] tt = K tt := fun K => by simp [restr]
    have r2 : ∀ K : MF, restr K [d, tt] d = K d := fun K => by simp [restr]
    have hso : ∀ K : MF, tupS (K tt) = true → (K tt).g = (N tt).g → stepO X (restr K [d, tt]) (chain (restr K [d, tt]) none) o = (if (N tt).g = [] then some ⟨d, .sc, [], .set d (.ext tt i true), false⟩ else none) := by
      intro K hk hg
      unfold tupS at hk
      split at hk
      case h_2 => cases hk
      rename_i tk hm
      simp only [stepO, hop, hd, r1, hm, chain, hg, hfl]
      cases h0 : (N tt).g with
      | nil => simp [gIn]
      | cons q l => simp [gIn]
    rw [hso N htt rfl] at h
    rw [hso M hMt t3]
    simp only [r2, d1, d2, d3, chain] at h ⊢
    refine ⟨?_, ?_⟩
    · by_cases h0 : (N tt).g = []
      · simp only [h0, if_true] at h ⊢
        simp [liveG, fixG, r2, d1, d2] at h ⊢
        exact h
      · simp [h0] at h
    · intro q hq
      by_cases h0 : (N tt).g = []
      · simp only [h0, if_true] at h
        simp only [liveG, List.all_nil, Option.all_none, Bool.and_self, Bool.not_true, Bool.false_eq_true, if_false, fixG, beq_self_eq_true, if_true] at h
        split at h
        · cases h
        · simp only [Option.some.injEq, Prod.mk.injEq] at h
          obtain ⟨h1, h2, _⟩ := h
          subst h1 h2
          simp only [List.map_nil, List.mem_singleton] at hq
          subst hq
          rfl
      · simp [h0] at h

/-- a cursor's alias does not ask how often the cursor was written -/
theorem step_al {M N : MF} {s : Nat} {u : List (Nat × SM)} {gp : GP} {rd : List Nat} (hop : o.op = .move (.tmp s)) (hbp : isBP (N s) = true) (hs : eqC (M s) (N s) = true) (hag : ∀ t ∈ rd, t ≠ s → M t = N t) (h : step X N none o = some (u, gp, rd)) :
    step X M none o = some (u, gp, rd) ∧ (∀ q ∈ u, q.1 = gp.p.dst) ∧ gp.slots = [gp.p.dst] ∧ gp.p.dst ≠ s := by
  cases hd : o.dst with
  | none => simp [step, stepO, hop, hd] at h
  | some d =>
    have htm : tmpsOf o = [s] := by simp [tmpsOf, hop, Op.operands]
    have hbp' := hbp
    unfold isBP at hbp'
    split at hbp'
    case h_2 => cases hbp'
    rename_i ty hm
    simp only [eqC, Bool.and_eq_true, beq_iff_eq] at hs
    obtain ⟨⟨s1, s2⟩, s3⟩ := hs
    have hol : ∀ K : MF, (K s).m = .boxP ty → rdset K none o = [d, s] := by
      intro K hk
      simp [rdset, htm, hd, twoLevel, oneLevel, hk, chain]
    have hrd : rd = [d, s] := by
      obtain ⟨p, hrd, _⟩ := step_inv h
      rw [hrd]; exact hol N hm
    subst hrd
    have hMm : (M s).m = .boxP ty := by rw [s1, hm]
    have e1 := hol M hMm
    have e2 := hol N hm
    unfold step at h ⊢
    simp only [e1, e2] at h ⊢
    have r1 : ∀ K : MF, restr K [d, s] s = K s := fun K => by simp [restr]
    have r2 : ∀ K : MF, restr K [d, s] d = K d := fun K => by simp [restr]
    have hso : ∀ K : MF, (K s).m = .boxP ty → (K s).g = (N s).g → (K s).v = (N s).v → stepO X (restr K [d, s]) (chain (restr K [d, s]) none) o = (if (N s).g = [] then some ⟨d, .adB s (N s).v 0, [], .set d (.mv (.c .junk)), false⟩ else none) := by
      intro K hk hg hv
      simp only [stepO, hop, hd, stepM, isNilSl, Bool.false_eq_true, if_false, frOf, r1, hk, hg, chain]
      by_cases h0 : (N s).g = []
      · simp [h0, stepF, r1, hk, frSz, hv]
      · have : ((N s).g == []) = false := by simpa using h0
        simp [h0, opd, r1, hk, vlike]
    rw [hso N hm rfl rfl] at h
    rw [hso M hMm s3 s2]
    by_cases h0 : (N s).g = []
    case neg => simp [h0] at h
    simp only [h0, if_true] at h ⊢
    simp only [r2, chain, liveG, List.all_nil, Option.all_none, Bool.and_self, Bool.not_true, Bool.false_eq_true, if_false, fixG, beq_self_eq_true, if_true] at h ⊢
    split at h
    · cases h
    rename_i hc
    simp only [Option.some.injEq, Prod.mk.injEq] at h
    obtain ⟨rfl, rfl, _⟩ := h
    have hds : s ≠ d := by
      intro hh
      apply hc
      simp [rootOK, hh]
    have hMd := hag d (by simp) (fun hh => hds hh.symm)
    rw [if_neg hc, hMd]
    refine ⟨by simp, ?_, ?_, fun hh => hds hh.symm⟩
    · intro q hq
      simp only [List.map_nil, List.mem_singleton] at hq
      subst hq; rfl
    · rfl

end
end Go.Eng
namespace Go.Eng
open Go Go.RowKit
set_option linter.unusedSimpArgs false
set_option linter.unusedVariables false

/-! ### code -/

def nz (e : SM) : SM := if e.g != [] then {} else match e.m with
  | .via .. => { m := .ext }
  | .adB .. | .adE .. | .adS .. => {}
  | m => { m }
def wk (e f : SM) : Bool := f.g.isEmpty && (match f.m with
  | .no => true
  | .via .. | .adB .. | .adE .. | .adS .. => false
  | .ext => e.g.isEmpty && vlike e.m
  | .box false t => e.g.isEmpty && (match boxOf e.m with | some (_, u) => t == u | none => false)
  | .own false => e.g.isEmpty && (match e.m with | .own _ => true | _ => false)
  | m => e.g.isEmpty && m == e.m)
def isOwn : Md → Bool | .own _ => true | _ => false
def join1 (e f : SM) : SM := if e == f then e else match boxOf e.m, boxOf f.m with
  | some (_, t), some (_, u) => if t == u then { m := .box false t } else {}
  | _, _ => if isOwn e.m && isOwn f.m then { m := .own false } else if vlike e.m && vlike f.m then { m := .ext } else {}
def wkL : List SM → List SM → Bool
  | [], [] => true
  | e :: l, f :: r => wk e f && wkL l r
  | _, _ => false
def joinL (a b : List SM) : List SM := List.zipWith join1 (a.map nz) (b.map nz)

/-! ### what is written where it lies -/

/-- an operation that writes what a slot owns: a call that is handed it, or a cell of an element of it (the index: the slot 't'); cells of an element; cells of an element of the list that is such a cell; a call that takes what it is handed -/
inductive MP where
  | call (d f r : Nat) (ags : List Opd) (lin : Bool)
  | cell (d f r t off sz : Nat) (ags : List Opd) (lin : Bool)
  | set (r t off n sz : Nat) (x : Opd)
  | nset (r u uo us t off n sz : Nat) (x : Opd)
  | callx (d f : Nat) (ags : List Opd) (lin : Bool)
  | callb (d f r n : Nat) (ags : List Opd) (lin : Bool)
  | slx (d sz : Nat) (x : Opd) (lo hi : Option Opd)
  deriving Inhabited

def elAt (V : Env) (r t : Nat) : List PV := ((V r).els[(V t).num.toNat]?).getD []
def setEl (V : Env) (r t off sz : Nat) (ys : List PV) : PV := .lst sz false ((V r).els.set (V t).num.toNat (putc (elAt V r t) off ys))
/-- the list that is a cell of an element, and that with cells of an element of it written -/
def inAt (V : Env) (r u uo : Nat) : PV := ((elAt V r u)[uo]?).getD .junk
def elIn (V : Env) (r u uo t : Nat) : List PV := ((inAt V r u uo).els[(V t).num.toNat]?).getD []
def setIn (V : Env) (r u uo t off sz : Nat) (ys : List PV) : PV := .lst sz false ((inAt V r u uo).els.set (V t).num.toNat (putc (elIn V r u uo t) off ys))

def isPtrN (n : Nat) : PV → Bool | .ptr cs => cs.length == n | _ => false
def MP.wp (C : Ctr) (K : Env → Prop) (V : Env) : MP → Prop
  | .call d f r ags lin => ∃ res v', C.fm f (V r :: ags.map (·.val V)) res v' ∧ (lin = false → scB res = true) ∧ K ((V.upd r v').upd d res)
  | .cell d f r t off sz ags lin => isLst sz (V r) = true ∧ ∃ res v', C.fm f (((elAt V r t)[off]?).getD .junk :: ags.map (·.val V)) res v' ∧ (lin = false → scB res = true) ∧ K ((V.upd r (setEl V r t off sz [v'])).upd d res)
  | .set r t off n sz x => (isLst sz (V r) = true ∧ (cellsOf (x.val V)).length = n ∧ ∀ c ∈ cellsOf (x.val V), oneB c = true) ∧ K (V.upd r (setEl V r t off sz (cellsOf (x.val V))))
  | .nset r u uo us t off n sz x => (isLst us (V r) = true ∧ isLst sz (inAt V r u uo) = true ∧ (cellsOf (x.val V)).length = n ∧ ∀ c ∈ cellsOf (x.val V), oneB c = true) ∧
      K (V.upd r (setEl V r u uo us [setIn V r u uo t off sz (cellsOf (x.val V))]))
  | .callx d f ags lin => ∃ res, C.fx f (ags.map (·.val V)) res ∧ (lin = false → scB res = true) ∧ K (V.upd d res)
  | .callb d f r n ags lin => isPtrN n (V r) = true ∧ ∃ res v', C.fm f (.agg (V r).pcs :: ags.map (·.val V)) res v' ∧ (lin = false → scB res = true) ∧ K ((V.upd r (.ptr (cellsOf v'))).upd d res)
  | .slx d sz x lo hi => (isLst sz (x.val V) = true ∧ optB V lo hi (lenV (x.val V)) (lenV (x.val V))) ∧ K (V.upd d (slV (fun _ => (optNum V 0 lo).toNat) (fun n => (optNum V n hi).toNat) (x.val V)))

theorem MP.wp_mono {C : Ctr} {K K' : Env → Prop} (h : ∀ V, K V → K' V) : ∀ {p : MP} {V : Env}, p.wp C K V → p.wp C K' V
  | .call .., _, ⟨res, v', h1, h0, h2⟩ => ⟨res, v', h1, h0, h _ h2⟩
  | .cell .., _, ⟨h0, res, v', h1, h3, h2⟩ => ⟨h0, res, v', h1, h3, h _ h2⟩
  | .set .., _, ⟨h0, h2⟩ => ⟨h0, h _ h2⟩
  | .nset .., _, ⟨h0, h2⟩ => ⟨h0, h _ h2⟩
  | .callx .., _, ⟨res, h1, h0, h2⟩ => ⟨res, h1, h0, h _ h2⟩
  | .callb .., _, ⟨h0, res, v', h1, h3, h2⟩ => ⟨h0, res, v', h1, h3, h _ h2⟩
  | .slx .., _, ⟨h0, h2⟩ => ⟨h0, h _ h2⟩

/-- an operation that draws: a call that is handed a cursor (the slot 'r'); a call of a function that draws; a new cursor; a cursor that moves to another slot -/
inductive CP where
  | call (d f r : Nat) (ags : List Opd) (k : RK)
  | draw (d f : Nat) (ags : List Opd) (k : RK)
  | new (d f : Nat) (ags : List Opd)
  | mv (d s : Nat)
  | callg (g : List (Nat × Bool)) (d f r : Nat) (ags : List Opd)
  deriving Inhabited
def resK (k : RK) (v : PV) : Prop := (k = .sc → scB v = true) ∧ (k = .tup → ∃ vs, v = .tup vs)
def RK.own : RK → Bool | .lin | .tup => true | _ => false
def CP.wp (C : Ctr) (K : Env → Prop) (V : Env) : CP → Prop
  | .call d f r ags k => isCur (V r) = true ∧ ∃ R, C.fr f true k.own (ags.map (·.val V)) R ∧ ∀ res cs, R res → isCur cs = true → resK k res ∧ K ((V.upd r cs).upd d res)
  | .draw d f ags k => ∃ R, C.fr f false k.own (ags.map (·.val V)) R ∧ ∀ res, R res → resK k res ∧ K (V.upd d res)
  | .new d f ags => C.fc f (ags.map (·.val V)) ∧ ∀ cs, isCur cs = true → K (V.upd d cs)
  | .mv d s => isCur (V s) = true ∧ K (V.upd d (V s))
  | .callg g d f r ags => gBool V g ∧ isCur (V r) = true ∧ (gHold V g → ∃ R, C.fr f true false (ags.map (·.val V)) R ∧ ∀ res cs, R res → isCur cs = true → scB res = true ∧ K ((V.upd r cs).upd d res)) ∧
      (¬ gHold V g → ∀ cs, isCur cs = true → K ((V.upd r cs).upd d .junk))
theorem CP.wp_mono {C : Ctr} {K K' : Env → Prop} (h : ∀ V, K V → K' V) : ∀ {p : CP} {V : Env}, p.wp C K V → p.wp C K' V
  | .call .., _, ⟨h0, R, h1, h2⟩ => ⟨h0, R, h1, fun res cs q1 q2 => ⟨(h2 res cs q1 q2).1, h _ (h2 res cs q1 q2).2⟩⟩
  | .draw .., _, ⟨R, h1, h2⟩ => ⟨R, h1, fun res q1 => ⟨(h2 res q1).1, h _ (h2 res q1).2⟩⟩
  | .new .., _, ⟨h1, h2⟩ => ⟨h1, fun cs q => h _ (h2 cs q)⟩
  | .mv .., _, ⟨h1, h2⟩ => ⟨h1, h _ h2⟩
  | .callg .., _, ⟨h0, h1, h2, h3⟩ => ⟨h0, h1, fun hg => by obtain ⟨R, q1, q2⟩ := h2 hg; exact ⟨R, q1, fun res cs q3 q4 => ⟨(q2 res cs q3 q4).1, h _ (q2 res cs q3 q4).2⟩⟩, fun hg cs q => h _ (h3 hg cs q)⟩
def opdS : List Opd → List Nat
  | [] => []
  | .t t :: r => t :: opdS r
  | .c _ :: r => opdS r
/-- what it reads, and what it writes -/
def CP.slots : CP → List Nat
  | .call d _ r ags _ => d :: r :: opdS ags
  | .draw d _ ags _ => d :: opdS ags
  | .new d _ ags => d :: opdS ags
  | .mv d s => [d, s]
  | .callg g d _ r ags => d :: r :: (g.map (·.1) ++ opdS ags)
def CP.curs : CP → Option Nat
  | .call _ _ r _ _ => some r
  | .callg _ _ _ r _ => some r
  | _ => none
def CP.outs : CP → List Nat
  | .call d _ r _ _ => [d, r]
  | .draw d _ _ _ => [d]
  | .new d _ _ => [d]
  | .mv d _ => [d]
  | .callg _ d _ r _ => [d, r]

/-- what may share with what is written is let go -/
def killS (e : SM) : SM := match e.m with
  | .ext | .via _ _ _ | .tup _ | .own false | .box false _ => { e with m := .no }
  | .par | .own true | .box true _ | .boxP _ | .fr _ | .mp => if e.g == [] then e else { e with m := .no }
  | _ => e
def killE (r t : Nat) (e : SM) : SM := if t = r then { e with c := e.c + 1 } else killS e
def killL (r : Nat) : Nat → List SM → List SM
  | _, [] => []
  | k, e :: l => killE r k e :: killL r (k + 1) l
def sweepL (m : List SM) : List SM := m.map killS

/-- the root that a slot is, or is a copy of -/
def rootW (M : MF) (s : Nat) : Option Nat := match (M s).m with
  | .own true => if (M s).g == [] then some s else none
  | .via r n .all => if (M s).g == [] && (M r).c == n && (M r).m == .own true && (M r).g == [] then some r else none
  | _ => none
/-- .. or is a cell of an element of -/
def rootOf (M : MF) (s : Nat) : Option (Nat × Option (Nat × Nat × Nat)) := match rootW M s with
  | some r => some (r, none)
  | none => match (M s).m with
    | .via r n (.hole u tv off sz) => if (M s).g == [] && (M r).c == n && (M r).m == .own true && (M r).g == [] && (M u).v == tv && (M u).g == [] then
        (match (M u).m with
        | .adE s' n' off' sz' => if off' == off && sz' == sz && (M s').v == n' && rootW M s' == some r then some (r, some (u, off, sz)) else none
        | _ => none) else none
    | _ => none

/-- the box of which a slot is all that is in it -/
def rootB (M : MF) (s : Nat) : Option (Nat × Nat) := match (M s).m with
  | .via r n (.bx k) => if (M s).g == [] && (M r).c == n && (M r).g == [] then (match (M r).m with | .box true _ => some (r, k) | _ => none) else none
  | _ => none

def scArg (M : MF) (x : Operand) : Option Opd := match opd M [] x with
  | some y => if isSc M y then some y else none
  | none => none

/-- a slot's new mode -/
def newL (m : List SM) (d : Nat) (lin : Bool) : SM := { m := if lin then .own true else .sc, v := (mf m d).v + 1, c := (mf m d).c + 1 }
def doneL (m : List SM) (r d : Nat) (lin : Bool) : List SM := (killL r 0 m).set d (newL m d lin)

def demL (l : List (Nat × Md)) (m : List SM) : List SM := l.foldr (fun q acc => acc.set q.1 { mf acc q.1 with m := q.2 }) m

/-- what is stored: plain data, or what is owned and given away -/
def stArg (M : MF) (r : Nat) (N : Nat) (x : Operand) : Option (Opd × List (Nat × Md)) := match scArg M x with
  | some y => some (y, [])
  | none => match opd M [] x with
    | some y => (match takeDeep M y with
      | some l => if (l.lookup r).isNone && l.all (fun q => decide (q.1 < N)) then some (y, l) else none
      | none => none)
    | none => none

def isTup (X : Cx) (t : Nat) : Bool := match X.ti t with | some i => (match i.k with | .tup _ => true | _ => false) | none => true

/-- one operation that writes -/
def mone (X : Cx) (m : List SM) (o : Oper) : Option (MP × List SM) :=
  if o.guard.isSome then none else match o.op, o.dst with
  | .store t (.tmp a) x, none => (match X.ti t, (mf m a).m with
    | some i, .adE s n off sz => (match rootOf (mf m) s with
      | some (r, h) => if (mf m a).g == [] && (mf m s).v == n && i.k.data && decide (off + i.sz ≤ sz) && decide (r < m.length) then
          (match h, stArg (mf m) r m.length x with
          | none, some (x', l) => some (.set r a off i.sz sz x', killL r 0 (demL l m))
          | some (u, uo, us), some (x', []) => some (.nset r u uo us a off i.sz sz x', killL r 0 m)
          | _, _ => none) else none
      | none => none)
    | _, _ => none)
  | .call cl, some d => (match cl.callee with
    | .value (.func f) =>
      let lin := !X.flat o.type
      if isTup X o.type && lin then none else
      if X.wf.contains f then (match cl.args.toList with
        | .tmp s :: rest => (match rootOf (mf m) s, mapO (scArg (mf m)) rest with
          | some (r, h), some l => if d != r && decide (d < m.length) && decide (r < m.length) && (!X.mu || d != 0) then
              (match h with
              | none => some (.call d f r l lin, doneL m r d lin)
              | some (u, off, sz) => some (.cell d f r u off sz l lin, doneL m r d lin)) else none
          | none, some l => (match rootB (mf m) s with
            | some (r, k) => if d != r && decide (d < m.length) && decide (r < m.length) && (!X.mu || d != 0) then some (.callb d f r k l lin, doneL m r d lin) else none
            | none => none)
          | _, _ => none)
        | _ => none)
      else if X.xf.contains f then (match mapO (opd (mf m) []) cl.args.toList with
        | some l => (match takeAll (mf m) l with
          | some dm => if dm.all (fun q => decide (q.1 < m.length)) && decide (d < m.length) && (!X.mu || d != 0) then
              some (.callx d f l lin, (sweepL (demL dm m)).set d (newL m d lin)) else none
          | none => none)
        | none => none)
      else none
    | _ => none)
  | .slice t x lo hi none, some d => if !X.tk then none else (match opd (mf m) [] x, X.ti t, mapO (scArg (mf m)) lo.toList, mapO (scArg (mf m)) hi.toList with
    | some x', some i, some lo', some hi' => (match i.k with
      | .slice e => (match X.ti e, takeAll (mf m) [x'] with
        | some j, some dm => if j.k.data && dm.all (fun q => decide (q.1 < m.length)) && decide (d < m.length) && (!X.mu || d != 0) then
            some (.slx d j.sz x' lo'.head? hi'.head?, (sweepL (demL dm m)).set d (newL m d true)) else none
        | _, _ => none)
      | _ => none)
    | _, _, _, _ => none)
  | _, _ => none

/-- the cursor that a slot is -/
def curTy (M : MF) (s : Nat) : Option Nat := match (M s).m with
  | .boxP ty => if (M s).g == [] then some ty else none
  | _ => none
/-- the cursor that an argument points at -/
def curOf (M : MF) (s : Nat) : Option Nat := match (M s).m with
  | .adB r n 0 => if (M s).g == [] && (M r).v == n && (curTy M r).isSome then some r else none
  | .boxP _ => if (M s).g == [] then some s else none
  | _ => none
def rkOf (X : Cx) (t : Nat) (lin : Bool) : RK := if X.flat t then .sc else if !lin then .ext else if isTup X t then .tup else .lin
def newK (M : MF) (d : Nat) (k : RK) : SM := { m := k.md, v := (M d).v + 1, c := (M d).c + 1 }
def parArg (M : MF) : Operand → Option Opd
  | .tmp s => if (M s).m == .par && (M s).g == [] then some (.t s) else none
  | _ => none
def cstepO (X : Cx) (M : MF) (o : Oper) : Option (CP × List (Nat × SM)) :=
  match o.op, o.dst with
  | .call cl, some d => (match cl.callee with
    | .value (.func f) => (match X.rf.lookup f with
      | some (cur, lin, nw) =>
        if nw then (match cl.args.toList, X.ti o.type with
          | [y], some i => (match i.k, parArg M y with
            | .ptr ty, some y' => some (.new d f [y'], [(d, { m := .boxP ty, v := (M d).v + 1, c := (M d).c + 1 })])
            | _, _ => none)
          | _, _ => none)
        else if cur then (match cl.args.toList with
          | .tmp s0 :: rest => (match curOf M s0, mapO (opd M []) rest with
            | some s, some l => if d != s && rkOf X o.type lin != .ext then some (.call d f s l (rkOf X o.type lin), [(d, newK M d (rkOf X o.type lin)), (s, { M s with c := (M s).c + 1 })]) else none
            | _, _ => none)
          | _ => none)
        else (match mapO (opd M []) cl.args.toList with
          | some l => some (.draw d f l (rkOf X o.type lin), [(d, newK M d (rkOf X o.type lin))])
          | none => none)
      | none => none)
    | _ => none)
  | .assign (.tmp s), some d => (match curTy M s with
    | some ty => if d != s then some (.mv d s, [(d, { m := .boxP ty, v := (M d).v + 1, c := (M d).c + 1 }), (s, { M s with m := .no })]) else none
    | none => none)
  | _, _ => none
/-- one operation that draws -/
def cstep (X : Cx) (M : MF) (o : Oper) : Option (List (Nat × SM) × CP × List Nat) :=
  if o.guard.isSome then none else
  let rd := o.dst.toList ++ tmpsOf o ++ (tmpsOf o).flatMap (oneLevel M)
  match cstepO X (restr M rd) o with
  | some (p, u) => if (p.curs.all fun r => match u.lookup r with | some e => isBP e && eqC (restr M rd r) e | none => false) && (u.all fun q => rd.contains q.1) && (p.slots.all fun t => rd.contains t) && (p.outs.all fun t => (u.map (·.1)).contains t) then some (u, p, rd) else none
  | none => none

/-- .. under a guard -/
def curOfG (M : MF) (G : GL) (s : Nat) : Option Nat := match (M s).m with
  | .adB r n 0 => if ((M s).g == G || (M s).g == []) && (M r).v == n && (curTy M r).isSome then some r else none
  | _ => none
def cstepG (X : Cx) (M : MF) (G : GL) (o : Oper) : Option (CP × List (Nat × SM)) :=
  match o.op, o.dst with
  | .call cl, some d => (match cl.callee with
    | .value (.func f) => (match X.rf.lookup f with
      | some (true, lin, false) => (match cl.args.toList with
          | .tmp s0 :: rest => (match curOfG M G s0, mapO (opd M []) rest with
            | some s, some l => if d != s && rkOf X o.type lin == .sc && !(G.any (·.1 == d)) && !(G.any (·.1 == s)) then some (.callg (G.map fun q => (q.1, q.2.2)) d f s l, [(d, { m := .sc, v := (M d).v + 1, c := (M d).c + 1, g := G }), (s, { M s with c := (M s).c + 1 })]) else none
            | _, _ => none)
          | _ => none)
      | _ => none)
    | _ => none)
  | _, _ => none
def cstepg (X : Cx) (M : MF) (gs : Option (Nat × Bool)) (o : Oper) : Option (List (Nat × SM) × CP × List Nat) :=
  let rd := o.dst.toList ++ tmpsOf o ++ (tmpsOf o).flatMap (oneLevel M) ++ (chain M gs).map (·.1)
  if !(liveG (restr M rd) (chain (restr M rd) gs) && (gs.all fun q => (restr M rd q.1).m == .sc)) then none else
  match cstepG X (restr M rd) (chain (restr M rd) gs) o with
  | some (p, u) => if (p.curs.all fun r => match u.lookup r with | some e => isBP e && eqC (restr M rd r) e | none => false) && (u.all fun q => rd.contains q.1) && (p.slots.all fun t => rd.contains t) && (p.outs.all fun t => (u.map (·.1)).contains t) then some (u, p, rd) else none
  | none => none
def cstepA (X : Cx) (M : MF) (gs : Option (Nat × Bool)) (o : Oper) : Option (List (Nat × SM) × CP × List Nat) := match gs with
  | none => cstep X M o
  | some q => cstepg X M (some q) o

/-! ### regions -/

/-- an operation of a region: one that reads; one that writes -/
inductive It where
  | gp (r : Rec)
  | mp (p : MP) (m : List SM)
  | cp (u : List (Nat × SM)) (p : CP) (rd : List Nat)
  deriving Inhabited

def regI (X : Cx) (ops : Array Oper) : List Nat → List SM → Option (List It × List SM)
  | [], m => some ([], m)
  | i :: r, m => match ops[i]? with
    | none => none
    | some o => match (match gsOf ops o with
        | none => none
        | some gs => match step X (mf m) gs o with
          | none => none
          | some (u, gp, rd) => if (u.all fun q => decide (q.1 < m.length) && (q.1 == gp.p.dst || !tupS q.2 || simE (mf m q.1) q.2)) && o.dst.all (fun d => decide (d < m.length) && (!X.mu || d != 0)) then some (Rec.mk u gp rd (txOf X o) (alOf o)) else none) with
      | some rc => (match regI X ops r (setL m rc.u) with
        | some (l, m') => some (.gp rc :: l, m')
        | none => none)
      | none => match mone X m o with
        | some (p, m1) => (match regI X ops r m1 with
          | some (l, m') => some (.mp p m1 :: l, m')
          | none => none)
        | none => match (match gsOf ops o with | none => none | some gs => cstepA X (mf m) gs o) with
          | some (u, p, rd) => if (u.all fun q => decide (q.1 < m.length)) && o.dst.all (fun d => !X.mu || d != 0) then (match regI X ops r (setL m u) with
            | some (l, m') => some (.cp u p rd :: l, m')
            | none => none) else none
          | none => none

def depsIn (seen : List Nat) (o : Oper) : Bool := o.after.all fun e => !Region.binds .any e || seen.contains e.on
/-- an order in which nothing stands ahead of what it waits for -/
def topo (ops : Array Oper) : Nat → List Nat → List Nat → List Nat
  | 0, seen, _ => seen.reverse
  | n + 1, seen, left => match left.find? (fun i => match ops[i]? with | some o => depsIn seen o | none => false) with
    | some i => topo ops n (i :: seen) (left.filter (· != i))
    | none => seen.reverse
def natOK (ops : Array Oper) : Bool := ops.toList.zipIdx.all fun q => q.1.after.all fun e => !Region.binds .any e || decide (e.on < q.2)
/-- a call that draws -/
def isR (X : Cx) (o : Oper) : Bool := match o.op with
  | .call cl => (match cl.callee with | .value (.func f) => (X.rf.lookup f).isSome | _ => false)
  | _ => false
/-- .. in which what draws comes as late as it can -/
def topoR (X : Cx) (ops : Array Oper) : Nat → List Nat → List Nat → List Nat
  | 0, seen, _ => seen.reverse
  | n + 1, seen, left =>
    match left.find? (fun i => match ops[i]? with | some o => depsIn seen o && !isR X o | none => false) with
    | some i => topoR X ops n (i :: seen) (left.filter (· != i))
    | none => match left.find? (fun i => match ops[i]? with | some o => depsIn seen o | none => false) with
      | some i => topoR X ops n (i :: seen) (left.filter (· != i))
      | none => seen.reverse
def orderOf (X : Cx) (ops : Array Oper) (draw : Bool) : List Nat := if !draw then List.range ops.size else if ops.any (isR X) then topoR X ops ops.size [] (List.range ops.size) else if natOK ops then List.range ops.size else topo ops ops.size [] (List.range ops.size)

def indI (a b : It) : Bool := match a, b with
  | .gp r, .gp s => indep r s
  | .gp r, .cp u p rd => (r.u.all fun q => !rd.contains q.1) && (u.all fun q => !r.rd.contains q.1 || (r.al == some q.1 && p.curs == some q.1))
  | _, _ => false

/-- what stands ahead in the order is needed, or can be passed -/
def ordI (cl : List Nat) : List (Nat × It) → List (Nat × It) → Bool
  | _, [] => true
  | before, q :: r => (before.all fun b => (cl.getD q.1 0).testBit b.1 || indI b.2 q.2) && ordI cl (q :: before) r
def topoOK (ops : Array Oper) : List Nat → List Nat → Bool
  | _, [] => true
  | seen, i :: r => (match ops[i]? with | some o => depsIn seen o | none => false) && !seen.contains i && topoOK ops (i :: seen) r

/-- what must have come before, in the order of 'π' -/
def cloAt (ops : Array Oper) (acc : List Nat) (i : Nat) : List Nat := match ops[i]? with
  | some o => acc.set i (acc.getD i 0 ||| o.after.toList.foldl (cloOr acc) 0)
  | none => acc
def cloP (ops : Array Oper) (π : List Nat) : List Nat := π.foldl (cloAt ops) (List.replicate ops.size 0)

def regionC (X : Cx) (ops : Array Oper) (draw : Bool) (m : List SM) : Option (List It × List SM) :=
  let π := orderOf X ops draw
  match regI X ops π m with
  | some (its, m') => if !draw || (decide (π.length = ops.size) && (List.range ops.size).all (fun i => π.contains i) && topoOK ops [] π && ordI (cloP ops π) [] (π.zip its)) then some (its, m') else none
  | none => none

inductive IR where
  | skip
  | ops (l : List GP)
  | mop (p : MP)
  | cop (p : CP)
  | seq (a b : IR)
  | cond (c : Opd) (a b : IR)
  | block (id : Nat) (b : IR)
  | loop (b : IR)
  | exit (id : Nat)
  | ret
  deriving Inhabited

/-- a region's form -/
def irGo (acc : List GP) : List It → IR
  | [] => .ops acc.reverse
  | .gp r :: l => irGo (r.gp :: acc) l
  | .mp p _ :: l => .seq (.ops acc.reverse) (.seq (.mop p) (irGo [] l))
  | .cp _ p _ :: l => .seq (.ops acc.reverse) (.seq (.cop p) (irGo [] l))

abbrev Out := Option (List SM) × List (Nat × List SM)

def joinO : Option (List SM) → Option (List SM) → Option (Option (List SM))
  | none, x => some x
  | x, none => some x
  | some a, some b => let j := joinL a b; if wkL a j && wkL b j then some (some j) else none

def joinAll : List (List SM) → Option (List SM) → Option (Option (List SM))
  | [], x => some x
  | a :: r, x => match joinO (some a) x with
    | some y => joinAll r y
    | none => none

def condO (m : List SM) : Operand → Option Opd
  | .tmp t => if (mf m t).m == .sc && (mf m t).g == [] then some (.t t) else none
  | .const (.bool b) => some (.c (.bool b))
  | _ => none

def backOK : Option (List SM) → List SM → Bool
  | some b, h => wkL b h
  | none, _ => true

/-- the state at the loop's head: what every round leaves as it is -/
def headOf (f : List SM → Option (IR × Out)) : Nat → List SM → Option (List SM)
  | 0, _ => none
  | n + 1, m => match f m with
    | some (_, none, _) => some m
    | some (_, some b, _) => if wkL b m then some m else headOf f n (joinL m b)
    | none => none

def comp (X : Cx) (rt : List SM → Bool) : Code → List SM → Option (IR × Out)
  | .skip, m => some (.skip, some m, [])
  | .label _, m => some (.skip, some m, [])
  | .region _ ops draw, m => match regionC X ops draw m with
    | some (l, m') => some (irGo [] l, some m', [])
    | none => none
  | .seq a b, m => match comp X rt a m with
    | some (ia, some ma, xa) => (match comp X rt b ma with
      | some (ib, mb, xb) => some (.seq ia ib, mb, xa ++ xb)
      | none => none)
    | some (ia, none, xa) => some (ia, none, xa)
    | none => none
  | .cond c a b, m => match condO m c, comp X rt a m, comp X rt b m with
    | some c', some (ia, na, xa), some (ib, nb, xb) => (match joinO na nb with
      | some n => some (.cond c' ia ib, n, xa ++ xb)
      | none => none)
    | _, _, _ => none
  | .block id body, m => match comp X rt body m with
    | some (i, n, xs) => (match joinAll ((xs.filter (·.1 == id)).map (·.2)) n with
      | some n' => some (.block id i, n', xs.filter (·.1 != id))
      | none => none)
    | none => none
  | .loop body, m =>
    match headOf (comp X rt body) 6 (m.map nz) with
    | some h => (match comp X rt body h with
      | some (i, n, xs) => if wkL m h && backOK n h then some (.loop i, none, xs) else none
      | none => none)
    | none => none
  | .exit id, m => some (.exit id, none, [(id, m)])
  | .scope b, m => comp X rt b m
  | .ret, m => if rt m then some (.ret, none, []) else none
  | _, _ => none

inductive Ext | normal | exit (id : Nat) | ret

def Ext.then (K : Env → Prop) (Q : Ext → Env → Prop) : Ext → Env → Prop
  | .normal, V => K V
  | e, V => Q e V
def Ext.inBlock (id : Nat) (Q : Ext → Env → Prop) : Ext → Env → Prop
  | .exit i, V => if i = id then Q .normal V else Q (.exit i) V
  | e, V => Q e V

def awp (C : Ctr) : IR → (Ext → Env → Prop) → Env → Prop
  | .skip, Q, V => Q .normal V
  | .ops l, Q, V => wpl C (Q .normal) l V
  | .mop p, Q, V => p.wp C (Q .normal) V
  | .cop p, Q, V => p.wp C (Q .normal) V
  | .seq a b, Q, V => awp C a (Ext.then (awp C b Q) Q) V
  | .cond c a b, Q, V => isBool (c.val V) = true ∧ ((c.val V).isT = true → awp C a Q V) ∧ ((c.val V).isT = false → awp C b Q V)
  | .block id b, Q, V => awp C b (Ext.inBlock id Q) V
  | .loop b, Q, V => ∃ (I : Env → Prop) (μ : Env → Nat), I V ∧ ∀ V, I V → awp C b (Ext.then (fun V' => I V' ∧ μ V' < μ V) Q) V
  | .exit id, Q, V => Q (.exit id) V
  | .ret, Q, V => Q .ret V

end Go.Eng
namespace Go.Eng
open Go Go.RowKit
set_option linter.unusedSimpArgs false
set_option linter.unusedVariables false

section
variable {P : Program} {X : Cx} {c : Ctx} {V : Env} {a : Act} {w w' : World} {o : Oper} {N : Nat} {ops : Array Oper}

/-! #### knowing less -/

theorem RG.weaken {F E : Nat → Foot} {B : Nat → Nat} {M M' : MF} {x : Nat → Value} (h : RG c F E B M V x w) (hw : ∀ t, wk (M t) (M' t) = true) :
    ∃ E', RG c F E' B M' V x w := by
  refine ⟨fun t => if mayOwn (M' t).m = true then E t else [], ?_⟩
  have hE : ∀ t e, e ∈ (if mayOwn (M' t).m = true then E t else []) → e ∈ E t := by
    intro t e he
    split at he
    · exact he
    · cases he
  have hg : ∀ t, (M' t).g = [] := by
    intro t
    have := hw t
    simp only [wk, Bool.and_eq_true, List.isEmpty_iff] at this
    exact this.1
  have hbx : ∀ t, isBox (M' t).m = true → isBox (M t).m = true ∧ (M t).g = [] := by
    intro t ht
    have h1 := hw t
    simp only [wk, Bool.and_eq_true, List.isEmpty_iff] at h1
    have h2 := h1.2
    cases hm : (M' t).m with
    | fr sz =>
      rw [hm] at h2
      simp only [Bool.and_eq_true, List.isEmpty_iff, beq_iff_eq] at h2
      exact ⟨by rw [← h2.2]; rfl, h2.1⟩
    | boxP ty =>
      rw [hm] at h2
      simp only [Bool.and_eq_true, List.isEmpty_iff, beq_iff_eq] at h2
      exact ⟨by rw [← h2.2]; rfl, h2.1⟩
    | mp =>
      rw [hm] at h2
      simp only [Bool.and_eq_true, List.isEmpty_iff, beq_iff_eq] at h2
      exact ⟨by rw [← h2.2]; rfl, h2.1⟩
    | box dp ty =>
      rw [hm] at h2
      cases dp
      · simp only [Bool.and_eq_true, List.isEmpty_iff] at h2
        refine ⟨?_, h2.1⟩
        have h3 := h2.2
        split at h3
        · rename_i dp' u hmm; exact (boxOf_slot (c := c) (F := F) (E := E) (B := B) (M := M) (V := V) (x := x) (w := w) (t := t) hmm).1
        · cases h3
      · simp only [Bool.and_eq_true, List.isEmpty_iff, beq_iff_eq] at h2
        exact ⟨by rw [← h2.2]; rfl, h2.1⟩
    | _ => rw [hm] at ht; cases ht
  constructor
  · intro t
    refine Ent.mk (fun q hq => by rw [hg t] at hq; cases hq) (fun ho => by simp [ho]) (fun _ => ⟨fun _ => ?_, fun hh => absurd (by rw [hg t]; intro q hq; cases hq) hh⟩)
    have h1 := hw t
    simp only [wk, Bool.and_eq_true, List.isEmpty_iff] at h1
    have h2 := h1.2
    have act : (M t).g = [] → SlotR c F E B M V x w t (M t).m := fun h0 => ((h.en t).sl (by rw [h0]; simp)).1 (by rw [h0]; simp)
    cases hm : (M' t).m with
    | no => trivial
    | via _ _ _ => rw [hm] at h2; cases h2
    | adB _ _ _ => rw [hm] at h2; cases h2
    | adE _ _ _ _ => rw [hm] at h2; cases h2
    | adS _ _ => rw [hm] at h2; cases h2
    | fr sz =>
      rw [hm] at h2
      simp only [Bool.and_eq_true, List.isEmpty_iff, beq_iff_eq] at h2
      have := act h2.1
      rw [← h2.2] at this
      simp only [SlotR] at this ⊢
      rw [hm]; simpa [mayOwn] using this
    | ext =>
      rw [hm] at h2
      simp only [Bool.and_eq_true, List.isEmpty_iff] at h2
      exact (act h2.1).rep h2.2
    | sc =>
      rw [hm] at h2
      simp only [Bool.and_eq_true, List.isEmpty_iff, beq_iff_eq] at h2
      have := act h2.1
      rw [← h2.2] at this
      simpa only [SlotR] using this
    | par =>
      rw [hm] at h2
      simp only [Bool.and_eq_true, List.isEmpty_iff, beq_iff_eq] at h2
      have := act h2.1
      rw [← h2.2] at this
      simpa only [SlotR] using this
    | own dp =>
      rw [hm] at h2
      cases dp
      · simp only [Bool.and_eq_true, List.isEmpty_iff] at h2
        have h3 := act h2.1
        have h4 := h2.2
        split at h4
        · rename_i dp' hmm
          rw [hmm] at h3
          simp only [SlotR] at h3 ⊢
          rw [hm]
          obtain ⟨q1, q2, _⟩ := h3
          refine ⟨q1, ?_, fun _ => trivial⟩
          cases dp'
          · simpa [mayOwn] using q2
          · obtain ⟨o1, o2⟩ := q2
            simp only [topOf, if_true] at o1 o2
            refine ⟨fun e he => ?_, ?_⟩
            · simp only [topOf, Bool.false_eq_true, if_false] at he
              simpa [mayOwn] using o1 e (List.mem_of_mem_take he)
            · simp only [topOf, Bool.false_eq_true, if_false]
              rw [List.map_take]
              exact o2.sublist (List.take_sublist ..)
        · cases h4
      · simp only [Bool.and_eq_true, List.isEmpty_iff, beq_iff_eq] at h2
        have := act h2.1
        rw [← h2.2] at this
        simp only [SlotR] at this ⊢
        rw [hm]; simpa [mayOwn] using this
    | boxP ty =>
      rw [hm] at h2
      simp only [Bool.and_eq_true, List.isEmpty_iff, beq_iff_eq] at h2
      have := act h2.1
      rw [← h2.2] at this
      exact this
    | mp =>
      rw [hm] at h2
      simp only [Bool.and_eq_true, List.isEmpty_iff, beq_iff_eq] at h2
      have := act h2.1
      rw [← h2.2] at this
      exact this
    | tup tk =>
      rw [hm] at h2
      simp only [Bool.and_eq_true, List.isEmpty_iff, beq_iff_eq] at h2
      have := act h2.1
      rw [← h2.2] at this
      simp only [SlotR] at this ⊢
      rw [hm]; simpa [mayOwn] using this
    | box dp ty =>
      rw [hm] at h2
      cases dp
      · simp only [Bool.and_eq_true, List.isEmpty_iff] at h2
        have h3 := act h2.1
        have h4 := h2.2
        split at h4
        · rename_i dp' u hmm
          obtain ⟨cs, arr, tyy, a1, a2, a3, a4, a5, a6⟩ := (boxOf_slot (c := c) (F := F) (E := E) (B := B) (M := M) (V := V) (x := x) (w := w) (t := t) hmm).2.2 h3
          exact ⟨cs, arr, tyy, a1, a2, a3, a4, a5, by simp⟩
        · cases h4
      · simp only [Bool.and_eq_true, List.isEmpty_iff, beq_iff_eq] at h2
        have := act h2.1
        rw [← h2.2] at this
        simp only [SlotR] at this ⊢
        rw [hm]; simpa [mayOwn] using this
  · exact fun t u e f he hf hef => h.e1 t u e f (hE t e he) (hE u f hf) hef
  · intro t
    by_cases hmo : mayOwn (M' t).m = true
    · simp only [hmo, if_true]; exact h.e2 t
    · simp [hmo]
  · exact fun t e he => h.e3 t e (hE t e he)
  · exact fun t e he => h.e4 t e (hE t e he)
  · exact fun t e he => h.e5 t e (hE t e he)
  · exact fun t _ => hg t
  · exact fun t ht => h.b1 t (hbx t ht).1
  · exact fun t u ht hu => h.b2 t u (hbx t ht).1 (hbx u hu).1
  · exact h.f1
  · exact h.d1

theorem wkL_get : ∀ {l r : List SM}, wkL l r = true → ∀ t, wk (mf l t) (mf r t) = true
  | [], [], _, t => by simp [mf, wk]
  | e :: l, f :: r, h, t => by
    simp only [wkL, Bool.and_eq_true] at h
    cases t with
    | zero => simpa [mf] using h.1
    | succ t => simpa [mf] using wkL_get h.2 t
theorem wkL_len : ∀ {l r : List SM}, wkL l r = true → l.length = r.length
  | [], [], _ => rfl
  | _ :: l, _ :: r, h => by simp only [wkL, Bool.and_eq_true] at h; simp [wkL_len h.2]

theorem RA.weaken {l r : List SM} (h : RA c l.length (mf l) V a w) (hw : wkL l r = true) : RA c r.length (mf r) V a w := by
  obtain ⟨F, E, B, h1, h2, h3, h4⟩ := h
  obtain ⟨E', h5⟩ := h1.weaken (wkL_get hw)
  exact ⟨F, E', B, h5, h2, h3.trans (wkL_len hw), h4⟩

/-- a draw turns no memory -/
theorem Rep.heap {v x F} (h : Rep w v x F) (hh : w'.heap = w.heap) : Rep w' v x F :=
  h.keep (fun e _ => ⟨fun o _ => by simp [World.cell?, hh], fun arr ty fr h0 => ⟨arr, fr, by rw [hh]; exact h0, rfl⟩⟩)

theorem RA.heap {M : MF} (h : RA c N M V a w) (hh : w'.heap = w.heap) : RA c N M V a w' := by
  obtain ⟨F, E, B, h1, h2, h3, h4, h5⟩ := h
  have keep : ∀ G : Foot, Keeps w w' G := fun G e _ => ⟨fun o _ => by simp [World.cell?, hh], fun arr ty fr h0 => ⟨arr, fr, by rw [hh]; exact h0, rfl⟩⟩
  refine ⟨F, E, B, ?_, by rw [hh]; exact h2, h3, h4, c.ivs _ _ (fun k _ => by rw [hh]) h5.1, h5.2⟩
  refine ⟨fun t => ?_, h1.e1, h1.e2, fun t e he => ⟨(h1.e3 t e he).1, ?_⟩, h1.e4, h1.e5, h1.b0, fun t ht => by rw [hh]; exact h1.b1 t ht, h1.b2, fun t f hf => by rw [hh]; exact h1.f1 t f hf, h1.d1⟩
  · have he := h1.en t
    refine ⟨he.le, he.ow, fun hl => ⟨fun hg => ?_, (he.sl hl).2⟩⟩
    have hs := (he.sl hl).1 hg
    revert hs
    cases (M t).m with
    | no => exact fun _ => trivial
    | sc => exact fun hs => ⟨hs.1.keep (keep _), hs.2⟩
    | par => exact fun hs => ⟨hs.1.keep (keep _), hs.2⟩
    | ext => exact fun hs => Rep.keep (hs : Rep w (V t) (Act.x a t) (F t)) (keep _)
    | own dp => exact fun hs => ⟨hs.1.keep (keep _), hs.2⟩
    | via r n wh => exact fun hs => ⟨hs.1.keep (keep _), hs.2.1, fun h0 => ⟨(hs.2.2 h0).1, (hs.2.2 h0).2.keep (keep _) hh⟩⟩
    | adB r n off => exact fun hs => hs
    | adS r n => exact fun hs => hs
    | fr sz =>
      rintro ⟨els, arr, tyy, e1, e2, e3, e4, e5, e6, e7, e8⟩
      exact ⟨els, arr, tyy, e1, e2, by rw [hh]; exact e3, e4, e5, e6, e7.keep (keep _), e8⟩
    | adE s n off sz => exact fun hs => hs
    | tup tk =>
      rintro ⟨vs, xs, Fs, e1, e2, e3, e4, e5, e6⟩
      refine ⟨vs, xs, Fs, e1, e2, ?_, e4, e5, e6⟩
      clear e5 e4 e2 e1 e6
      generalize xs.toList = ys at e3
      induction e3 with
      | nil => exact .nil
      | cons hh' _ ih => exact .cons (hh'.keep (keep _)) ih
    | box dp ty =>
      rintro ⟨cs, arr, tyy, e1, e2, e3, e4, e5, e6⟩
      exact ⟨cs, arr, tyy, e1, e2, by rw [hh]; exact e3, e4, e5.keep (keep _), e6⟩
    | boxP ty =>
      rintro ⟨⟨cs, arr, tyy, e1, e2, e3, e4, e5⟩, e6⟩
      exact ⟨⟨cs, arr, tyy, e1, e2, by rw [hh]; exact e3, e4, e5.keep (keep _)⟩, e6⟩
    | mp =>
      rintro ⟨⟨l, es, ck, e1, e2, e3, e4⟩, e5⟩
      exact ⟨⟨l, es, ck, e1, e2, by rw [hh]; exact e3, e4⟩, e5⟩
  · obtain ⟨arr, ty, hq⟩ := (h1.e3 t e he).2
    exact ⟨arr, ty, by rw [hh]; exact hq⟩

/-! #### the closure -/

theorem cloOr_spec {acc : List Nat} {k : Nat} : ∀ (l : List Edge) (b : Nat), (l.foldl (cloOr acc) b).testBit k = true →
    b.testBit k = true ∨ ∃ e ∈ l, Region.binds .any e = true ∧ (k = e.on ∨ (acc.getD e.on 0).testBit k = true)
  | [], b, h => .inl h
  | e :: l, b, h => by
    rcases cloOr_spec l _ h with h1 | ⟨e', he, h1⟩
    · unfold cloOr at h1
      split at h1
      · rename_i hb
        simp only [Nat.testBit_or, Bool.or_eq_true] at h1
        rcases h1 with (h1 | h1) | h1
        · exact .inl h1
        · right
          refine ⟨e, List.mem_cons_self .., hb, .inl ?_⟩
          rw [Nat.one_shiftLeft, Nat.testBit_two_pow] at h1
          simpa using (of_decide_eq_true h1).symm
        · exact .inr ⟨e, List.mem_cons_self .., hb, .inr h1⟩
      · exact .inl h1
    · exact .inr ⟨e', List.mem_cons_of_mem _ he, h1⟩

theorem cloAt_mono {acc : List Nat} {i j k : Nat} (h : (acc.getD j 0).testBit k = true) : ((cloAt ops acc i).getD j 0).testBit k = true := by
  unfold cloAt
  split
  · rename_i o ho
    simp only [List.getD_eq_getElem?_getD, List.getElem?_set] at h ⊢
    by_cases hij : i = j
    · subst hij
      rw [if_pos rfl]
      by_cases hl : i < acc.length
      · rw [if_pos hl]
        simp only [Option.getD_some, Nat.testBit_or, Bool.or_eq_true]
        exact .inl h
      · rw [List.getElem?_eq_none (by omega)] at h; simp at h
    · rw [if_neg hij]; exact h
  · exact h
theorem cloP_spec : ∀ (π : List Nat) (acc : List Nat), (∀ i k, (acc.getD i 0).testBit k = true → ∃ o, ops[i]? = some o ∧ ∃ e ∈ o.after, Region.binds .any e = true ∧ (k = e.on ∨ (acc.getD e.on 0).testBit k = true)) →
    ∀ i k, ((π.foldl (cloAt ops) acc).getD i 0).testBit k = true → ∃ o, ops[i]? = some o ∧ ∃ e ∈ o.after, Region.binds .any e = true ∧ (k = e.on ∨ ((π.foldl (cloAt ops) acc).getD e.on 0).testBit k = true)
  | [], acc, h => h
  | p :: π, acc, h => by
    simp only [List.foldl_cons]
    refine cloP_spec π (cloAt ops acc p) (fun i k hk => ?_)
    have old : (acc.getD i 0).testBit k = true → ∃ o, ops[i]? = some o ∧ ∃ e ∈ o.after, Region.binds .any e = true ∧ (k = e.on ∨ ((cloAt ops acc p).getD e.on 0).testBit k = true) := by
      intro h0
      obtain ⟨o, ho, e, he, hb, h1⟩ := h i k h0
      exact ⟨o, ho, e, he, hb, h1.imp id cloAt_mono⟩
    by_cases h0 : (acc.getD i 0).testBit k = true
    · exact old h0
    · have hk' := hk
      unfold cloAt at hk
      split at hk
      · rename_i o ho
        simp only [List.getD_eq_getElem?_getD, List.getElem?_set] at hk
        by_cases hij : p = i
        · subst hij
          rw [if_pos rfl] at hk
          by_cases hl : p < acc.length
          · rw [if_pos hl] at hk
            simp only [Option.getD_some, Nat.testBit_or, Bool.or_eq_true] at hk
            rcases hk with hk | hk
            · exact absurd (by simpa [List.getD_eq_getElem?_getD] using hk) h0
            · rcases cloOr_spec _ _ hk with h3 | ⟨e, he, hb, h3⟩
              · simp at h3
              · exact ⟨o, ho, e, by simpa using he, hb, h3.imp id cloAt_mono⟩
          · rw [if_neg hl] at hk; simp at hk
        · rw [if_neg hij] at hk
          exact absurd (by simpa [List.getD_eq_getElem?_getD] using hk) h0
      · exact absurd hk h0

end
end Go.Eng
namespace Go.Eng
open Go Go.RowKit
set_option linter.unusedSimpArgs false
set_option linter.unusedVariables false

/-! ### what is written where it lies -/
section
variable {P : Program} {X : Cx} {c : Ctx} {F E : Nat → Foot} {B : Nat → Nat} {M : MF} {V : Env} {a : Act} {w w' : World} {o : Oper} {N : Nat} {ops : Array Oper} {x : Nat → Value}

def kp (e : SM) : Bool := match e.m with | .par | .own true | .box true _ | .boxP _ | .fr _ | .mp => e.g == [] | _ => false

theorem killS_v (e : SM) : (killS e).v = e.v ∧ (killS e).g = e.g ∧ (killS e).c = e.c := by
  unfold killS
  split <;> (try split) <;> exact ⟨rfl, rfl, rfl⟩
theorem killE_v (r t : Nat) (e : SM) : (killE r t e).v = e.v ∧ (killE r t e).g = e.g ∧ (t ≠ r → (killE r t e).c = e.c) := by
  unfold killE
  split
  · rename_i h; exact ⟨rfl, rfl, fun h' => absurd h h'⟩
  · exact ⟨(killS_v e).1, (killS_v e).2.1, fun _ => (killS_v e).2.2⟩
theorem killS_kp {e : SM} (h : kp e = true) : killS e = e := by
  unfold kp at h
  unfold killS
  split at h <;> first | cases h | (rename_i hmm; simp only [hmm, h, if_true])
theorem killS_box {e : SM} (ht : isBox (killS e).m = true) : isBox e.m = true := by
  unfold killS at ht
  cases hmt : e.m with
  | box dp ty => rfl
  | boxP ty => rfl
  | mp => rfl
  | fr sz => rfl
  | own dp =>
    exfalso
    cases dp
    · simp only [hmt, isBox] at ht; cases ht
    · simp only [hmt] at ht
      split at ht
      · rw [hmt] at ht; cases ht
      · simp only [isBox] at ht; cases ht
  | par =>
    exfalso
    simp only [hmt] at ht
    split at ht
    · rw [hmt] at ht; cases ht
    · simp only [isBox] at ht; cases ht
  | no | sc | ext | via _ _ _ | tup _ | adB _ _ _ | adS _ _ | adE _ _ _ _ =>
    exfalso
    simp only [hmt, isBox] at ht
    cases ht

/-- what may share is let go -/
theorem RG.sweep (h : RG c F E B M V x w) : RG c (fun t => if kp (M t) = true then F t else []) (fun t => if kp (M t) = true then E t else []) B (fun t => killS (M t)) V x w := by
  have hF : ∀ t f, f ∈ (if kp (M t) = true then F t else []) → f ∈ F t := by
    intro t f hf
    split at hf
    · exact hf
    · cases hf
  have hE : ∀ t f, f ∈ (if kp (M t) = true then E t else []) → f ∈ E t := by
    intro t f hf
    split at hf
    · exact hf
    · cases hf
  constructor
  · intro t
    have he := h.en t
    refine Ent.mk (fun q hq => by simp only [(killS_v _).2.1] at hq; simp only [(killS_v _).1]; exact he.le q hq) ?_ ?_
    · intro ho
      by_cases hk : kp (M t) = true
      · rw [if_pos hk]
        simp only [killS_kp hk] at ho
        exact he.ow ho
      · rw [if_neg hk]
    · simp only [(killS_v _).2.1]
      intro hl
      obtain ⟨s1, s2⟩ := he.sl (fun q hq => by rw [← (killS_v (M q.1)).1]; exact hl q hq)
      refine ⟨fun hh => ?_, s2⟩
      have hs := s1 hh
      by_cases hk : kp (M t) = true
      · simp only [killS_kp hk]
        have hk' := hk
        unfold kp at hk'
        split at hk'
        · rename_i hmm; rw [hmm] at hs ⊢; simp only [SlotR, hk, if_true] at hs ⊢; exact hs
        · rename_i hmm; rw [hmm] at hs ⊢; simp only [SlotR, hk, if_true] at hs ⊢; exact hs
        · rename_i hmm; rw [hmm] at hs ⊢; simp only [SlotR, hk, if_true] at hs ⊢; exact hs
        · rename_i hmm; rw [hmm] at hs ⊢; simp only [SlotR, hk, if_true] at hs ⊢; exact hs
        · rename_i hmm; rw [hmm] at hs ⊢; simp only [SlotR, hk, if_true] at hs ⊢; exact hs
        · rename_i hmm; rw [hmm] at hs ⊢; simp only [SlotR, hk, if_true] at hs ⊢; exact hs
        · cases hk'
      · cases hmt : (M t).m with
        | no => simp only [killS, hmt]; trivial
        | sc =>
          rw [hmt] at hs
          simp only [killS, hmt, SlotR, hk, if_false]
          exact ⟨hs.1, by simp⟩
        | par =>
          have hg : ¬ (((M t).g == []) = true) := fun hg => hk (by unfold kp; rw [hmt]; exact hg)
          simp only [killS, hmt, if_neg hg]; trivial
        | ext => simp only [killS, hmt]; trivial
        | via _ _ _ => simp only [killS, hmt]; trivial
        | tup _ => simp only [killS, hmt]; trivial
        | own dp =>
          cases dp
          · simp only [killS, hmt]; trivial
          · have hg : ¬ (((M t).g == []) = true) := fun hg => hk (by unfold kp; rw [hmt]; exact hg)
            simp only [killS, hmt, if_neg hg]; trivial
        | box dp ty =>
          cases dp
          · simp only [killS, hmt]; trivial
          · have hg : ¬ (((M t).g == []) = true) := fun hg => hk (by unfold kp; rw [hmt]; exact hg)
            simp only [killS, hmt, if_neg hg]; trivial
        | mp =>
          have hg : ¬ (((M t).g == []) = true) := fun hg => hk (by unfold kp; rw [hmt]; exact hg)
          simp only [killS, hmt, if_neg hg]; trivial
        | boxP ty =>
          have hg : ¬ (((M t).g == []) = true) := fun hg => hk (by unfold kp; rw [hmt]; exact hg)
          simp only [killS, hmt, if_neg hg]; trivial
        | fr sz =>
          have hg : ¬ (((M t).g == []) = true) := fun hg => hk (by unfold kp; rw [hmt]; exact hg)
          simp only [killS, hmt, if_neg hg]; trivial
        | adB r' n off =>
          rw [hmt] at hs
          have e : (killS (M t)).m = .adB r' n off := by simp only [killS, hmt]
          simp only [e, SlotR, (killS_v _).1] at hs ⊢
          exact hs
        | adS r' n =>
          rw [hmt] at hs
          have e : (killS (M t)).m = .adS r' n := by simp only [killS, hmt]
          simp only [e, SlotR, (killS_v _).1] at hs ⊢
          exact hs
        | adE s' n off sz =>
          rw [hmt] at hs
          have e : (killS (M t)).m = .adE s' n off sz := by simp only [killS, hmt]
          simp only [e, SlotR, (killS_v _).1] at hs ⊢
          exact hs
  · exact fun t u e f he hf hef => h.e1 t u e f (hE t e he) (hE u f hf) hef
  · intro t
    by_cases hk : kp (M t) = true
    · simp only [hk, if_true]; exact h.e2 t
    · simp [hk]
  · exact fun t e he => h.e3 t e (hE t e he)
  · intro t e he
    by_cases hk : kp (M t) = true
    · simp only [hk, if_true] at he ⊢; exact h.e4 t e he
    · simp [hk] at he
  · exact fun t e he u f hf => h.e5 t e (hE t e he) u f (hF u f hf)
  · exact fun t ht => by rw [(killS_v (M t)).2.1]; exact h.b0 t (killS_box ht)
  · exact fun t ht => ⟨(h.b1 t (killS_box ht)).1, (h.b1 t (killS_box ht)).2.1, fun u f hf => (h.b1 t (killS_box ht)).2.2 u f (hF u f hf)⟩
  · exact fun t u ht hu => h.b2 t u (killS_box ht) (killS_box hu)
  · exact fun t f hf => h.f1 t f (hF t f hf)
  · exact fun t f hf => h.d1 t f (hF t f hf)

theorem RG.act (h : RG c F E B M V x w) {t : Nat} (h0 : (M t).g = []) : SlotR c F E B M V x w t (M t).m := ((h.en t).sl (by rw [h0]; simp)).1 (by rw [h0]; simp)

/-- what is kept is owned, or the caller's -/
theorem RG.kept (h : RG c F E B M V x w) {t : Nat} (hk : kp (M t) = true) {f : Nat × Nat} (hf : f ∈ F t) : f ∈ E t ∨ (f.1 < c.base ∧ f.1 ∉ c.ms) := by
  unfold kp at hk
  split at hk
  · rename_i hmm
    have hs := h.act (by simpa using hk)
    rw [hmm] at hs
    exact .inr (hs.2 f hf)
  · rename_i hmm
    have hs := h.act (by simpa using hk)
    rw [hmm] at hs
    exact .inl (hs.2.1.1 f (by simpa [topOf] using hf))
  · rename_i hmm
    have hs := h.act (by simpa using hk)
    rw [hmm] at hs
    obtain ⟨_, _, _, _, _, _, _, _, h6⟩ := hs
    exact .inl ((h6 rfl).1 f (by simpa [topOf] using hf))
  · rename_i hmm
    have hs := h.act (by simpa using hk)
    rw [hmm] at hs
    exact .inr (hs.2 f hf)
  · rename_i hmm
    have hs := h.act (by simpa using hk)
    rw [hmm] at hs
    obtain ⟨_, _, _, _, _, _, _, _, _, _, h6⟩ := hs
    exact .inl (h6.1 f (by simpa [topOf] using hf))
  · rename_i hmm
    have hs := h.act (by simpa using hk)
    rw [hmm] at hs
    rw [hs.2] at hf; cases hf
  · cases hk

theorem mine_far {b : Nat} {f : Nat × Nat} (hb : c.mine b) (h : f.1 < c.base ∧ f.1 ∉ c.ms) : f.1 ≠ b := by
  intro hh
  rcases hb with hb | hb
  · omega
  · exact h.2 (hh ▸ hb)

/-- what floats is read by nothing that is kept -/
theorem RG.swept_free (h : RG c F E B M V x w) {L : Foot} (hL : Free c F E w L) {e : Nat × Nat} (he : e ∈ L) : ∀ u f, f ∈ (if kp (M u) = true then F u else []) → f.1 ≠ e.1 := by
  intro u f hf
  split at hf
  · rename_i hk
    rcases h.kept hk hf with h1 | h1
    · exact fun hh => hL.l1 e he u f h1 hh.symm
    · exact mine_far (hL.l3 e he).1 h1
  · cases hf
/-- what a slot owns is read by nothing else that is kept -/
theorem RG.swept_own (h : RG c F E B M V x w) {r : Nat} {e : Nat × Nat} (he : e ∈ E r) : ∀ u, u ≠ r → ∀ f, f ∈ (if kp (M u) = true then F u else []) → f.1 ≠ e.1 := by
  intro u hu f hf
  split at hf
  · rename_i hk
    rcases h.kept hk hf with h1 | h1
    · exact fun hh => hu (h.e1 u r f e h1 he hh)
    · exact mine_far (h.e3 r e he).1 h1
  · cases hf

theorem nd_one {F0 : Foot} (hnd : (F0.map (·.1)).Nodup) : ∀ f ∈ F0, ∀ e ∈ F0, f.1 = e.1 → f = e := by
  intro f hf e he hfe
  induction F0 with
  | nil => cases he
  | cons g L ih =>
    simp only [List.map_cons, List.nodup_cons] at hnd
    rcases List.mem_cons.1 he with h1 | h1
    · rcases List.mem_cons.1 hf with h2 | h2
      · rw [h1, h2]
      · exact absurd (List.mem_map.2 ⟨f, h2, hfe.trans (congrArg Prod.fst h1)⟩) hnd.1
    · rcases List.mem_cons.1 hf with h2 | h2
      · exact absurd (List.mem_map.2 ⟨e, h1, hfe.symm.trans (congrArg Prod.fst h2)⟩) hnd.1
      · exact ih hnd.2 h2 h1

def killM (M : MF) (r : Nat) : MF := fun t => killE r t (M t)

/-- A ROOT IS WRITTEN WHERE IT LIES; what floats may be taken. -/
theorem RG.writeG (h : RG c F E B M V x w) {L : Foot} (hL : Free c F E w L) {r : Nat} (hkr : kp (M r) = true) (hown : mayOwn (M r).m = true) (r2 : ∀ e ∈ F r, e ∈ E r) (r3 : ((F r).map (·.1)).Nodup) (hg : (M r).g = []) (hbs : c.base ≤ w.heap.size)
    {v' : PV} {F0 : Foot} (hsz : w.heap.size ≤ w'.heap.size) (hk : ∀ k, k < w.heap.size → (∀ e ∈ F r ++ L, e.1 ≠ k) → w'.heap[k]? = w.heap[k]?)
    (hslot : ∀ F2 E2 M2 V2 x2, F2 r = F0 → E2 r = F0 → V2 r = v' → x2 r = x r → SlotR c F2 E2 B M2 V2 x2 w' r (M r).m) (hF : ∀ g ∈ F0, g.1 < w'.heap.size ∧ Unfrozen w' g.1 ∧ (w.heap.size ≤ g.1 ∨ ∃ e ∈ F r ++ L, e.1 = g.1)) (hnd : (F0.map (·.1)).Nodup)
    (hV : ∀ b, V r ≠ .bool b) (hv : ∀ b, v' ≠ .bool b) :
    ∃ F2 E2, RG c F2 E2 B (killM M r) (V.upd r v') x w' ∧ F2 r = F0 ∧ (∀ u, u ≠ r → ∀ f ∈ F2 u, f.1 < w.heap.size ∧ ∀ e ∈ F r ++ L, f.1 ≠ e.1) ∧
      ∀ t, isBox (killM M r t).m = true → B t < w.heap.size ∧ ∀ e ∈ F r ++ L, B t ≠ e.1 := by
  have hx : setF x r (x r) = x := by funext t; unfold setF; split <;> simp_all
  have s := h.sweep
  have mine : ∀ e ∈ F r ++ L, c.mine e.1 ∧ e.1 < w.heap.size := by
    intro e he
    rcases List.mem_append.1 he with he | he
    · exact ⟨(h.e3 r e (r2 e he)).1, h.f1 r e he⟩
    · obtain ⟨u, hu⟩ := hL.l4 e he
      exact ⟨(hL.l3 e he).1, h.f1 u e hu⟩
  have far : ∀ u, u ≠ r → ∀ f, f ∈ (if kp (M u) = true then F u else []) → ∀ e ∈ F r ++ L, f.1 ≠ e.1 := by
    intro u hu f hf e he
    rcases List.mem_append.1 he with he | he
    · exact h.swept_own (r2 e he) u hu f hf
    · exact h.swept_free hL he u f hf
  have bfar : ∀ t, isBox (M t).m = true → ∀ e ∈ F r ++ L, B t ≠ e.1 := by
    intro t ht e he
    rcases List.mem_append.1 he with he | he
    · exact fun hh => (h.b1 t ht).2.2 r e he hh.symm
    · obtain ⟨u, hu⟩ := hL.l4 e he
      exact fun hh => (h.b1 t ht).2.2 u e hu hh.symm
  have key : ∀ g ∈ F0, c.mine g.1 ∧ ∀ t, t ≠ r → ∀ f, f ∈ (if kp (M t) = true then F t else []) → f.1 ≠ g.1 := by
    intro g hgm
    obtain ⟨_, _, h3⟩ := hF g hgm
    rcases h3 with h3 | ⟨e, he, h3⟩
    · exact ⟨.inl (Nat.le_trans hbs h3), fun t ht f hf hh => by have := s.f1 t f hf; omega⟩
    · exact ⟨h3 ▸ (mine e he).1, fun t ht f hf hh => far t ht f hf e he (hh.trans h3.symm)⟩
  have one : ∀ f ∈ F0, ∀ e ∈ F0, f.1 = e.1 → f.2 ≤ e.2 := fun f hf e he hfe => by rw [nd_one hnd f hf e he hfe]; exact Nat.le_refl _
  have hMr : killM M r r = { M r with c := (M r).c + 1 } := by unfold killM killE; rw [if_pos rfl]
  have hM' : ∀ t, t ≠ r → killM M r t = killS (M t) := fun t ht => by unfold killM killE; rw [if_neg ht]
  have hSr : killS (M r) = M r := killS_kp hkr
  have := s.put (E1 := fun t => if kp (M t) = true then E t else []) r v' (x r) F0 F0 (B r) (M' := killM M r) (w' := w') hsz
    (fun t ht e he => ⟨fun o ho => by
        have hlt := s.f1 t e he
        simp only [World.cell?]
        rw [hk e.1 hlt (fun e' he' hh => far t ht e he e' he' hh.symm)], fun arr ty fr hh => ⟨arr, fr, by rw [hk e.1 (s.f1 t e he) (fun e' he' hh => far t ht e he e' he' hh.symm)]; exact hh, rfl⟩⟩)
    (fun t ht hb => hk _ (s.b1 t hb).2.1 (fun e he hh => bfar t (killS_box hb) e he hh.symm))
    (fun t e ht he => by
      obtain ⟨arr, ty, hq⟩ := (s.e3 t e he).2
      refine ⟨arr, ty, ?_⟩
      rw [hk e.1 (s.f1 t e (s.e4 t e he)) (fun e' he' hh => far t ht e (s.e4 t e he) e' he' hh.symm)]
      exact hq)
    ⟨by rw [hMr]; simp only [hSr]; exact Nat.le_refl _, by rw [hMr]; simp only [hSr]; exact Nat.lt_succ_self _, fun _ => ⟨rfl, fun b => ⟨fun hh => absurd hh (hv b), fun hh => absurd hh (hV b)⟩⟩⟩
    (fun t ht => by rw [hM' t ht]; exact ⟨rfl, rfl, rfl⟩) (fun t ht => .inl ⟨by rw [hM' t ht], rfl⟩)
    (by rw [hMr]; simp only [hg]; intro q hq; cases hq) (by rw [hMr]; simp only [hown]; intro hh; cases hh)
    (by
      rw [hMr]; simp only [hg]
      intro _
      refine ⟨fun _ => ?_, fun hh => absurd (by intro q hq; cases hq) hh⟩
      rw [show setF B r (B r) = B from by funext t; unfold setF; split <;> simp_all]
      exact hslot _ _ _ _ _ (setF_same _ _ _) (setF_same _ _ _) (upd_same _ _ _) (setF_same _ _ _))
    (fun e he t ht f hf hh => (key e he).2 t ht f (s.e4 t f hf) hh.symm) hnd (fun e he => ⟨(key e he).1, (hF e he).2.1⟩) (fun e he => he)
    (fun e he => ⟨fun u hu f hf hh => absurd hh ((key e he).2 u hu f hf), fun f hf hh => one f hf e he hh⟩)
    (fun f hf => ⟨fun t ht e he hh => absurd hh.symm ((key f hf).2 t ht e (s.e4 t e he)), fun t ht hb hh => by
        obtain ⟨_, _, h3⟩ := hF f hf
        rcases h3 with h3 | ⟨e, he, h3⟩
        · have := (s.b1 t hb).2.1; omega
        · exact bfar t (killS_box hb) e he (hh.symm.trans h3.symm), (hF f hf).1⟩)
    (fun f hf => .inl (key f hf).1)
    (by
      rw [hMr]
      intro hbx
      have hbx : isBox (M r).m = true := hbx
      have hb1 := h.b1 r hbx
      refine ⟨hg, hb1.1, by omega, fun u hu f hf => hb1.2.2 u f (by split at hf; exact hf; cases hf), fun f hf => ?_, fun t ht hbt hh => ht (h.b2 t r (killS_box hbt) hbx hh)⟩
      obtain ⟨_, _, h3⟩ := hF f hf
      rcases h3 with h3 | ⟨e, he, h3⟩
      · omega
      · exact fun hh => bfar r hbx e he (hh.symm.trans h3.symm))
  rw [hx] at this
  have hB : setF B r (B r) = B := by funext t; unfold setF; split <;> simp_all
  rw [hB] at this
  refine ⟨_, _, this, setF_same _ _ _, fun u hu f hf => ?_, fun t ht => ?_⟩
  · rw [setF_ne _ _ hu] at hf
    exact ⟨s.f1 u f hf, far u hu f hf⟩
  · have htb : isBox (M t).m = true := by
      by_cases htr : t = r
      · subst htr; rw [hMr] at ht; exact ht
      · rw [hM' t htr] at ht; exact killS_box ht
    exact ⟨(h.b1 t htb).2.1, bfar t htb⟩

theorem RG.write (h : RG c F E B M V x w) {L : Foot} (hL : Free c F E w L) {r : Nat} (hm : (M r).m = .own true) (hg : (M r).g = []) (hbs : c.base ≤ w.heap.size)
    {v' : PV} {F0 : Foot} (hsz : w.heap.size ≤ w'.heap.size) (hk : ∀ k, k < w.heap.size → (∀ e ∈ F r ++ L, e.1 ≠ k) → w'.heap[k]? = w.heap[k]?)
    (hrep : Rep w' v' (x r) F0) (hF : ∀ g ∈ F0, g.1 < w'.heap.size ∧ Unfrozen w' g.1 ∧ (w.heap.size ≤ g.1 ∨ ∃ e ∈ F r ++ L, e.1 = g.1)) (hnd : (F0.map (·.1)).Nodup)
    (hV : ∀ b, V r ≠ .bool b) (hv : ∀ b, v' ≠ .bool b) :
    ∃ F2 E2, RG c F2 E2 B (killM M r) (V.upd r v') x w' ∧ F2 r = F0 ∧ (∀ u, u ≠ r → ∀ f ∈ F2 u, f.1 < w.heap.size ∧ ∀ e ∈ F r ++ L, f.1 ≠ e.1) ∧
      ∀ t, isBox (killM M r t).m = true → B t < w.heap.size ∧ ∀ e ∈ F r ++ L, B t ≠ e.1 := by
  have hr := h.act hg
  rw [hm] at hr
  obtain ⟨r1, ⟨r2, r3⟩, _⟩ := hr
  simp only [topOf, if_true] at r2 r3
  refine h.writeG hL (by unfold kp; rw [hm, hg]; rfl) (by rw [hm]; rfl) r2 r3 hg hbs hsz hk (fun F2 E2 M2 V2 x2 e1 e2 e3 e4 => ?_) hF hnd hV hv
  rw [hm]
  simp only [SlotR, e1, e2, e3, e4]
  exact ⟨hrep, ⟨fun e he => by simpa [topOf] using he, by simpa [topOf] using hnd⟩, by simp⟩
theorem RG.writeB (h : RG c F E B M V x w) {r : Nat} {ty : Nat} (hm : (M r).m = .box true ty) (hg : (M r).g = []) (hbs : c.base ≤ w.heap.size)
    {cs : List PV} {arr : Array Value} {tyy : TypeId} {F0 : Foot} (hsz : w.heap.size ≤ w'.heap.size) (hk : ∀ k, k < w.heap.size → (∀ e ∈ F r, e.1 ≠ k) → w'.heap[k]? = w.heap[k]?)
    (hbox : w.heap[B r]? = some (.cells arr tyy (0, 0))) (hrep : RepL w' cs arr.toList F0) (hF : ∀ g ∈ F0, g.1 < w'.heap.size ∧ Unfrozen w' g.1 ∧ (w.heap.size ≤ g.1 ∨ ∃ e ∈ F r, e.1 = g.1)) (hnd : (F0.map (·.1)).Nodup) :
    ∃ F2 E2, RG c F2 E2 B (killM M r) (V.upd r (.ptr cs)) x w' ∧ F2 r = F0 ∧ (∀ u, u ≠ r → ∀ f ∈ F2 u, f.1 < w.heap.size ∧ ∀ e ∈ F r, f.1 ≠ e.1) ∧
      ∀ t, isBox (killM M r t).m = true → B t < w.heap.size ∧ ∀ e ∈ F r, B t ≠ e.1 := by
  have hr := h.act hg
  rw [hm] at hr
  obtain ⟨cs0, arr0, ty0, a1, a2, a3, a4, a5, a6⟩ := hr
  obtain ⟨r2, r3⟩ := a6 rfl
  simp only [topOf, if_true] at r2 r3
  have hb1 := h.b1 r (by rw [hm]; rfl)
  have hsame : w'.heap[B r]? = w.heap[B r]? := hk _ hb1.2.1 (fun e he hh => hb1.2.2 r e he hh)
  have := h.writeG (v' := .ptr cs) (F0 := F0) Free.nil (by unfold kp; rw [hm, hg]; rfl) (by rw [hm]; rfl) r2 r3 hg hbs hsz (fun k h0 h1 => hk k h0 (fun e he => h1 e (by simpa using he))) (fun F2 E2 M2 V2 x2 e1 e2 e3 e4 => by
      rw [hm]
      simp only [SlotR, e1, e2, e3, e4]
      exact ⟨cs, arr, tyy, rfl, a2, by rw [hsame]; exact hbox, by rw [← hrep.length, Array.length_toList], hrep, fun _ => ⟨fun e he => by simpa [topOf] using he, by simpa [topOf] using hnd⟩⟩)
    (fun g hgF => by
      obtain ⟨q1, q2, q3⟩ := hF g hgF
      exact ⟨q1, q2, q3.imp id fun ⟨e, he, hh⟩ => ⟨e, by simpa using he, hh⟩⟩) hnd (fun b hb => by rw [a1] at hb; cases hb) (fun b hb => by cases hb)
  simpa using this

theorem mf_killL (r : Nat) : ∀ (l : List SM) (k t : Nat), mf (killL r k l) t = if t < l.length then killE r (k + t) (mf l t) else {}
  | [], k, t => by simp [killL, mf]
  | e :: l, k, 0 => by simp [killL, mf]
  | e :: l, k, t + 1 => by
    have := mf_killL r l (k + 1) t
    simp only [killL, mf, List.getD_cons_succ, List.length_cons, Nat.add_lt_add_iff_right] at this ⊢
    rw [this, show k + 1 + t = k + (t + 1) by omega]
theorem killS_def : killS {} = {} := rfl
theorem mf_none {m : List SM} {t : Nat} (h : ¬ t < m.length) : mf m t = {} := by unfold mf; rw [List.getD_eq_getElem?_getD, List.getElem?_eq_none (by omega)]; rfl
theorem mf_kill {m : List SM} {r : Nat} (hr : r < m.length) : mf (killL r 0 m) = killM (mf m) r := by
  funext t
  rw [mf_killL, Nat.zero_add]
  split
  · rfl
  · rename_i h
    unfold killM
    rw [mf_none h]
    unfold killE
    rw [if_neg (by omega), killS_def]
theorem killL_length (r : Nat) : ∀ (l : List SM) (k : Nat), (killL r k l).length = l.length
  | [], _ => rfl
  | e :: l, k => by simp [killL, killL_length r l]
theorem mf_sweep (m : List SM) : mf (sweepL m) = fun t => killS (mf m t) := by
  funext t
  unfold sweepL mf
  simp only [List.getD_eq_getElem?_getD, List.getElem?_map]
  cases m[t]? <;> rfl
theorem demL_length (l : List (Nat × Md)) (m : List SM) : (demL l m).length = m.length := by
  induction l with
  | nil => rfl
  | cons q l ih => simp only [demL, List.foldr_cons, List.length_set] at ih ⊢; exact ih
theorem mf_dem {m : List SM} : ∀ {l : List (Nat × Md)}, (∀ q ∈ l, q.1 < m.length) → mf (demL l m) = addDem l (mf m)
  | [], _ => by rw [addDem_nil]; rfl
  | q :: l, h => by
    have ih := mf_dem (m := m) (l := l) (fun r hr => h r (List.mem_cons_of_mem _ hr))
    have hq := h q (List.mem_cons_self ..)
    have : demL (q :: l) m = (demL l m).set q.1 { mf (demL l m) q.1 with m := q.2 } := rfl
    rw [this, mf_set (by rw [demL_length]; exact hq), ih]
    funext t
    by_cases ht : t = q.1
    · subst ht
      have hv := addDem_v l (mf m) q.1
      rw [if_pos rfl]
      simp only [addDem, List.lookup, beq_self_eq_true]
      cases hl : l.lookup q.1 <;> simp [hl]
    · have hb : (t == q.1) = false := by simpa using ht
      rw [if_neg ht]
      simp only [addDem, List.lookup, hb]

def newM (M : MF) (d : Nat) (lin : Bool) : SM := { m := if lin then .own true else .sc, v := (M d).v + 1, c := (M d).c + 1 }
def doneM (M : MF) (r d : Nat) (lin : Bool) : MF := fun t => if t = d then newM M d lin else killE r t (M t)
theorem mf_done {m : List SM} {r d : Nat} {lin : Bool} (hr : r < m.length) (hd : d < m.length) : mf (doneL m r d lin) = doneM (mf m) r d lin := by
  unfold doneL
  rw [mf_set (by rw [killL_length]; exact hd), mf_kill hr]
  rfl

/-- a slot gets a value of its own -/
theorem RG.own_put (h : RG c F E B M V (Act.x a) w) (hbs : c.base ≤ w.heap.size) {d : Nat} (hda : d < a.tmps.size) {res : PV} {xv : Value} {Fr : Foot} (hres : Rep w res xv Fr) (lin : Bool) (hlin : lin = false → scB res = true)
    (hF : ∀ g ∈ Fr, Lone c F B M w g.1 ∧ Unfrozen w g.1) (hnd : (Fr.map (·.1)).Nodup) :
    ∃ F2 E2 B2, RG c F2 E2 B2 (wrote M d (newM M d lin)) (V.upd d res) (Act.x (a.put (some d) xv)) w := by
  have hone : ∀ f ∈ Fr, ∀ e ∈ Fr, f.1 = e.1 → f.2 ≤ e.2 := fun f hf e he hfe => by rw [nd_one hnd f hf e he hfe]; exact Nat.le_refl _
  cases lin with
  | false =>
    have : Fr = [] := hres.sc (hlin rfl)
    subst this
    have := h.putW Free.nil h.still hbs d .sc [] res xv [] [] 0 (by simp) (fun _ => rfl) (fun _ => ⟨hres, rfl⟩) (fun hh => absurd (by simp) hh) (by simp) (by simp) (by simp) (by simp [isBox])
    rw [x_put hda]
    exact ⟨_, _, _, this⟩
  | true =>
    have := h.putW Free.nil h.still hbs d (.own true) [] res xv Fr Fr 0 (by simp) (by simp [mayOwn]) (fun _ => ⟨hres, ⟨fun e he => by simpa [topOf] using he, by simpa [topOf] using hnd⟩, by simp⟩) (fun hh => absurd (by simp) hh)
      (fun f hf => ⟨.inr (hF f hf).1, (hF f hf).1.2.1⟩) (fun e he => ⟨⟨he, (hF e he).1.1, (hF e he).2⟩, .inr (hF e he).1, fun f hf hfe => hone f hf e he hfe⟩) hnd (by simp [isBox])
    rw [x_put hda]
    exact ⟨_, _, _, this⟩

/-- the root is written, and a slot gets a value of its own -/
theorem RG.done (h : RG c F E B M V (Act.x a) w) {r d : Nat} (hrd : d ≠ r) (hda : d < a.tmps.size) (hm : (M r).m = .own true) (hg : (M r).g = []) (hbs : c.base ≤ w.heap.size)
    {v' res : PV} {F0 Fr : Foot} {xv : Value} (hsz : w.heap.size ≤ w'.heap.size) (hk : ∀ k, k < w.heap.size → (∀ e ∈ F r, e.1 ≠ k) → w'.heap[k]? = w.heap[k]?)
    (hrep : Rep w' v' (Act.x a r) F0) (hF : ∀ g ∈ F0 ++ Fr, g.1 < w'.heap.size ∧ Unfrozen w' g.1 ∧ (w.heap.size ≤ g.1 ∨ ∃ e ∈ F r, e.1 = g.1)) (hnd : ((F0 ++ Fr).map (·.1)).Nodup)
    (hV : ∀ b, V r ≠ .bool b) (hv : ∀ b, v' ≠ .bool b) (hres : Rep w' res xv Fr) (lin : Bool) (hlin : lin = false → scB res = true) :
    ∃ F2 E2 B2, RG c F2 E2 B2 (doneM M r d lin) ((V.upd r v').upd d res) (Act.x (a.put (some d) xv)) w' := by
  rw [List.map_append, List.nodup_append] at hnd
  obtain ⟨n1, n2, n3⟩ := hnd
  obtain ⟨F1, E1, h1, h2, h3, h4⟩ := h.write Free.nil hm hg hbs hsz (fun k h0 h1 => hk k h0 (fun e he => h1 e (by simpa using he))) hrep (fun g hg => by
    obtain ⟨q1, q2, q3⟩ := hF g (List.mem_append_left _ hg)
    exact ⟨q1, q2, q3.imp id fun ⟨e, he, hh⟩ => ⟨e, by simpa using he, hh⟩⟩) n1 hV hv
  have h5 := h1.own_put (a := a) (Nat.le_trans hbs hsz) hda hres lin hlin (fun g hgF => by
    obtain ⟨q1, q2, q3⟩ := hF g (List.mem_append_right _ hgF)
    refine ⟨⟨?_, q1, fun u f hf => ?_, fun t ht => ?_⟩, q2⟩
    · rcases q3 with q3 | ⟨e, he, hh⟩
      · exact .inl (Nat.le_trans hbs q3)
      · have hr := h.act (t := r) hg
        rw [hm] at hr
        exact hh ▸ (h.e3 r e (hr.2.1.1 e (by simpa [topOf] using he))).1
    · by_cases hu : u = r
      · subst hu
        rw [h2] at hf
        exact n3 _ (List.mem_map.2 ⟨f, hf, rfl⟩) _ (List.mem_map.2 ⟨g, hgF, rfl⟩)
      · obtain ⟨k1, k2⟩ := h3 u hu f hf
        rcases q3 with q3 | ⟨e, he, hh⟩
        · omega
        · exact fun h0 => k2 e (by simpa using he) (h0.trans hh.symm)
    · obtain ⟨k1, k2⟩ := h4 t ht
      rcases q3 with q3 | ⟨e, he, hh⟩
      · omega
      · exact fun h0 => k2 e (by simpa using he) (h0.trans hh.symm)) n2
  obtain ⟨F2, E2, B2, h6⟩ := h5
  have he : wrote (killM M r) d (newM (killM M r) d lin) = doneM M r d lin := by
    funext t
    unfold wrote doneM
    by_cases ht : t = d
    · subst ht
      rw [if_pos rfl, if_pos rfl]
      have := killE_v r t (M t)
      unfold newM killM
      rw [this.1, this.2.2 hrd]
    · rw [if_neg ht, if_neg ht]; rfl
  rw [he] at h6
  exact ⟨F2, E2, B2, h6⟩

/-- .. what is in a box is -/
theorem RG.doneB (h : RG c F E B M V (Act.x a) w) {r d ty : Nat} (hrd : d ≠ r) (hda : d < a.tmps.size) (hm : (M r).m = .box true ty) (hg : (M r).g = []) (hbs : c.base ≤ w.heap.size)
    {cs : List PV} {arr : Array Value} {tyy : TypeId} {res : PV} {F0 Fr : Foot} {xv : Value} (hsz : w.heap.size ≤ w'.heap.size) (hk : ∀ k, k < w.heap.size → (∀ e ∈ F r, e.1 ≠ k) → w'.heap[k]? = w.heap[k]?)
    (hbox : w.heap[B r]? = some (.cells arr tyy (0, 0))) (hrep : RepL w' cs arr.toList F0) (hF : ∀ g ∈ F0 ++ Fr, g.1 < w'.heap.size ∧ Unfrozen w' g.1 ∧ (w.heap.size ≤ g.1 ∨ ∃ e ∈ F r, e.1 = g.1)) (hnd : ((F0 ++ Fr).map (·.1)).Nodup)
    (hres : Rep w' res xv Fr) (lin : Bool) (hlin : lin = false → scB res = true) :
    ∃ F2 E2 B2, RG c F2 E2 B2 (doneM M r d lin) ((V.upd r (.ptr cs)).upd d res) (Act.x (a.put (some d) xv)) w' := by
  rw [List.map_append, List.nodup_append] at hnd
  obtain ⟨n1, n2, n3⟩ := hnd
  obtain ⟨F1, E1, h1, h2, h3, h4⟩ := h.writeB hm hg hbs hsz hk hbox hrep (fun g hg => hF g (List.mem_append_left _ hg)) n1
  have h5 := h1.own_put (a := a) (Nat.le_trans hbs hsz) hda hres lin hlin (fun g hgF => by
    obtain ⟨q1, q2, q3⟩ := hF g (List.mem_append_right _ hgF)
    refine ⟨⟨?_, q1, fun u f hf => ?_, fun t ht => ?_⟩, q2⟩
    · rcases q3 with q3 | ⟨e, he, hh⟩
      · exact .inl (Nat.le_trans hbs q3)
      · have hr := h.act (t := r) hg
        rw [hm] at hr
        obtain ⟨_, _, _, _, _, _, _, _, a6⟩ := hr
        exact hh ▸ (h.e3 r e ((a6 rfl).1 e (by simpa [topOf] using he))).1
    · by_cases hu : u = r
      · subst hu
        rw [h2] at hf
        exact n3 _ (List.mem_map.2 ⟨f, hf, rfl⟩) _ (List.mem_map.2 ⟨g, hgF, rfl⟩)
      · obtain ⟨k1, k2⟩ := h3 u hu f hf
        rcases q3 with q3 | ⟨e, he, hh⟩
        · omega
        · exact fun h0 => k2 e he (h0.trans hh.symm)
    · obtain ⟨k1, k2⟩ := h4 t ht
      rcases q3 with q3 | ⟨e, he, hh⟩
      · omega
      · exact fun h0 => k2 e he (h0.trans hh.symm)) n2
  obtain ⟨F2, E2, B2, h6⟩ := h5
  have he : wrote (killM M r) d (newM (killM M r) d lin) = doneM M r d lin := by
    funext t
    unfold wrote doneM
    by_cases ht : t = d
    · subst ht
      rw [if_pos rfl, if_pos rfl]
      have := killE_v r t (M t)
      unfold newM killM
      rw [this.1, this.2.2 hrd]
    · rw [if_neg ht, if_neg ht]; rfl
  rw [he] at h6
  exact ⟨F2, E2, B2, h6⟩

end
end Go.Eng
namespace Go.Eng
open Go Go.RowKit
set_option linter.unusedSimpArgs false
set_option linter.unusedVariables false

/-! ### operations that write -/
section
variable {P : Program} {X : Cx} {c : Ctx} {F E : Nat → Foot} {B : Nat → Nat} {M : MF} {V : Env} {a : Act} {w w' : World} {o : Oper} {N : Nat} {ops : Array Oper} {x : Nat → Value}

theorem rootW_spec {s r : Nat} (h : RG c F E B M V x w) (hv : rootW M s = some r) :
    (M r).m = .own true ∧ (M r).g = [] ∧ V s = V r ∧ x s = x r ∧ F s = F r := by
  unfold rootW at hv
  split at hv
  · rename_i hm
    split at hv
    · rename_i hg
      simp only [Option.some.injEq] at hv; subst hv
      exact ⟨hm, by simpa using hg, rfl, rfl, rfl⟩
    · cases hv
  · rename_i r' n hm
    split at hv
    · rename_i hc
      simp only [Bool.and_eq_true, beq_iff_eq] at hc
      simp only [Option.some.injEq] at hv; subst hv
      obtain ⟨⟨⟨c1, c2⟩, c3⟩, c4⟩ := hc
      have hs := h.act c1
      rw [hm] at hs
      obtain ⟨q1, q2, q3⟩ := (hs.2.2 c2).2
      exact ⟨c3, c4, q2, q3, q1⟩
    · cases hv
  · cases hv

theorem RG.ownR (h : RG c F E B M V x w) {r : Nat} (hm : (M r).m = .own true) (hg : (M r).g = []) : Rep w (V r) (x r) (F r) ∧ (∀ e ∈ F r, e ∈ E r) ∧ ((F r).map (·.1)).Nodup := by
  have hr := h.act hg
  rw [hm] at hr
  exact ⟨hr.1, fun e he => hr.2.1.1 e (by simpa [topOf] using he), by simpa [topOf] using hr.2.1.2⟩

/-- where a slot stands in its root -/
def RootIs (V : Env) (x : Nat → Value) (F : Nat → Foot) (w : World) (s r : Nat) : Option (Nat × Nat × Nat) → Prop
  | none => V s = V r ∧ x s = x r ∧ F s = F r
  | some (u, off, sz) => ∃ nl els j k GA GZ, V r = .lst sz nl els ∧ V u = .int k (j : Nat) ∧ j < els.length ∧ off < sz ∧ F r = GA ++ F s ++ GZ ∧ (((els[j]?).getD [])[off]?).getD .junk = V s ∧ Rep w (V s) (x s) (F s) ∧
      ∀ w' v' F', oneB v' = true → Rep w' v' (x s) F' → Keeps w w' (GA ++ GZ) → Rep w' (.lst sz false (els.set j (putc ((els[j]?).getD []) off [v']))) (x r) (GA ++ F' ++ GZ)

theorem rootOf_spec {s r : Nat} {hh : Option (Nat × Nat × Nat)} (h : RG c F E B M V x w) (hv : rootOf M s = some (r, hh)) : (M r).m = .own true ∧ (M r).g = [] ∧ RootIs V x F w s r hh := by
  unfold rootOf at hv
  split at hv
  · rename_i r' hr
    simp only [Option.some.injEq, Prod.mk.injEq] at hv
    obtain ⟨rfl, rfl⟩ := hv
    obtain ⟨h1, h2, h3⟩ := rootW_spec h hr
    exact ⟨h1, h2, h3⟩
  · split at hv
    case h_2 => cases hv
    rename_i r' n u tv off sz hm
    split at hv
    case isFalse => cases hv
    rename_i hc
    split at hv
    case h_2 => cases hv
    rename_i s' n' off' sz' hu
    split at hv
    case isFalse => cases hv
    rename_i hc2
    simp only [Option.some.injEq, Prod.mk.injEq] at hv
    obtain ⟨rfl, rfl⟩ := hv
    simp only [Bool.and_eq_true, beq_iff_eq] at hc hc2
    obtain ⟨⟨⟨⟨⟨c1, c2⟩, c3⟩, c4⟩, c5⟩, c6⟩ := hc
    obtain ⟨⟨⟨rfl, rfl⟩, c7⟩, c8⟩ := hc2
    obtain ⟨_, _, _, d1, _⟩ := rootW_spec h c8
    have hs := h.act c1
    rw [hm] at hs
    have hol := (hs.2.2 c2).2.2 c5
    have hsu := h.act c6
    rw [hu] at hsu
    obtain ⟨a', len', cp', i', k', e1, e2, e3, e4, e5⟩ := hsu.2 c7
    obtain ⟨ad, len, cp, j, nl, els, GA, GZ, h1, h2, h3, h4, h5, h6, h7, h8, h9, h10⟩ := hol
    rw [d1, h1] at e1
    simp only [Value.slice.injEq, Option.some.injEq] at e1
    obtain ⟨rfl, rfl, rfl⟩ := e1
    have hij : i' = j := by
      rw [h7] at e5
      rw [addr_add_plain h2, addr_add_plain rfl, addr_add_plain h2, addr_add_plain rfl] at e5
      simp only [Value.pointer.injEq, Option.some.injEq, Addr.mk.injEq, and_true, true_and] at e5
      have : j * sz' = i' * sz' := by omega
      exact (Nat.eq_of_mul_eq_mul_right (by omega) this).symm
    subst hij
    exact ⟨c3, c4, nl, els, i', k', GA, GZ, h3, e3, by omega, h6, h8, h9, hs.1, h10⟩

theorem scArg_rep {y : Operand} {y' : Opd} (h : RG c F E B M V (Act.x a) w) (hy : scArg M y = some y') : Rep w (y'.val V) (a.eval y) [] := by
  unfold scArg at hy
  split at hy
  · rename_i z hz
    split at hy
    · rename_i hs
      simp only [Option.some.injEq] at hy; subst hy
      cases y with
      | tmp t =>
        simp only [opd] at hz
        split at hz
        · rename_i hc
          simp only [Bool.and_eq_true, gIn, List.all_eq_true] at hc
          simp only [Option.some.injEq] at hz; subst hz
          have hg : (M t).g = [] := by
            cases hgg : (M t).g with
            | nil => rfl
            | cons q l => have := hc.2 q (by rw [hgg]; exact List.mem_cons_self ..); simp at this
          have hsl := h.act hg
          simp only [isSc, Opd.md, beq_iff_eq] at hs
          rw [hs] at hsl
          exact hsl.1
        · cases hz
      | const v => simp only [opd] at hz; cases hc : cst v with
        | none => rw [hc] at hz; simp at hz
        | some p => rw [hc] at hz; simp at hz; subst hz; exact cst_rep hc
      | global g => simp [opd] at hz
      | func f => simp only [opd, Option.some.injEq] at hz; subst hz; exact .fn .nil
    · cases hy
  · cases hy

theorem scArgs_rep (h : RG c F E B M V (Act.x a) w) : ∀ {ys : List Operand} {l : List Opd}, mapO (scArg M) ys = some l → RepL w (l.map (·.val V)) (ys.map a.eval) []
  | [], l, hl => by simp [mapO] at hl; subst hl; exact .nil
  | y :: ys, l, hl => by
    simp only [mapO] at hl
    split at hl
    · rename_i y' hy
      split at hl
      · rename_i l' hl'
        simp only [Option.some.injEq] at hl; subst hl
        have := RepL.cons (scArg_rep h hy) (scArgs_rep h hl')
        simpa using this
      · cases hl
    · cases hl

/-- what a frame's step may change -/
theorem stp_own (h : RG c F E B M V x w) (hbs : c.base ≤ w.heap.size) {L : Foot} (hE : ∀ e ∈ L, c.mine e.1)
    (hf : w'.os = w.os ∧ w'.tape = w.tape ∧ w'.output = w.output ∧ w.heap.size ≤ w'.heap.size ∧ ∀ k, k < w.heap.size → (∀ e ∈ L, e.1 ≠ k) → w'.heap[k]? = w.heap[k]?) : Stp c w w' := by
  refine ⟨hf.1, hf.2.1, hf.2.2.1, hf.2.2.2.1, fun k hk => ?_⟩
  rcases Nat.lt_or_ge k w.heap.size with h1 | h1
  · exact hf.2.2.2.2 k h1 (fun e he hh => hk (hh ▸ hE e he))
  · exact absurd (.inl (Nat.le_trans hbs h1)) hk

theorem kin_nb {v v' : PV} (h : kin v v' = true) : (∀ b, v ≠ .bool b) ∧ (∀ b, v' ≠ .bool b) ∧ (oneB v = true → oneB v' = true) := by
  cases v <;> cases v' <;> simp [kin, oneB] at h ⊢

theorem nodup_mid {GA G G' GZ Gr : Foot} {n : Nat} (h : ((GA ++ G ++ GZ).map (·.1)).Nodup) (hlt : ∀ g ∈ GA ++ GZ, g.1 < n) (h' : ((G' ++ Gr).map (·.1)).Nodup) (hn : ∀ g ∈ G' ++ Gr, n ≤ g.1 ∨ ∃ e ∈ G, e.1 = g.1) : (((GA ++ G' ++ GZ) ++ Gr).map (·.1)).Nodup := by
  have far : ∀ b ∈ GA ++ GZ, ∀ q ∈ G' ++ Gr, b.1 ≠ q.1 := by
    intro b hb q hq hh
    rcases hn q hq with y3 | ⟨b', hb', y3⟩
    · have := hlt b hb; omega
    · have hd : b'.1 ≠ b.1 := by
        rw [List.map_append, List.map_append, List.nodup_append] at h
        obtain ⟨n1, n2, n3⟩ := h
        rw [List.nodup_append] at n1
        rcases List.mem_append.1 hb with hb | hb
        · exact fun h0 => n1.2.2 _ (List.mem_map.2 ⟨b, hb, rfl⟩) _ (List.mem_map.2 ⟨b', hb', rfl⟩) h0.symm
        · exact fun h0 => n3 _ (List.mem_append_right _ (List.mem_map.2 ⟨b', hb', rfl⟩)) _ (List.mem_map.2 ⟨b, hb, rfl⟩) h0
      exact hd (y3.trans hh.symm)
  rw [List.map_append, List.nodup_append] at h'
  obtain ⟨m1, m2, m3⟩ := h'
  rw [List.map_append, List.map_append, List.nodup_append] at h
  obtain ⟨n1, n2, n3⟩ := h
  rw [List.nodup_append] at n1
  obtain ⟨n1, n4, n5⟩ := n1
  rw [List.map_append, List.map_append, List.map_append, List.nodup_append, List.nodup_append, List.nodup_append]
  refine ⟨⟨⟨n1, m1, ?_⟩, n2, ?_⟩, m2, ?_⟩
  · intro y hy z hz
    obtain ⟨b, hb, rfl⟩ := List.mem_map.1 hy
    obtain ⟨q, hq, rfl⟩ := List.mem_map.1 hz
    exact far b (List.mem_append_left _ hb) q (List.mem_append_left _ hq)
  · intro y hy z hz
    rcases List.mem_append.1 hy with hy | hy
    · exact n3 y (List.mem_append_left _ hy) z hz
    · obtain ⟨q, hq, rfl⟩ := List.mem_map.1 hy
      obtain ⟨b, hb, rfl⟩ := List.mem_map.1 hz
      exact fun hh => far b (List.mem_append_right _ hb) q (List.mem_append_left _ hq) hh.symm
  · intro y hy z hz
    obtain ⟨q, hq, rfl⟩ := List.mem_map.1 hz
    rcases List.mem_append.1 hy with hy | hy
    · rcases List.mem_append.1 hy with hy | hy
      · obtain ⟨b, hb, rfl⟩ := List.mem_map.1 hy
        exact far b (List.mem_append_left _ hb) q (List.mem_append_right _ hq)
      · exact m3 y hy _ (List.mem_map.2 ⟨q, hq, rfl⟩)
    · obtain ⟨b, hb, rfl⟩ := List.mem_map.1 hy
      exact far b (List.mem_append_right _ hb) q (List.mem_append_right _ hq)

/-- a call that writes behind a slot -/
theorem sim_fm (hIv : IvOK P X c) {m : List SM} (hR : RA c m.length (mf m) V a w) {cl : Call} {d f s r : Nat} {rest : List Operand} {hh : Option (Nat × Nat × Nat)} {l : List Opd} {lin : Bool} (hop : o.op = .call cl) (hdst : o.dst = some d)
    (hcal : cl.callee = .value (.func f)) (hargs : cl.args.toList = .tmp s :: rest) (hvr : rootOf (mf m) s = some (r, hh)) (hl : mapO (scArg (mf m)) rest = some l) (hdr : d ≠ r) (hdl : d < m.length) (hrl : r < m.length) (hd0 : X.mu = true → d ≠ 0)
    {K : Env → Prop} (hw : (match hh with | none => MP.call d f r l lin | some (u, off, sz) => MP.cell d f r u off sz l lin).wp (FC P) K V) (Q : Exit → Act → World → Prop) :
    o.wp P a w (fun a' w' => Stp c w w' ∧ ∃ V', RA c (doneL m r d lin).length (mf (doneL m r d lin)) V' a' w' ∧ K V') Q := by
  obtain ⟨F, E, B, hrg, hbase, hsize, hdefs, hiv, hax⟩ := hR
  obtain ⟨h1, h2, h3⟩ := rootOf_spec hrg hvr
  obtain ⟨h5, h6, h7⟩ := hrg.ownR h1 h2
  obtain ⟨hinv, htab⟩ := hIv.1 w hiv
  have hda : d < a.tmps.size := by rw [hsize]; exact hdl
  -- what the call is handed, and what comes of it
  have core : ∀ {v : PV} {res v' : PV} {Fs GA GZ : Foot} {vr : PV}, F r = GA ++ Fs ++ GZ → Rep w v (Act.x a s) Fs → FnM P f (v :: l.map (·.val V)) res v' → (lin = false → scB res = true) →
      (kin v v' = true → ∀ w' F', Rep w' v' (Act.x a s) F' → Keeps w w' (GA ++ GZ) → Rep w' vr (Act.x a r) (GA ++ F' ++ GZ)) → (kin v v' = true → (∀ b, V r ≠ .bool b) ∧ ∀ b, vr ≠ .bool b) → K ((V.upd r vr).upd d res) →
      o.wp P a w (fun a' w' => Stp c w w' ∧ ∃ V', RA c (doneL m r d lin).length (mf (doneL m r d lin)) V' a' w' ∧ K V') Q := by
    intro v res v' Fs GA GZ vr hF hrv hfm hlin hup hnb hK
    obtain ⟨hcb, v0, vs, hvv, hkin, hcon⟩ := hfm
    simp only [List.cons.injEq] at hvv
    obtain ⟨rfl, rfl⟩ := hvv
    have hrun := exec_call (P := P) (a := a) (w := w) (caps := #[]) hop hcal rfl hcb
    simp only [Array.append_empty] at hrun
    rw [← args_toList, hargs, List.map_cons] at hrun
    have hxs : a.eval (.tmp s) = Act.x a s := rfl
    rw [hxs] at hrun
    have inr : ∀ {g}, g ∈ Fs → g ∈ F r := fun hg => by rw [hF]; simp [hg]
    have hnF : (Fs.map (·.1)).Nodup := by
      rw [hF, List.map_append, List.map_append, List.nodup_append, List.nodup_append] at h7
      exact h7.1.2.1
    refine upon_call hrun ((hcon w (Act.x a s) Fs _ hinv (fun g hg e he hh => htab g hg (hh ▸ (hrg.e3 r e (h6 e (inr he))).1)) hrv hnF (fun g hg => ⟨hrg.f1 r g (inr hg), (hrg.e3 r g (h6 g (inr hg))).2⟩) (scArgs_rep hrg hl)).mono fun e w1 he => ?_)
    obtain ⟨xv, F', Fr, rfl, q1, q2, q3, q4, q5⟩ := he
    have hfr : w1.os = w.os ∧ w1.tape = w.tape ∧ w1.output = w.output ∧ w.heap.size ≤ w1.heap.size ∧ ∀ k, k < w.heap.size → (∀ e ∈ F r, e.1 ≠ k) → w1.heap[k]? = w.heap[k]? :=
      ⟨q3.1, q3.2.1, q3.2.2.1, q3.2.2.2.1, fun k h0 hk => q3.2.2.2.2 k h0 (fun e he => hk e (inr he))⟩
    have hstp := stp_own hrg hbase (fun e he => (hrg.e3 r e (h6 e he)).1) hfr
    refine ⟨xv, rfl, hstp, _, ?_, hK⟩
    rw [hdst]
    have side : ∀ b ∈ GA ++ GZ, b ∈ F r ∧ ∀ e ∈ Fs, e.1 ≠ b.1 := by
      intro b hb
      have hbF : b ∈ F r := by
        rw [hF]
        rcases List.mem_append.1 hb with hb | hb
        · simp [hb]
        · simp [hb]
      refine ⟨hbF, fun e he hh => ?_⟩
      rw [hF, List.map_append, List.map_append, List.nodup_append] at h7
      obtain ⟨n1, n2, n3⟩ := h7
      rw [List.nodup_append] at n1
      rcases List.mem_append.1 hb with hb | hb
      · exact n1.2.2 _ (List.mem_map.2 ⟨b, hb, rfl⟩) _ (List.mem_map.2 ⟨e, he, rfl⟩) hh.symm
      · exact n3 _ (List.mem_append_right _ (List.mem_map.2 ⟨e, he, rfl⟩)) _ (List.mem_map.2 ⟨b, hb, rfl⟩) hh
    have same : ∀ b ∈ GA ++ GZ, w1.heap[b.1]? = w.heap[b.1]? := fun b hb => q3.2.2.2.2 b.1 (hrg.f1 r b (side b hb).1) (side b hb).2
    have hkp : Keeps w w1 (GA ++ GZ) := fun b hb => ⟨fun q _ => by simp only [World.cell?]; rw [same b hb], fun arr ty fr h0 => ⟨arr, fr, by rw [same b hb]; exact h0, rfl⟩⟩
    have hnew := hup hkin w1 F' q2 hkp
    have hsub : ∀ g ∈ (GA ++ F' ++ GZ) ++ Fr, g ∈ GA ++ GZ ∨ g ∈ F' ++ Fr := by
      intro g hg
      simp only [List.mem_append] at hg ⊢
      rcases hg with ((hg | hg) | hg) | hg
      · exact .inl (.inl hg)
      · exact .inr (.inl hg)
      · exact .inl (.inr hg)
      · exact .inr (.inr hg)
    obtain ⟨F2, E2, B2, k1⟩ := hrg.done hdr hda h1 h2 hbase hfr.2.2.2.1 hfr.2.2.2.2 hnew (Fr := Fr) (fun g hg => by
      rcases hsub g hg with hg | hg
      · obtain ⟨b1, b2⟩ := side g hg
        obtain ⟨arr, ty', hq⟩ := (hrg.e3 r g (h6 g b1)).2
        exact ⟨by have := hrg.f1 r g b1; have := hfr.2.2.2.1; omega, ⟨arr, ty', by rw [same g hg]; exact hq⟩, .inr ⟨g, b1, rfl⟩⟩
      · obtain ⟨y1, y2, y3⟩ := q4 g hg
        exact ⟨y1, y2, y3.imp id fun ⟨b', hb', hh⟩ => ⟨b', inr hb', hh⟩⟩)
      (nodup_mid (by rw [← hF]; exact h7) (fun g hg => hrg.f1 r g (side g hg).1) q5 (fun g hg => (q4 g hg).2.2)) (hnb hkin).1 (hnb hkin).2 q1 lin hlin
    exact ⟨F2, E2, B2, by rw [mf_done hrl hdl]; exact k1, Nat.le_trans hbase hfr.2.2.2.1, by simp [Act.put, doneL, killL_length, hsize], by simp [Act.put, hdefs], c.ivs _ _ hstp.2.2.2.2 hiv, c.axs a (some d) xv (fun hz h0 => hd0 (hIv.2 hz) (Option.some.inj h0)) hax⟩
  cases hh with
  | none =>
    obtain ⟨e1, e2, e3⟩ := h3
    obtain ⟨res, v', hfm, hlin, hK⟩ := hw
    refine core (GA := []) (GZ := []) (Fs := F r) (v := V r) (by simp) (by rw [e2]; exact h5) hfm hlin (fun _ w' F' hr _ => by rw [e2] at hr; simpa using hr) (fun hk => ⟨(kin_nb hk).1, (kin_nb hk).2.1⟩) hK
  | some q =>
    obtain ⟨u, off, sz⟩ := q
    obtain ⟨nl, els, j, k, GA, GZ, g1, g2, g3, g4, g5, g6, g7, g8⟩ := h3
    obtain ⟨_, res, v', hfm, hlin, hK⟩ := hw
    have hel : ((elAt V r u)[off]?).getD .junk = V s := by
      unfold elAt; rw [g1, g2]; simp only [PV.els, PV.num, Int.toNat_natCast]; exact g6
    rw [hel] at hfm
    have hset : setEl V r u off sz [v'] = .lst sz false (els.set j (putc ((els[j]?).getD []) off [v'])) := by
      unfold setEl elAt; rw [g1, g2]; simp [PV.els, PV.num]
    have hone : ∀ cs ∈ els, ∀ c ∈ cs, oneB c = true := by
      rw [g1] at h5
      rcases h5.lst_inv with ⟨_, _, h0, _⟩ | ⟨_, _, _, h0, _⟩ | ⟨_, _, _, _, _, _, _, _, _, _, hone, _, _⟩
      · rw [h0]; simp
      · rw [h0]; simp
      · exact hone
    have hin : (els[j]?).getD [] ∈ els := by rw [List.getElem?_eq_getElem g3]; exact List.getElem_mem g3
    have hov : kin (V s) v' = true → oneB v' = true := by
      intro hk
      refine (kin_nb hk).2.2 ?_
      rw [← g6] at hk ⊢
      cases hx : ((els[j]?).getD [])[off]? with
      | none =>
        exfalso
        rw [hx] at hk
        simp only [Option.getD_none] at hk
        cases v' <;> simp [kin] at hk
      | some c0 => exact hone _ hin c0 (List.mem_of_getElem? hx)
    exact core g5 g7 hfm hlin (fun hk w' F' hr hkp => by rw [hset]; exact g8 w' v' F' (hov hk) hr hkp) (fun _ => ⟨(fun b hb => by rw [g1] at hb; cases hb), (fun b hb => by rw [hset] at hb; cases hb)⟩) hK

/-- a call that writes behind what is in a box -/
theorem sim_fmb (hIv : IvOK P X c) {m : List SM} (hR : RA c m.length (mf m) V a w) {cl : Call} {d f s r k : Nat} {rest : List Operand} {l : List Opd} {lin : Bool} (hop : o.op = .call cl) (hdst : o.dst = some d)
    (hcal : cl.callee = .value (.func f)) (hargs : cl.args.toList = .tmp s :: rest) (hvr : rootB (mf m) s = some (r, k)) (hl : mapO (scArg (mf m)) rest = some l) (hdr : d ≠ r) (hdl : d < m.length) (hrl : r < m.length) (hd0 : X.mu = true → d ≠ 0)
    {K : Env → Prop} (hw : (MP.callb d f r k l lin).wp (FC P) K V) (Q : Exit → Act → World → Prop) :
    o.wp P a w (fun a' w' => Stp c w w' ∧ ∃ V', RA c (doneL m r d lin).length (mf (doneL m r d lin)) V' a' w' ∧ K V') Q := by
  obtain ⟨F, E, B, hrg, hbase, hsize, hdefs, hiv, hax⟩ := hR
  obtain ⟨hinv, htab⟩ := hIv.1 w hiv
  have hda : d < a.tmps.size := by rw [hsize]; exact hdl
  unfold rootB at hvr
  split at hvr
  case h_2 => cases hvr
  rename_i r' n k' hms
  split at hvr
  case isFalse => cases hvr
  rename_i hc
  split at hvr
  case h_2 => cases hvr
  rename_i ty hmr
  simp only [Option.some.injEq, Prod.mk.injEq] at hvr
  obtain ⟨rfl, rfl⟩ := hvr
  simp only [Bool.and_eq_true, beq_iff_eq] at hc
  obtain ⟨⟨c1, c2⟩, c3⟩ := hc
  have hs := hrg.act c1
  rw [hms] at hs
  obtain ⟨arr, tyy, b, e1, e2, e3⟩ := (hs.2.2 c2).2 (by rw [hmr]; rfl)
  have hr := hrg.act c3
  rw [hmr] at hr
  obtain ⟨cs, arr', tyy', a1, a2, a3, a4, a5, a6⟩ := hr
  rw [a2] at e1
  simp only [Value.pointer.injEq, Option.some.injEq, Addr.mk.injEq, and_true] at e1
  subst e1
  rw [a3] at e2
  simp only [Option.some.injEq, Obj.cells.injEq, and_true] at e2
  obtain ⟨rfl, rfl⟩ := e2
  obtain ⟨hn, res, v', hfm, hlin, hK⟩ := hw
  have hk : cs.length = k' := by rw [a1] at hn; simpa [isPtrN] using hn
  have hxs : Act.x a s = .agg arr'.toList.toArray := by rw [e3, List.take_of_length_le (by simp; omega)]
  rw [a1] at hfm
  obtain ⟨h6, h7⟩ := a6 rfl
  replace h6 : ∀ e ∈ F r', e ∈ E r' := fun e he => h6 e (by simpa [topOf] using he)
  replace h7 : ((F r').map (·.1)).Nodup := by simpa [topOf] using h7
  obtain ⟨hcb, v0, vs, hvv, hkin, hcon⟩ := hfm
  simp only [List.cons.injEq] at hvv
  obtain ⟨rfl, rfl⟩ := hvv
  have hrun := exec_call (P := P) (a := a) (w := w) (caps := #[]) hop hcal rfl hcb
  simp only [Array.append_empty] at hrun
  rw [← args_toList, hargs, List.map_cons] at hrun
  have hxe : a.eval (.tmp s) = Act.x a s := rfl
  rw [hxe] at hrun
  have hrep : Rep w (.agg (PV.ptr cs).pcs) (Act.x a s) (F r') := by rw [hxs]; exact .agg a5
  refine upon_call hrun ((hcon w (Act.x a s) (F r') _ hinv (fun g hg e he hh => htab g hg (hh ▸ (hrg.e3 r' e (h6 e he)).1)) hrep h7 (fun g hg => ⟨hrg.f1 r' g hg, (hrg.e3 r' g (h6 g hg)).2⟩) (scArgs_rep hrg hl)).mono fun e w1 he => ?_)
  obtain ⟨xv, F', Fr, rfl, q1, q2, q3, q4, q5⟩ := he
  have hstp := stp_own hrg hbase (fun e he => (hrg.e3 r' e (h6 e he)).1) q3
  refine ⟨xv, rfl, hstp, _, ?_, hK⟩
  rw [hdst]
  have : ∃ cs', v' = .agg cs' := by cases v' <;> simp [kin] at hkin; exact ⟨_, rfl⟩
  obtain ⟨cs', rfl⟩ := this
  obtain ⟨xs', g1, g2⟩ := q2.agg_inv
  rw [hxs] at g1
  have g1 : arr'.toList = xs' := by
    have : arr' = xs'.toArray := by simpa using g1
    rw [this]
  subst g1
  obtain ⟨F2, E2, B2, k1⟩ := hrg.doneB hdr hda hmr c3 hbase q3.2.2.2.1 q3.2.2.2.2 a3 g2 q4 q5 q1 lin hlin
  exact ⟨F2, E2, B2, by rw [mf_done hrl hdl]; exact k1, Nat.le_trans hbase q3.2.2.2.1, by simp [Act.put, doneL, killL_length, hsize], by simp [Act.put, hdefs], c.ivs _ _ hstp.2.2.2.2 hiv, c.axs a (some d) xv (fun hz h0 => hd0 (hIv.2 hz) (Option.some.inj h0)) hax⟩

end
end Go.Eng
