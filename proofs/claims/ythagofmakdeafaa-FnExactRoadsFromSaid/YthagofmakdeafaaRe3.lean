/- A part of the proof of a law's statement: for every input the law returns true and leaves its arguments as they were. No condition beyond the statement's own. A calculus over plain values for the model's code, proved once. -/
import Derived.Test.YthagofmakdeafaaRe2
set_option linter.unusedVariables false
set_option linter.unusedSimpArgs false
set_option autoImplicit true
set_option relaxedAutoImplicit true
namespace Go.Eng
open Go Go.RowKit
set_option linter.unusedSimpArgs false
set_option linter.unusedVariables false

/-! ### a calculus that is walked lazily: what is behind a test or a call is not looked at before it is answered -/

def GrdP (v : PV) (b : Bool) (A B : Prop) : Prop := isBool v = true ∧ (v.isT = b → A) ∧ (v.isT = (!b) → B)
def grd (V : Env) : List (Nat × Bool) → Prop → Prop → Prop
  | [], A, _ => A
  | q :: r, A, B => grd V r (GrdP (V q.1) q.2 A B) B
def CallP (c : PV → Prop) (P : PV → Prop) : Prop := ∃ r, c r ∧ P r
def CondP (v : PV) (A B : Prop) : Prop := isBool v = true ∧ (v.isT = true → A) ∧ (v.isT = false → B)
def OkP (a A : Prop) : Prop := a ∧ A
def AnyP (f : PV → Prop) : Prop := ∀ x, f x

def sxo (C : Ctr) (K : Env → Prop) (V : Env) : POp → Prop
  | .set d e => OkP (e.ok V) (K (V.upd d (e.val V)))
  | .call d f args k => CallP (C f (k == .lin || k == .tup) (args.map (·.val V))) fun r => (k = .sc → scB r = true) ∧ (k = .tup → ∃ vs, r = .tup vs) ∧ K (V.upd d r)
  | .callv d fv args => CallP (fun r => ∃ f caps, fv.val V = .fn f caps ∧ C f false (args.map (·.val V) ++ caps) r) fun r => scB r = true ∧ K (V.upd d r)

def sxl (C : Ctr) (K : Env → Prop) : List GP → Env → Prop
  | [], V => K V
  | o :: r, V => grd V o.g (sxo C (sxl C K r) V o.p) (AnyP fun x => sxl C K r (V.upd o.p.dst x))

def sx (C : Ctr) : IR → (Ext → Env → Prop) → Env → Prop
  | .skip, Q, V => Q .normal V
  | .ops l, Q, V => sxl C (Q .normal) l V
  | .mop p, Q, V => p.wp C (Q .normal) V
  | .seq a b, Q, V => sx C a (Ext.then (sx C b Q) Q) V
  | .cond c a b, Q, V => CondP (c.val V) (sx C a Q V) (sx C b Q V)
  | .block id b, Q, V => sx C b (Ext.inBlock id Q) V
  | .loop b, Q, V => ∃ (I : Env → Prop) (μ : Env → Nat), I V ∧ ∀ V, I V → sx C b (Ext.then (fun V' => I V' ∧ μ V' < μ V) Q) V
  | .exit id, Q, V => Q (.exit id) V
  | .ret, Q, V => Q .ret V

theorem grd_spec {V : Env} {A B : Prop} : ∀ g : List (Nat × Bool), grd V g A B → gBool V g ∧ (gHold V g → A) ∧ (¬ gHold V g → B)
  | [], h => ⟨trivial, fun _ => h, fun n => absurd (fun q hq => by cases hq) n⟩
  | q :: r, h => by
    obtain ⟨h1, h2, h3⟩ := grd_spec (A := GrdP (V q.1) q.2 A B) r h
    have key : gHold V r → (gHold V (q :: r) ↔ (V q.1).isT = q.2) := by
      intro hr
      have hb := (h2 hr).1
      cases hv : V q.1 <;> rw [hv] at hb <;> simp [isBool] at hb
      rename_i b
      constructor
      · intro hh
        have := hh q (List.mem_cons_self ..)
        rw [hv] at this
        simpa [PV.isT] using this
      · intro hh q' hq'
        rcases List.mem_cons.1 hq' with rfl | hq'
        · rw [hv]; rw [← hh]; rfl
        · exact hr q' hq'
    refine ⟨fun hr => (h2 hr).1, fun hh => ?_, fun hh => ?_⟩
    · have hr : gHold V r := fun q' hq' => hh q' (List.mem_cons_of_mem _ hq')
      exact (h2 hr).2.1 ((key hr).1 hh)
    · by_cases hr : gHold V r
      · refine (h2 hr).2.2 ?_
        have : ¬ (V q.1).isT = q.2 := fun e => hh ((key hr).2 e)
        cases h : (V q.1).isT <;> cases hq : q.2 <;> simp_all
      · exact h3 hr

theorem sxl_wpl {C : Ctr} {K K' : Env → Prop} (hK : ∀ V, K V → K' V) : ∀ (l : List GP) (V : Env), sxl C K l V → wpl C K' l V
  | [], V, h => hK V h
  | o :: r, V, h => by
    obtain ⟨h1, h2, h3⟩ := grd_spec _ h
    have ih := sxl_wpl (C := C) hK r
    refine ⟨h1, ?_⟩
    have any : ¬ gHold V o.g → ∀ x, wpl C K' r (V.upd o.p.dst x) := fun n x => ih _ (h3 n x)
    by_cases hg : gHold V o.g
    · have h := h2 hg
      cases hp : o.p with
      | set d e => rw [hp] at h; exact ⟨fun _ => h.1, ih _ h.2⟩
      | call d f a k => rw [hp] at h; obtain ⟨x, q1, q2, q3, q4⟩ := h; exact ⟨x, fun _ => q1, q2, q3, ih _ q4⟩
      | callv d f a => rw [hp] at h; obtain ⟨x, q1, q2, q3⟩ := h; exact ⟨x, fun _ => q1, q2, ih _ q3⟩
    · have any := any hg
      cases hp : o.p with
      | set d e => rw [hp] at any; exact ⟨fun n => absurd n hg, any _⟩
      | call d f a k =>
        rw [hp] at any
        refine ⟨if k = .tup then .tup [] else .bool false, fun n => absurd n hg, fun e => by subst e; rfl, fun e => ⟨[], by rw [if_pos e]⟩, any _⟩
      | callv d f a => rw [hp] at any; exact ⟨.bool false, fun n => absurd n hg, rfl, any _⟩

theorem sx_awp {C : Ctr} : ∀ (ir : IR) (Q Q' : Ext → Env → Prop) (V : Env), (∀ e V, Q e V → Q' e V) → sx C ir Q V → awp C ir Q' V
  | .skip, Q, Q', V, h, hq => h _ _ hq
  | .ops l, Q, Q', V, h, hq => sxl_wpl (fun V => h _ V) l V hq
  | .mop p, Q, Q', V, h, hq => MP.wp_mono (fun V => h _ V) hq
  | .seq a b, Q, Q', V, h, hq => sx_awp a _ _ V (fun e V hq => by cases e <;> first | exact sx_awp b _ _ V h hq | exact h _ _ hq) hq
  | .cond c a b, Q, Q', V, h, hq => ⟨hq.1, fun hh => sx_awp a _ _ V h (hq.2.1 hh), fun hh => sx_awp b _ _ V h (hq.2.2 hh)⟩
  | .block id b, Q, Q', V, h, hq => sx_awp b _ _ V (fun e V hq => by
      cases e with
      | exit j =>
        simp only [Ext.inBlock] at hq ⊢
        split
        · rename_i hj; rw [if_pos hj] at hq; exact h _ _ hq
        · rename_i hj; rw [if_neg hj] at hq; exact h _ _ hq
      | _ => exact h _ _ hq) hq
  | .loop b, Q, Q', V, h, ⟨I, μ, h1, h2⟩ => ⟨I, μ, h1, fun V hV => sx_awp b _ _ V (fun e V hq => by cases e <;> first | exact hq | exact h _ _ hq) (h2 V hV)⟩
  | .exit id, Q, Q', V, h, hq => h _ _ hq
  | .ret, Q, Q', V, h, hq => h _ _ hq

theorem Fn.by_sx {P : Program} {X : Cx} (hX : TabOK P X) (hm : P.follows .mixedOrders = true) {f : Nat} {q : Comp} (hc : compP P X f = some q) {lin : Bool} (hl : X.sig.lookup f = some lin)
    {args : List PV} (ha : argsOK q.fl args = true) {res : PV} (hw : sx (FC P) q.ir (fun _ V => resOK q.rb V ∧ resV q.rb q.rs V = res) (fun t => args.getD t .junk)) : Fn P f lin args res :=
  Fn.of hX hm hc hl ha (sx_awp _ _ _ _ (fun _ _ h => h) hw)

theorem FnM.by_sx {P : Program} {X : Cx} (hX : TabOK P X) (hm : P.follows .mixedOrders = true) {f : Nat} {q : Comp} (hc : compM P X f = some q) {v : PV} {vs : List PV} (hv : isL v = true) (hvs : vs.length = q.fl.length)
    {res v' : PV} (hv' : isL v' = true) (hw : sx (FC P) q.ir (fun _ V => V 0 = v' ∧ resV none q.rs V = res) (fun t => (v :: vs).getD t .junk)) : FnM P f (v :: vs) res v' :=
  FnM.of hX hm hc hv hvs hv' (sx_awp _ _ _ _ (fun _ _ h => h) hw)

section
variable {C : Ctr} {K : Env → Prop} {V : Env} {Q : Ext → Env → Prop}
/-! what simp stops at: no step is taken inside -/
def OkS (C : Ctr) (K : Env → Prop) (a : Prop) (r : List GP) (V : Env) : Prop := a ∧ sxl C K r V
def GrdS (C : Ctr) (K : Env → Prop) (v : PV) (b : Bool) (g : List (Nat × Bool)) (p : POp) (r : List GP) (V : Env) : Prop :=
  isBool v = true ∧ (v.isT = b → sxl C K (⟨g, p⟩ :: r) V) ∧ (v.isT = (!b) → ∀ x, sxl C K r (V.upd p.dst x))
def CallS (C : Ctr) (K : Env → Prop) (f : Nat) (l : Bool) (a : List PV) (d : Nat) (k : RK) (r : List GP) (V : Env) : Prop :=
  ∃ x, C f l a x ∧ (k = .sc → scB x = true) ∧ (k = .tup → ∃ vs, x = .tup vs) ∧ sxl C K r (V.upd d x)
def CallvS (C : Ctr) (K : Env → Prop) (fv : PV) (a : List PV) (d : Nat) (r : List GP) (V : Env) : Prop :=
  ∃ x, (∃ f caps, fv = .fn f caps ∧ C f false (a ++ caps) x) ∧ scB x = true ∧ sxl C K r (V.upd d x)
def CondS (C : Ctr) (v : PV) (a b : IR) (Q : Ext → Env → Prop) (V : Env) : Prop := isBool v = true ∧ (v.isT = true → sx C a Q V) ∧ (v.isT = false → sx C b Q V)

def CallM (C : Ctr) (f : Nat) (a : List PV) (d r : Nat) (Q : Ext → Env → Prop) (V : Env) : Prop := ∃ res v', C.fm f a res v' ∧ Q .normal ((V.upd r v').upd d res)
def CallE (C : Ctr) (f : Nat) (a : List PV) (d r t off sz : Nat) (Q : Ext → Env → Prop) (V : Env) : Prop := ∃ res v', C.fm f a res v' ∧ Q .normal ((V.upd r (setEl V r t off sz [v'])).upd d res)
theorem sx_mcall {d f r : Nat} {as : List Opd} : sx C (.mop (.call d f r as)) Q V = CallM C f (V r :: as.map (·.val V)) d r Q V := rfl
theorem sx_mcell {d f r t off sz : Nat} {as : List Opd} : sx C (.mop (.cell d f r t off sz as)) Q V = (isLst sz (V r) = true ∧ CallE C f (((elAt V r t)[off]?).getD .junk :: as.map (·.val V)) d r t off sz Q V) := rfl
theorem sx_mset {r t off n sz : Nat} {x : Opd} : sx C (.mop (.set r t off n sz x)) Q V = ((isLst sz (V r) = true ∧ (cellsOf (x.val V)).length = n ∧ ∀ c ∈ cellsOf (x.val V), oneB c = true) ∧ Q .normal (V.upd r (setEl V r t off sz (cellsOf (x.val V))))) := rfl
theorem CallM_i {f : Nat} {a : List PV} {d r : Nat} {res v' : PV} (h : C.fm f a res v') (h2 : Q .normal ((V.upd r v').upd d res)) : CallM C f a d r Q V := ⟨res, v', h, h2⟩
theorem CallE_i {f : Nat} {a : List PV} {d r t off sz : Nat} {res v' : PV} (h : C.fm f a res v') (h2 : Q .normal ((V.upd r (setEl V r t off sz [v'])).upd d res)) : CallE C f a d r t off sz Q V := ⟨res, v', h, h2⟩

theorem sx_skip : sx C .skip Q V = Q .normal V := rfl
theorem sx_ops {l : List GP} : sx C (.ops l) Q V = sxl C (Q .normal) l V := rfl
theorem sx_seq {a b : IR} : sx C (.seq a b) Q V = sx C a (Ext.then (sx C b Q) Q) V := rfl
theorem sx_cond {o : Opd} {a b : IR} : sx C (.cond o a b) Q V = CondS C (o.val V) a b Q V := rfl
theorem sx_block {id : Nat} {b : IR} : sx C (.block id b) Q V = sx C b (Ext.inBlock id Q) V := rfl
theorem sx_exit {id : Nat} : sx C (.exit id) Q V = Q (.exit id) V := rfl
theorem sx_ret : sx C .ret Q V = Q .ret V := rfl
theorem sxl_nil : sxl C K [] V = K V := rfl
theorem sxl_set {d : Nat} {e : Ex} {r : List GP} : sxl C K (⟨[], .set d e⟩ :: r) V = OkS C K (e.ok V) r (V.upd d (e.val V)) := rfl
theorem sxl_call {d f : Nat} {a : List Opd} {k : RK} {r : List GP} : sxl C K (⟨[], .call d f a k⟩ :: r) V = CallS C K f (k == .lin || k == .tup) (a.map (·.val V)) d k r V := rfl
theorem sxl_callv {d : Nat} {fv : Opd} {a : List Opd} {r : List GP} : sxl C K (⟨[], .callv d fv a⟩ :: r) V = CallvS C K (fv.val V) (a.map (·.val V)) d r V := rfl
theorem sxl_g1 {q : Nat × Bool} {p : POp} {r : List GP} : sxl C K (⟨[q], p⟩ :: r) V = GrdS C K (V q.1) q.2 [] p r V := rfl
theorem sxl_g2 {q q2 : Nat × Bool} {p : POp} {r : List GP} : sxl C K (⟨[q, q2], p⟩ :: r) V = GrdS C K (V q2.1) q2.2 [q] p r V := rfl
theorem sxl_g3 {q q2 q3 : Nat × Bool} {p : POp} {r : List GP} : sxl C K (⟨[q, q2, q3], p⟩ :: r) V = GrdS C K (V q3.1) q3.2 [q, q2] p r V := rfl
theorem sxl_g4 {q q2 q3 q4 : Nat × Bool} {p : POp} {r : List GP} : sxl C K (⟨[q, q2, q3, q4], p⟩ :: r) V = GrdS C K (V q4.1) q4.2 [q, q2, q3] p r V := rfl

variable {r : List GP} {g : List (Nat × Bool)} {p : POp} {a b : IR}
theorem OkS_true : OkS C K True r V = sxl C K r V := by simp [OkS]
theorem GrdS_tt : GrdS C K (.bool true) true g p r V = sxl C K (⟨g, p⟩ :: r) V := by simp [GrdS, PV.isT]
theorem GrdS_tf : GrdS C K (.bool true) false g p r V = ∀ x, sxl C K r (V.upd p.dst x) := by simp [GrdS, PV.isT]
theorem GrdS_ft : GrdS C K (.bool false) true g p r V = ∀ x, sxl C K r (V.upd p.dst x) := by simp [GrdS, PV.isT]
theorem GrdS_ff : GrdS C K (.bool false) false g p r V = sxl C K (⟨g, p⟩ :: r) V := by simp [GrdS, PV.isT]
theorem CondS_t : CondS C (.bool true) a b Q V = sx C a Q V := by simp [CondS, PV.isT]
theorem CondS_f : CondS C (.bool false) a b Q V = sx C b Q V := by simp [CondS, PV.isT]
theorem OkS_i {A : Prop} (h : A) (h2 : sxl C K r V) : OkS C K A r V := ⟨h, h2⟩
theorem CondS_d {q : Prop} [Decidable q] (h : q → sx C a Q V) (h2 : ¬ q → sx C b Q V) : CondS C (.bool (decide q)) a b Q V := ⟨rfl, fun hh => h (of_decide_eq_true hh), fun hh => h2 (of_decide_eq_false hh)⟩
theorem CondS_b {q : Bool} (h : q = true → sx C a Q V) (h2 : q = false → sx C b Q V) : CondS C (.bool q) a b Q V := ⟨rfl, h, h2⟩
theorem GrdS_b {q c : Bool} (h : q = true → GrdS C K (.bool true) c g p r V) (h2 : q = false → GrdS C K (.bool false) c g p r V) : GrdS C K (.bool q) c g p r V := by cases q; exact h2 rfl; exact h rfl
theorem GrdS_d {q : Prop} [Decidable q] {c : Bool} (h : q → GrdS C K (.bool true) c g p r V) (h2 : ¬ q → GrdS C K (.bool false) c g p r V) : GrdS C K (.bool (decide q)) c g p r V := by
  by_cases hq : q
  · rw [decide_eq_true hq]; exact h hq
  · rw [decide_eq_false hq]; exact h2 hq
theorem CallS_i {f : Nat} {l : Bool} {as : List PV} {d : Nat} {k : RK} {x : PV} (h : C f l as x) (h2 : (k = .sc → scB x = true) ∧ (k = .tup → ∃ vs, x = .tup vs) ∧ sxl C K r (V.upd d x)) : CallS C K f l as d k r V := ⟨x, h, h2⟩
theorem CallS_b {f : Nat} {l : Bool} {as : List PV} {d : Nat} {k : RK} {x : Bool} (h : C f l as (.bool x)) (h1 : x = true → k ≠ .tup ∧ sxl C K r (V.upd d (.bool true))) (h2 : x = false → k ≠ .tup ∧ sxl C K r (V.upd d (.bool false))) : CallS C K f l as d k r V := by
  refine ⟨_, h, fun _ => rfl, ?_⟩
  cases x
  · exact ⟨fun e => absurd e (h2 rfl).1, (h2 rfl).2⟩
  · exact ⟨fun e => absurd e (h1 rfl).1, (h1 rfl).2⟩
theorem CallvS_i {f : Nat} {caps as : List PV} {d : Nat} {x : PV} (h : C f false (as ++ caps) x) (hs : scB x = true) (h2 : sxl C K r (V.upd d x)) : CallvS C K (.fn f caps) as d r V := ⟨x, ⟨f, caps, rfl, h⟩, hs, h2⟩
theorem CallvS_b {f : Nat} {caps as : List PV} {d : Nat} {x : Bool} (h : C f false (as ++ caps) (.bool x)) (h1 : x = true → sxl C K r (V.upd d (.bool true))) (h2 : x = false → sxl C K r (V.upd d (.bool false))) : CallvS C K (.fn f caps) as d r V := by
  refine ⟨.bool x, ⟨f, caps, rfl, h⟩, rfl, ?_⟩
  cases x
  · exact h2 rfl
  · exact h1 rfl
/-- a call that returns plain data -/
theorem CallS_s {f : Nat} {l : Bool} {as : List PV} {d : Nat} {x : PV} (h : C f l as x) (hs : scB x = true) (h2 : sxl C K r (V.upd d x)) : CallS C K f l as d .sc r V := ⟨x, h, fun _ => hs, (fun e => by cases e), h2⟩
theorem CallS_l {f : Nat} {l : Bool} {as : List PV} {d : Nat} {x : PV} (h : C f l as x) (h2 : sxl C K r (V.upd d x)) : CallS C K f l as d .lin r V := ⟨x, h, (fun e => by cases e), (fun e => by cases e), h2⟩
theorem CallS_e {f : Nat} {l : Bool} {as : List PV} {d : Nat} {x : PV} (h : C f l as x) (h2 : sxl C K r (V.upd d x)) : CallS C K f l as d .ext r V := ⟨x, h, (fun e => by cases e), (fun e => by cases e), h2⟩
theorem CallS_t {f : Nat} {l : Bool} {as : List PV} {d : Nat} {vs : List PV} (h : C f l as (.tup vs)) (h2 : sxl C K r (V.upd d (.tup vs))) : CallS C K f l as d .tup r V := ⟨_, h, (fun e => by cases e), fun _ => ⟨_, rfl⟩, h2⟩
end

theorem sxl_mono {C : Ctr} : ∀ (l : List GP) (K K' : Env → Prop) (V : Env), (∀ V, K V → K' V) → sxl C K l V → sxl C K' l V := by
  intro l
  induction l with
  | nil => exact fun K K' V h hk => h V hk
  | cons o l ih =>
    intro K K' V h hk
    have gm : ∀ (g : List (Nat × Bool)) (A A' B B' : Prop), (A → A') → (B → B') → grd V g A B → grd V g A' B' := by
      intro g
      induction g with
      | nil => exact fun A A' B B' ha hb hh => ha hh
      | cons q g ihg => exact fun A A' B B' ha hb hh => ihg _ _ _ _ (fun h => ⟨h.1, fun x => ha (h.2.1 x), fun x => hb (h.2.2 x)⟩) hb hh
    refine gm _ _ _ _ _ (fun hh => ?_) (fun hh x => ih _ _ _ h (hh x)) hk
    cases hp : o.p with
    | set d e => rw [hp] at hh; exact ⟨hh.1, ih _ _ _ h hh.2⟩
    | call d f a r => rw [hp] at hh; obtain ⟨x, q1, q2, q3, q4⟩ := hh; exact ⟨x, q1, q2, q3, ih _ _ _ h q4⟩
    | callv d f a => rw [hp] at hh; obtain ⟨x, q1, q2, q3⟩ := hh; exact ⟨x, q1, q2, ih _ _ _ h q3⟩

theorem sx_mono {C : Ctr} : ∀ (ir : IR) (Q Q' : Ext → Env → Prop) (V : Env), (∀ e V, Q e V → Q' e V) → sx C ir Q V → sx C ir Q' V
  | .skip, Q, Q', V, h, hq => h _ _ hq
  | .ops l, Q, Q', V, h, hq => sxl_mono l _ _ V (fun V => h _ V) hq
  | .mop p, Q, Q', V, h, hq => MP.wp_mono (fun V => h _ V) hq
  | .seq a b, Q, Q', V, h, hq => sx_mono a _ _ V (fun e V hq => by cases e <;> first | exact sx_mono b _ _ V h hq | exact h _ _ hq) hq
  | .cond c a b, Q, Q', V, h, hq => ⟨hq.1, fun hh => sx_mono a _ _ V h (hq.2.1 hh), fun hh => sx_mono b _ _ V h (hq.2.2 hh)⟩
  | .block id b, Q, Q', V, h, hq => sx_mono b _ _ V (fun e V hq => by
      cases e with
      | exit j =>
        simp only [Ext.inBlock] at hq ⊢
        split
        · rename_i hj; rw [if_pos hj] at hq; exact h _ _ hq
        · rename_i hj; rw [if_neg hj] at hq; exact h _ _ hq
      | _ => exact h _ _ hq) hq
  | .loop b, Q, Q', V, h, ⟨I, μ, h1, h2⟩ => ⟨I, μ, h1, fun V hV => sx_mono b _ _ V (fun e V hq => by cases e <;> first | exact hq | exact h _ _ hq) (h2 V hV)⟩
  | .exit id, Q, Q', V, h, hq => h _ _ hq
  | .ret, Q, Q', V, h, hq => h _ _ hq

/-- A LOOP THAT COUNTS. -/
theorem sx_count {C : Ctr} {b : IR} {Q : Ext → Env → Prop} {V : Env} (N : Nat) (J : Nat → Env → Prop) (n0 : Nat) (hn : n0 ≤ N) (h0 : J n0 V)
    (hs : ∀ n V, n ≤ N → J n V → sx C b (Ext.then (fun V' => n < N ∧ J (n + 1) V') Q) V) : sx C (.loop b) Q V := by
  refine ⟨fun V => ∃ n, n ≤ N ∧ J n V, fun V => mu fun k => ∃ n, n ≤ N ∧ J n V ∧ k = N - n, ⟨n0, hn, h0⟩, ?_⟩
  rintro V ⟨n, hn, hJ⟩
  obtain ⟨⟨m, m1, m2, m3⟩, _⟩ := mu_spec (p := fun k => ∃ n, n ≤ N ∧ J n V ∧ k = N - n) ⟨_, n, hn, hJ, rfl⟩
  refine sx_mono b _ _ V (fun e V' q => ?_) (hs m V m1 m2)
  cases e with
  | normal =>
    obtain ⟨q1, q2⟩ := q
    refine ⟨⟨m + 1, q1, q2⟩, ?_⟩
    have := (mu_spec (p := fun k => ∃ n, n ≤ N ∧ J n V' ∧ k = N - n) ⟨_, m + 1, q1, q2, rfl⟩).2 (N - (m + 1)) ⟨m + 1, q1, q2, rfl⟩
    show mu _ < mu _
    rw [m3]; omega
  | _ => exact q

/-- A LOOP THAT COUNTS DOWN. -/
theorem sx_down {C : Ctr} {b : IR} {Q : Ext → Env → Prop} {V : Env} (J : Nat → Env → Prop) (m0 : Nat) (h0 : J m0 V)
    (hs : ∀ m V, J m V → sx C b (Ext.then (fun V' => ∃ m', m' < m ∧ J m' V') Q) V) : sx C (.loop b) Q V := by
  refine ⟨fun V => ∃ m, J m V, fun V => mu fun k => J k V, ⟨m0, h0⟩, ?_⟩
  rintro V ⟨m, hm⟩
  obtain ⟨h1, h2⟩ := mu_spec (p := fun k => J k V) ⟨m, hm⟩
  refine sx_mono b _ _ V (fun e V' q => ?_) (hs _ V h1)
  cases e with
  | normal =>
    obtain ⟨m', q1, q2⟩ := q
    refine ⟨⟨m', q2⟩, ?_⟩
    have := (mu_spec (p := fun k => J k V') ⟨m', q2⟩).2 m' q2
    show mu _ < mu _
    omega
  | _ => exact q

/-- what wraps, shut -/
@[irreducible] def wr (k : IntKind) (n : Int) : Int := k.wrap n
theorem wr_eq (k : IntKind) (n : Int) : wr k n = k.wrap n := by unfold wr; rfl
theorem wr_in {n : Int} (h : -9223372036854775808 ≤ n) (h2 : n ≤ 9223372036854775807) : wr .i64 n = n := by rw [wr_eq]; exact wrap_in h h2
theorem wr_zero : wr .i64 0 = 0 := wr_in (by omega) (by omega)
theorem wr_one : wr .i64 1 = 1 := wr_in (by omega) (by omega)
theorem wr_m1 : wr .i64 (-1) = -1 := wr_in (by omega) (by omega)
theorem wr_u8 {n : Int} (h : 0 ≤ n) (h2 : n ≤ 255) : wr .u8 n = n := by rw [wr_eq, IntKind.wrap_u8]; omega
theorem bin_int (op : BinOp) (k k' : IntKind) (a b : Int) : binV op (.int k a) (.int k' b) = match op with
    | .add => .int k (wr k (a + b)) | .sub => .int k (wr k (a - b)) | .mul => .int k (wr k (a * b))
    | .quo => .int k (wr k (a.tdiv b)) | .rem => .int k (a.tmod b)
    | .eql => .bool (decide (a = b)) | .neq => .bool (!decide (a = b))
    | .lss => .bool (decide (a < b)) | .leq => .bool (decide (a ≤ b)) | .gtr => .bool (decide (b < a)) | .geq => .bool (decide (b ≤ a))
    | _ => .junk := by simp only [wr_eq]; cases op <;> rfl
theorem bin_str (op : BinOp) (a b : ByteArray) : binV op (.str a) (.str b) = match op with
    | .add => .str (a ++ b)
    | .eql => .bool (decide (a = b)) | .neq => .bool (!decide (a = b))
    | .lss => .bool (Op.bytesLess a.toList b.toList) | .leq => .bool (Op.bytesLess a.toList b.toList || decide (a = b))
    | .gtr => .bool (!(Op.bytesLess a.toList b.toList || decide (a = b))) | .geq => .bool (!Op.bytesLess a.toList b.toList)
    | _ => .junk := by cases op <;> rfl
theorem binOK_str (op : BinOp) (a b : ByteArray) : binOK op (.str a) (.str b) = match op with
    | .add => a.size + b.size < 4611686018427387904
    | .eql | .neq | .lss | .leq | .gtr | .geq => True
    | _ => False := by cases op <;> rfl
theorem bst_lst (sz : Nat) (nl : Bool) (l : List (List PV)) : bstV (.lst sz nl l) = .str ⟨(l.map byteC).toArray⟩ := rfl
theorem bst_ok1 (V : Env) (x : Opd) (sz : Nat) (nl : Bool) (n : Int) (h : x.val V = .lst 1 nl [[.int .u8 n]]) : Ex.ok V (.bst x) := ⟨nl, [n], h⟩
theorem upd_app (V : Env) (d : Nat) (v : PV) (t : Nat) : V.upd d v t = if t = d then v else V t := rfl
theorem then_n {K : Env → Prop} {Q : Ext → Env → Prop} {V : Env} : Ext.then K Q .normal V = K V := rfl
theorem then_e {K : Env → Prop} {Q : Ext → Env → Prop} {V : Env} {id : Nat} : Ext.then K Q (.exit id) V = Q (.exit id) V := rfl
theorem then_r {K : Env → Prop} {Q : Ext → Env → Prop} {V : Env} : Ext.then K Q .ret V = Q .ret V := rfl
theorem blk_n {Q : Ext → Env → Prop} {V : Env} {id : Nat} : Ext.inBlock id Q .normal V = Q .normal V := rfl
theorem blk_r {Q : Ext → Env → Prop} {V : Env} {id : Nat} : Ext.inBlock id Q .ret V = Q .ret V := rfl
theorem blk_e {Q : Ext → Env → Prop} {V : Env} {id j : Nat} : Ext.inBlock id Q (.exit j) V = if j = id then Q .normal V else Q (.exit j) V := rfl
attribute [irreducible] CallM CallE OkS GrdS CallS CallvS CondS sxl sx
theorem eqa_e (ng : Bool) (ks : List Nat) (x y : Opd) (V : Env) : Ex.val V (.eqa ng ks x y) = .bool (if ng then !Ex.val.eqP (x.val V) (y.val V) else Ex.val.eqP (x.val V) (y.val V)) := rfl
end Go.Eng
