/- A part of the proof of a law's statement: for every input the law returns true and leaves its arguments as they were. No condition beyond the statement's own. A calculus over plain values for the model's code, proved once. -/
import Derived.Below
import Derived.Deep.Draws
import Derived.Lib.ReflectliteSwap
import Derived.Orders
import Derived.KernelRfl
import Derived.Laws.StructEq
import Derived.Laws.BytesString
import Derived.MapKept
import Derived.WideKeyRuns
import Derived.Lib.SliceRun
import Derived.Great.BuildSlice
import Derived.Laws.MakeOwn
set_option linter.unusedVariables false
set_option linter.unusedSimpArgs false
set_option linter.unusedSectionVars false
set_option autoImplicit true
set_option relaxedAutoImplicit true
namespace Go.Eng
open Go Go.RowKit

/-- Values without memory. -/
inductive PV where
  | int (k : IntKind) (n : Int)
  | bool (b : Bool)
  | str (s : ByteArray)
  | lst (sz : Nat) (nil : Bool) (els : List (List PV))
  | agg (cs : List PV)
  | tup (vs : List PV)
  | ptr (cs : List PV)
  | fn (f : FuncId) (caps : List PV)
  | junk
  deriving Inhabited

/-- The value of one cell. -/
def oneB : PV → Bool
  | .agg _ | .tup _ | .junk => false
  | _ => true

abbrev Foot := List (Nat × Nat)

def Hdr (w : World) (a : Addr) (n : Nat) : Prop := a.spot = none ∧ ∃ arr ty fr, w.heap[a.block]? = some (.cells arr ty fr) ∧ a.off + n ≤ arr.size
def Mem (w : World) (a : Addr) (xs : List Value) : Prop := ∀ j x, xs[j]? = some x → w.cell? (a.add j) = some x

mutual
inductive Rep : World → PV → Value → Foot → Prop
  | junk {w} (x) : Rep w .junk x []
  | int {w} (k n) : Rep w (.int k n) (.int k n) []
  | bool {w} (b) : Rep w (.bool b) (.bool b) []
  | str {w} (s) : Rep w (.str s) (.string s) []
  | nil {w} (sz) : Rep w (.lst sz true []) (.slice none 0 0) []
  | emp {w} (sz a) : Rep w (.lst sz false []) (.slice (some a) 0 0) []
  | lst {w sz els a c xs F} (hdr : Hdr w a (c * sz)) (hc : els.length ≤ c) (hu : ∀ cs ∈ els, cs.length = sz) (ho : ∀ cs ∈ els, ∀ c ∈ cs, oneB c = true) (hm : Mem w a xs)
      (h : RepL w els.flatten xs F) : Rep w (.lst sz false els) (.slice (some a) els.length c) ((a.block, a.off + els.length * sz) :: F)
  | agg {w cs xs F} (h : RepL w cs xs F) : Rep w (.agg cs) (.agg xs.toArray) F
  | tup {w cs xs F} (h : RepL w cs xs F) : Rep w (.tup cs) (.tuple xs.toArray) F
  | ptr {w cs a xs F} (hdr : Hdr w a cs.length) (hm : Mem w a xs) (h : RepL w cs xs F) :
      Rep w (.ptr cs) (.pointer (some a)) ((a.block, a.off + cs.length) :: F)
  | fn {w f cs xs F} (h : RepL w cs xs F) : Rep w (.fn f cs) (.func (.func f) #[] xs.toArray) F
inductive RepL : World → List PV → List Value → Foot → Prop
  | nil {w} : RepL w [] [] []
  | cons {w v x F vs xs G} (h : Rep w v x F) (t : RepL w vs xs G) : RepL w (v :: vs) (x :: xs) (F ++ G)
end

/-- What the reading of a footprint rests on is there as it was. -/
def Keeps (w w' : World) (F : Foot) : Prop := ∀ e ∈ F, (∀ o, o < e.2 → w'.cell? ⟨e.1, o, none⟩ = w.cell? ⟨e.1, o, none⟩) ∧
  ∀ arr ty fr, w.heap[e.1]? = some (.cells arr ty fr) → ∃ arr' fr', w'.heap[e.1]? = some (.cells arr' ty fr') ∧ arr'.size = arr.size

theorem Keeps.hdr {w w' : World} {F : Foot} (h : Keeps w w' F) {a : Addr} {n k : Nat} (ha : (a.block, k) ∈ F) (hd : Hdr w a n) : Hdr w' a n := by
  obtain ⟨hs, arr, ty, fr, hb, hz⟩ := hd
  obtain ⟨arr', fr', hb', hs'⟩ := (h _ ha).2 _ _ _ hb
  exact ⟨hs, arr', ty, fr', hb', by omega⟩

theorem addr_add_plain {a : Addr} (hs : a.spot = none) (j : Nat) : a.add j = ⟨a.block, a.off + j, none⟩ := by
  cases a; simp at hs; subst hs; unfold Addr.add; split <;> simp_all

theorem Keeps.mem {w w' : World} {F : Foot} (h : Keeps w w' F) {a : Addr} {xs : List Value} {k : Nat} (ha : (a.block, k) ∈ F) (hs : a.spot = none)
    (hk : a.off + xs.length ≤ k) (hm : Mem w a xs) : Mem w' a xs := by
  intro j x hx
  have := hm j x hx
  rw [addr_add_plain hs] at this ⊢
  have hj : j < xs.length := by
    rcases Nat.lt_or_ge j xs.length with h | h
    · exact h
    · rw [List.getElem?_eq_none h] at hx; cases hx
  rw [(h _ ha).1 _ (by simp; omega)]; exact this

theorem RepL.length {w : World} : ∀ {vs xs F}, RepL w vs xs F → xs.length = vs.length
  | _, _, _, .nil => rfl
  | _, _, _, .cons _ t => by simp [t.length]

theorem flatten_length {α} {sz : Nat} : ∀ {els : List (List α)}, (∀ cs ∈ els, cs.length = sz) → els.flatten.length = els.length * sz
  | [], _ => by simp
  | c :: r, h => by
    have h1 := h c (by simp)
    have h2 := flatten_length (els := r) (fun cs hc => h cs (by simp [hc]))
    simp only [List.flatten_cons, List.length_append, h1, h2, List.length_cons, Nat.succ_mul]; omega

theorem Keeps.sub {w w' : World} {F G : Foot} (h : Keeps w w' F) (hs : ∀ e ∈ G, e ∈ F) : Keeps w w' G := fun e he => h e (hs e he)

mutual
theorem Rep.keep {w w' : World} : ∀ {v x F}, Rep w v x F → Keeps w w' F → Rep w' v x F
  | _, _, _, .junk x, _ => .junk x
  | _, _, _, .int k n, _ => .int k n
  | _, _, _, .bool b, _ => .bool b
  | _, _, _, .str s, _ => .str s
  | _, _, _, .nil sz, _ => .nil sz
  | _, _, _, .emp sz a, _ => .emp sz a
  | _, _, _, .lst hdr hc hu ho hm h, k =>
    .lst (k.hdr (List.mem_cons_self ..) hdr) hc hu ho (k.mem (List.mem_cons_self ..) hdr.1 (by rw [h.length, flatten_length hu]; exact Nat.le_refl _) hm) (h.keep (k.sub (fun e he => List.mem_cons_of_mem _ he)))
  | _, _, _, .agg h, k => .agg (h.keep k)
  | _, _, _, .tup h, k => .tup (h.keep k)
  | _, _, _, .ptr hdr hm h, k =>
    .ptr (k.hdr (List.mem_cons_self ..) hdr) (k.mem (List.mem_cons_self ..) hdr.1 (by rw [h.length]; exact Nat.le_refl _) hm) (h.keep (k.sub (fun e he => List.mem_cons_of_mem _ he)))
  | _, _, _, .fn h, k => .fn (h.keep k)
theorem RepL.keep {w w' : World} : ∀ {v x F}, RepL w v x F → Keeps w w' F → RepL w' v x F
  | _, _, _, .nil, _ => .nil
  | _, _, _, .cons h t, k => .cons (h.keep (k.sub (fun e he => List.mem_append_left _ he))) (t.keep (k.sub (fun e he => List.mem_append_right _ he)))
end

end Go.Eng
namespace Go.Eng
open Go Go.RowKit

abbrev Env := Nat → PV

def Env.upd (V : Env) (d : Nat) (v : PV) : Env := fun t => if t = d then v else V t

inductive Opd where
  | t (i : Nat)
  | c (v : PV)
  deriving Inhabited

def Opd.val (V : Env) : Opd → PV
  | .t i => V i
  | .c v => v

def cellsOf : PV → List PV
  | .agg cs => cs
  | v => [v]

/-- The value that these cells make. -/
def valOf (agg : Bool) (cs : List PV) : PV := if agg then .agg cs else cs.headD .junk

mutual
/-- Plain data: no memory behind it. -/
def scB : PV → Bool
  | .int .. | .bool .. | .str .. => true
  | .agg cs => scL cs
  | .tup cs => scL cs
  | .fn _ cs => scL cs
  | _ => false
def scL : List PV → Bool
  | [] => true
  | v :: r => scB v && scL r
end

def sub (cs : List PV) (off n : Nat) : List PV := (cs.drop off).take n
def putc (cs : List PV) (off : Nat) (ys : List PV) : List PV := cs.take off ++ ys ++ cs.drop (off + ys.length)

def PV.els : PV → List (List PV) | .lst _ _ l => l | _ => []
def PV.pcs : PV → List PV | .ptr cs => cs | _ => []
def PV.num : PV → Int | .int _ n => n | _ => 0
def PV.isT : PV → Bool | .bool b => b | _ => false
def PV.parts : PV → List PV | .tup vs => vs | _ => []

def lenV : PV → Int
  | .lst _ _ l => l.length
  | .str s => s.size
  | _ => 0

/-- Operators on ints and bools and strings. -/
def binV (op : BinOp) (x y : PV) : PV :=
  match x, y with
  | .int k a, .int _ b => match op with
    | .add => .int k (k.wrap (a + b)) | .sub => .int k (k.wrap (a - b)) | .mul => .int k (k.wrap (a * b))
    | .quo => .int k (k.wrap (a.tdiv b)) | .rem => .int k (a.tmod b)
    | .eql => .bool (decide (a = b)) | .neq => .bool (!decide (a = b))
    | .lss => .bool (decide (a < b)) | .leq => .bool (decide (a ≤ b)) | .gtr => .bool (decide (a > b)) | .geq => .bool (decide (a ≥ b))
    | _ => .junk
  | .str a, .str b => match op with
    | .add => .str (a ++ b)
    | .eql => .bool (decide (a = b)) | .neq => .bool (!decide (a = b))
    | .lss => .bool (Op.bytesLess a.toList b.toList) | .leq => .bool (Op.bytesLess a.toList b.toList || decide (a = b))
    | .gtr => .bool (!(Op.bytesLess a.toList b.toList || decide (a = b))) | .geq => .bool (!Op.bytesLess a.toList b.toList)
    | _ => .junk
  | _, _ => .junk

end Go.Eng
namespace Go.Eng
open Go Go.RowKit

/-! ### pure expressions -/

inductive Ex where
  | mv (x : Opd)
  | bin (op : BinOp) (x y : Opd)
  | beq (ng : Bool) (x y : Opd)
  | eqa (ng : Bool) (ks : List Nat) (x y : Opd)
  | not (x : Opd)
  | neg (x : Opd)
  | pick (c x y : Opd)
  | conv (k : IntKind) (x : Opd)
  | len (st : Bool) (x : Opd)
  | idx (s i : Opd) (sz : Nat)
  | ldE (s a : Nat) (off n : Nat) (agg sc : Bool) (sz : Nat)
  | ldB (b : Nat) (off n : Nat) (agg sc : Bool)
  | fld (x : Opd) (off n : Nat) (agg sc : Bool)
  | ext (x : Nat) (i : Nat) (sc : Bool)
  | bld (z : List PV) (ps : List (Nat × Nat × Opd))
  | bsl (sz : Nat) (ps : List Opd)
  | sl (sz : Nat) (x : Opd) (lo hi : Option Opd)
  | ssl (x : Opd) (lo hi : Option Opd)
  | app (x y : Opd) (sz by_ : Nat)
  | apf (x y : Opd) (sz by_ : Nat)
  | isn (ng : Bool) (x : Opd)
  | pck (x : Nat)
  | box (z : Nat) (x : Opd)
  | alc (z : List PV)
  | stB (b off n : Nat) (x : Opd) (cov : Bool)
  | mkf (f : Nat) (caps : List Opd)
  | mks (sz by_ : Nat) (z : List PV) (n : Opd)
  | stF (r a sz : Nat) (x : Opd)
  | six (x i : Opd)
  | bst (x : Opd)
  | mx (x y : Opd)
  | mn (x y : Opd)
  | lk (r : Nat) (k : Opd)
  | mpu (r : Nat) (k v : Opd)
  deriving Inhabited

/-! maps from points to numbers -/
def ent (e : Int × Int × Int) : List PV := [.int .i64 e.1, .int .i64 e.2.1, .int .i64 e.2.2]
def decE : List PV → Int × Int × Int
  | [.int _ a, .int _ b, .int _ c] => (a, b, c)
  | _ => (0, 0, 0)
def decM (v : PV) : List (Int × Int × Int) := v.els.map decE
/-- the first entry of a key -/
def lookE (x y : Int) : List (Int × Int × Int) → Option Int
  | [] => none
  | e :: r => if e.1 = x ∧ e.2.1 = y then some e.2.2 else lookE x y r
/-- the entry of a key set, or a new one behind -/
def putE (x y n : Int) : List (Int × Int × Int) → List (Int × Int × Int)
  | [] => [(x, y, n)]
  | e :: r => if e.1 = x ∧ e.2.1 = y then (x, y, n) :: r else e :: putE x y n r
theorem decM_ent (l : List (Int × Int × Int)) : decM (.lst 3 false (l.map ent)) = l := by
  simp only [decM, PV.els]
  induction l with
  | nil => rfl
  | cons e r ih => simp only [List.map_cons, ih]; rfl
def keyX : PV → Int | .agg [.int _ a, .int _ _] => a | _ => 0
def keyY : PV → Int | .agg [.int _ _, .int _ b] => b | _ => 0
def isPt : PV → Bool | .agg [.int .i64 _, .int .i64 _] => true | _ => false
def isI64 : PV → Bool | .int .i64 _ => true | _ => false

def optNum (V : Env) (d : Int) : Option Opd → Int
  | none => d
  | some x => (x.val V).num

def putAll (z : List PV) (V : Env) : List (Nat × Nat × Opd) → List PV
  | [] => z
  | (off, _, x) :: r => putAll (putc z off (cellsOf (x.val V))) V r

def negV : PV → PV | .int k n => .int k (k.wrap (0 - n)) | _ => .junk
def slV (A Z : Int → Nat) : PV → PV
  | .lst sz nl l => .lst sz nl ((l.take (Z l.length)).drop (A l.length))
  | _ => .junk
def sslV (A Z : Int → Nat) : PV → PV
  | .str s => .str (s.extract (A s.size) (Z s.size))
  | _ => .junk
def appV (sz : Nat) : PV → PV → PV
  | .lst _ n1 l1, .lst _ _ l2 => .lst sz (n1 && l2.isEmpty) (l1 ++ l2)
  | _, _ => .junk
def nilV : PV → Bool | .lst _ nl _ => nl | _ => false
def sixV : PV → Int → PV
  | .str s, i => .int .u8 ((s.data[i.toNat]?).getD 0).toNat
  | _, _ => .junk
def byteC : List PV → UInt8
  | .int _ n :: _ => UInt8.ofNat n.toNat
  | _ => 0
def bstV : PV → PV
  | .lst _ _ l => .str ⟨(l.map byteC).toArray⟩
  | _ => .junk
def mxV : PV → PV → PV | .int k a, .int _ b => .int k (if b > a then b else a) | _, _ => .junk
def mnV : PV → PV → PV | .int k a, .int _ b => .int k (if b < a then b else a) | _, _ => .junk

def Ex.val (V : Env) : Ex → PV
  | .mv x => x.val V
  | .bin op x y => binV op (x.val V) (y.val V)
  | .beq ng x y => .bool (if ng then (x.val V).isT != (y.val V).isT else (x.val V).isT == (y.val V).isT)
  | .eqa ng _ x y => .bool (if ng then !eqP (x.val V) (y.val V) else eqP (x.val V) (y.val V))
  | .not x => .bool (!(x.val V).isT)
  | .neg x => negV (x.val V)
  | .pick c x y => if (c.val V).isT then x.val V else y.val V
  | .conv k x => .int k (k.wrap (x.val V).num)
  | .len _ x => .int .i64 (lenV (x.val V))
  | .idx _ i _ => .int .i64 (i.val V).num
  | .ldE s a off n agg _ _ => valOf agg (sub (((V s).els[(V a).num.toNat]?).getD []) off n)
  | .ldB b off n agg _ => valOf agg (sub (V b).pcs off n)
  | .fld x off n agg _ => valOf agg (sub (cellsOf (x.val V)) off n)
  | .ext x i _ => ((V x).parts[i]?).getD .junk
  | .bld z ps => .agg (putAll z V ps)
  | .bsl sz ps => .lst sz false (ps.map fun x => cellsOf (x.val V))
  | .sl _ x lo hi => slV (fun _ => (optNum V 0 lo).toNat) (fun n => (optNum V n hi).toNat) (x.val V)
  | .ssl x lo hi => sslV (fun _ => (optNum V 0 lo).toNat) (fun n => (optNum V n hi).toNat) (x.val V)
  | .app x y sz _ => appV sz (x.val V) (y.val V)
  | .apf x y sz _ => appV sz (x.val V) (y.val V)
  | .isn ng x => .bool (if ng then !nilV (x.val V) else nilV (x.val V))
  | .pck _ => .int .i64 0
  | .box _ x => .ptr (cellsOf (x.val V))
  | .alc z => .ptr z
  | .stB b off _ x _ => .ptr (putc (V b).pcs off (cellsOf (x.val V)))
  | .mkf f caps => .fn f (caps.map (·.val V))
  | .mks sz _ z n => .lst sz false (List.replicate (n.val V).num.toNat z)
  | .stF r a sz x => .lst sz false ((V r).els.set (V a).num.toNat (cellsOf (x.val V)))
  | .six x i => sixV (x.val V) (i.val V).num
  | .bst x => bstV (x.val V)
  | .mx x y => mxV (x.val V) (y.val V)
  | .mn x y => mnV (x.val V) (y.val V)
  | .lk r k => .tup [.int .i64 ((lookE (keyX (k.val V)) (keyY (k.val V)) (decM (V r))).getD 0), .bool (lookE (keyX (k.val V)) (keyY (k.val V)) (decM (V r))).isSome]
  | .mpu r k v => .lst 3 false ((putE (keyX (k.val V)) (keyY (k.val V)) (v.val V).num (decM (V r))).map ent)
where
  eqP : PV → PV → Bool
    | .agg xs, .agg ys => eqL xs ys
    | _, _ => false
  eqL : List PV → List PV → Bool
    | [], [] => true
    | .int _ a :: xs, .int _ b :: ys => decide (a = b) && eqL xs ys
    | .bool a :: xs, .bool b :: ys => (a == b) && eqL xs ys
    | .str a :: xs, .str b :: ys => decide (a = b) && eqL xs ys
    | _, _ => false

end Go.Eng
namespace Go.Eng
open Go Go.RowKit

def optB (V : Env) (lo hi : Option Opd) (n cap : Int) : Prop :=
  (∀ x, lo = some x → ∃ k i, x.val V = .int k i) ∧ (∀ x, hi = some x → ∃ k i, x.val V = .int k i) ∧
  0 ≤ optNum V 0 lo ∧ optNum V 0 lo ≤ optNum V n hi ∧ optNum V n hi ≤ cap

def isInt : PV → Bool | .int .. => true | _ => false
def isBool : PV → Bool | .bool _ => true | _ => false
def isLst (sz : Nat) : PV → Bool | .lst s _ _ => s == sz | _ => false
def isL : PV → Bool | .lst .. => true | _ => false
def isPtrV : PV → Bool | .ptr _ => true | _ => false
def isStr : PV → Bool | .str _ => true | _ => false

def binOK (op : BinOp) : PV → PV → Prop
  | .int k _, .int k' b => match op with
    | .add | .sub | .mul | .eql | .neq | .lss | .leq | .gtr | .geq => k = k'
    | .quo | .rem => k = k' ∧ b ≠ 0
    | _ => False
  | .str a, .str b => match op with
    | .add => a.size + b.size < 4611686018427387904
    | .eql | .neq | .lss | .leq | .gtr | .geq => True
    | _ => False
  | _, _ => False

def conf : List Nat → List PV → Bool
  | [], [] => true
  | 0 :: ks, .int .i64 _ :: vs => conf ks vs
  | 1 :: ks, .bool _ :: vs => conf ks vs
  | 2 :: ks, .str _ :: vs => conf ks vs
  | _, _ => false

def partsOK (V : Env) (N : Nat) (ps : List (Nat × Nat × Opd)) : Prop := ∀ q ∈ ps, q.1 + q.2.1 ≤ N ∧ (cellsOf (q.2.2.val V)).length = q.2.1 ∧ q.2.2.val V ≠ .junk

def Ex.ok (V : Env) : Ex → Prop
  | .mv _ => True
  | .bin op x y => binOK op (x.val V) (y.val V)
  | .beq _ x y => isBool (x.val V) = true ∧ isBool (y.val V) = true
  | .eqa _ ks x y => ∃ a b, x.val V = .agg a ∧ y.val V = .agg b ∧ conf ks a = true ∧ conf ks b = true
  | .not x => isBool (x.val V) = true
  | .neg x => isInt (x.val V) = true
  | .pick c _ _ => isBool (c.val V) = true
  | .conv _ x => isInt (x.val V) = true
  | .len st x => if st = true then isStr (x.val V) = true else isL (x.val V) = true
  | .idx s i sz => isLst sz (s.val V) = true ∧ isInt (i.val V) = true ∧ 0 ≤ (i.val V).num ∧ (i.val V).num < (s.val V).els.length
  | .ldE s a off n agg sc sz => isLst sz (V s) = true ∧ off + n ≤ sz ∧ (agg = true ∨ n = 1) ∧ (sc = true → scB (valOf agg (sub (((V s).els[(V a).num.toNat]?).getD []) off n)) = true)
  | .ldB b off n agg sc => isPtrV (V b) = true ∧ off + n ≤ (V b).pcs.length ∧ (agg = true ∨ n = 1) ∧ (sc = true → scB (valOf agg (sub (V b).pcs off n)) = true)
  | .fld x off n agg sc => off + n ≤ (cellsOf (x.val V)).length ∧ (agg = true ∨ n = 1) ∧ (∃ cs, x.val V = .agg cs) ∧ (sc = true → scB (valOf agg (sub (cellsOf (x.val V)) off n)) = true)
  | .ext x i sc => i < (V x).parts.length ∧ (sc = true → scB (((V x).parts[i]?).getD .junk) = true)
  | .bld z ps => partsOK V z.length ps
  | .bsl sz ps => ∀ x ∈ ps, (cellsOf (x.val V)).length = sz ∧ ∀ c ∈ cellsOf (x.val V), oneB c = true
  | .sl sz x lo hi => isLst sz (x.val V) = true ∧ optB V lo hi (lenV (x.val V)) (lenV (x.val V))
  | .ssl x lo hi => isStr (x.val V) = true ∧ optB V lo hi (lenV (x.val V)) (lenV (x.val V))
  | .app x y sz b => isLst sz (x.val V) = true ∧ isLst sz (y.val V) = true ∧ (lenV (x.val V) + lenV (y.val V)) * b ≤ 70368744177664
  | .apf x y sz b => (isLst sz (x.val V) = true ∧ isLst sz (y.val V) = true ∧ (lenV (x.val V) + lenV (y.val V)) * b ≤ 70368744177664) ∧ (∀ cs ∈ (x.val V).els, scL cs = true) ∧ ∀ cs ∈ (y.val V).els, scL cs = true
  | .isn _ x => isL (x.val V) = true
  | .box z x => (cellsOf (x.val V)).length = z ∧ x.val V ≠ .junk
  | .alc _ => True
  | .pck x => isPtrV (V x) = true
  | .stB b off n x cov => off + n ≤ (V b).pcs.length ∧ (cellsOf (x.val V)).length = n ∧ (∀ c ∈ cellsOf (x.val V), oneB c = true) ∧
      (cov = true → scL ((V b).pcs.take off) = true ∧ scL ((V b).pcs.drop (off + n)) = true)
  | .mkf _ _ => True
  | .stF r a sz x => (cellsOf (x.val V)).length = sz ∧ (∀ c ∈ cellsOf (x.val V), oneB c = true)
  | .mks _ b _ n => isInt (n.val V) = true ∧ 0 ≤ (n.val V).num ∧ (n.val V).num * b ≤ 70368744177664 ∧ (n.val V).num < 4611686018427387904
  | .bst x => ∃ (nl : Bool) (ns : List Int), x.val V = .lst 1 nl (ns.map fun n => [.int .u8 n])
  | .six x i => ∃ s k j, x.val V = .str s ∧ i.val V = .int k j ∧ 0 ≤ j ∧ j < s.size
  | .mx x y | .mn x y => isInt (x.val V) = true ∧ isInt (y.val V) = true
  | .lk _ k => isPt (k.val V) = true
  | .mpu _ k v => isPt (k.val V) = true ∧ isI64 (v.val V) = true

/-! ### operations and their calculus -/

/-- What a call's result may be used for. -/
inductive RK | sc | lin | ext | tup
  deriving DecidableEq, Inhabited

inductive POp where
  | set (d : Nat) (e : Ex)
  | call (d f : Nat) (args : List Opd) (k : RK)
  | callv (d : Nat) (fv : Opd) (args : List Opd)
  | callp (d f : Nat) (args : List Opd)
  deriving Inhabited

structure GP where
  g : List (Nat × Bool)
  p : POp
  deriving Inhabited

def gHold (V : Env) (g : List (Nat × Bool)) : Prop := ∀ q ∈ g, V q.1 = .bool q.2

/-- what calls may be asked for: a value; a value and a first argument that is written -/
structure Ctr where
  fn : Nat → Bool → List PV → PV → Prop
  fm : Nat → List PV → PV → PV → Prop
  fx : Nat → List PV → PV → Prop
  fr : Nat → Bool → Bool → List PV → (PV → Prop) → Prop
  fc : Nat → List PV → Prop
  fp : Nat → List PV → PV → Prop
instance : CoeFun Ctr (fun _ => Nat → Bool → List PV → PV → Prop) := ⟨Ctr.fn⟩

/-- the slot that is asked holds a bool -/
def gBool (V : Env) : List (Nat × Bool) → Prop
  | [] => True
  | q :: r => gHold V r → isBool (V q.1) = true

def GP.wp (C : Ctr) (K : Env → Prop) (V : Env) (o : GP) : Prop :=
  gBool V o.g ∧ match o.p with
  | .set d e => (gHold V o.g → e.ok V) ∧ K (V.upd d (e.val V))
  | .call d f args k => ∃ r, (gHold V o.g → C f (k == .lin || k == .tup) (args.map (·.val V)) r) ∧ (k = .sc → scB r = true) ∧ (k = .tup → ∃ vs, r = .tup vs) ∧ K (V.upd d r)
  | .callv d fv args => ∃ r, (gHold V o.g → ∃ f caps, fv.val V = .fn f caps ∧ C f false (args.map (·.val V) ++ caps) r) ∧ scB r = true ∧ K (V.upd d r)
  | .callp d f args => ∃ r, (gHold V o.g → C.fp f (args.map (·.val V)) r) ∧ K (V.upd d r)

/-! the slots that an expression looks at -/
def Opd.slots : Opd → List Nat | .t i => [i] | .c _ => []
def Ex.slots : Ex → List Nat
  | .mv x | .not x | .neg x | .bst x | .isn _ x | .conv _ x | .len _ x | .fld x _ _ _ _ | .box _ x | .mks _ _ _ x => x.slots
  | .bin _ x y | .beq _ x y | .eqa _ _ x y | .idx x y _ | .app x y _ _ | .apf x y _ _ | .six x y | .mx x y | .mn x y => x.slots ++ y.slots
  | .pick c x y => c.slots ++ x.slots ++ y.slots
  | .ldE s a _ _ _ _ _ => [s, a]
  | .ldB b _ _ _ _ => [b]
  | .ext x _ _ => [x]
  | .bld _ ps => ps.flatMap fun q => q.2.2.slots
  | .bsl _ ps => ps.flatMap Opd.slots
  | .sl _ x lo hi | .ssl x lo hi => x.slots ++ lo.toList.flatMap Opd.slots ++ hi.toList.flatMap Opd.slots
  | .pck x => [x]
  | .alc _ => []
  | .stF r a _ x => r :: a :: x.slots
  | .stB b _ _ x _ => b :: x.slots
  | .lk r k => r :: k.slots
  | .mpu r k v => r :: (k.slots ++ v.slots)
  | .mkf _ cs => cs.flatMap Opd.slots
def POp.slots : POp → List Nat
  | .set d e => d :: e.slots
  | .call d _ ags _ => d :: ags.flatMap Opd.slots
  | .callv d f ags => d :: (f.slots ++ ags.flatMap Opd.slots)
  | .callp d _ ags => d :: ags.flatMap Opd.slots
def POp.dst : POp → Nat | .set d _ => d | .call d _ _ _ => d | .callv d _ _ => d | .callp d _ _ => d
def GP.slots (o : GP) : List Nat := o.p.slots ++ o.g.map (·.1)

def wpl (C : Ctr) (K : Env → Prop) : List GP → Env → Prop
  | [], V => K V
  | o :: r, V => o.wp C (wpl C K r) V

/-! ### what is known of a slot -/

/-- what of a root a slot is: all of it; some part; the cell 'off' of the element whose address slot 'u' holds; the first n cells of what a box holds -/
inductive Wh | all | part | hole (u tv off sz : Nat) | bx (n : Nat)
  deriving DecidableEq, Inhabited

inductive Md where
  | no | sc | par | ext
  | own (deep : Bool)
  | via (r n : Nat) (whole : Wh)
  | tup (tk : List Nat)
  | box (deep : Bool) (ty : Nat)
  | adB (r n off : Nat)
  | adE (s n off sz : Nat)
  | fr (sz : Nat)
  | adS (r n : Nat)
  | boxP (ty : Nat)
  | mp
  deriving DecidableEq, Inhabited

/-- mode · how often the slot was written · how often what lies behind it was written · under which guards the mode holds -/
structure SM where
  m : Md := .no
  v : Nat := 0
  c : Nat := 0
  g : List (Nat × Nat × Bool) := []
  deriving DecidableEq, Inhabited

inductive TK | int (k : IntKind) | bool | str | slice (e : Nat) | struct (fl : List (Nat × Nat)) | arr (n e : Nat) | ptr (e : Nat) | func | tup (ts : List Nat) | other | mapP
  deriving DecidableEq, Inhabited
structure TI where
  k : TK
  sz : Nat
  b : Nat
  z : List PV
  q : Bool := false
  deriving Inhabited

structure Cx where
  tab : List (Option TI)
  sig : List (Nat × Bool)
  wf : List Nat := []
  xf : List Nat := []
  mu : Bool := false
  rf : List (Nat × Bool × Bool × Bool) := []
  tk : Bool := false
  tl : List Nat := []
  pf : List Nat := []
  deriving Inhabited

def Cx.ti (X : Cx) (t : Nat) : Option TI := (X.tab[t]?).join
def TK.data : TK → Bool | .func | .tup _ | .other | .mapP => false | _ => true
def TK.agg : TK → Bool | .struct _ | .arr .. => true | _ => false
def flatT (X : Cx) : Nat → Nat → Bool
  | 0, _ => false
  | n + 1, t => match X.ti t with
    | some i => match i.k with
      | .int _ | .bool | .str => true
      | .struct fl => fl.all fun q => flatT X n q.2
      | .arr _ e => flatT X n e
      | .tup ts => ts.all fun u => flatT X n u
      | _ => false
    | none => false
def Cx.flat (X : Cx) (t : Nat) : Bool := flatT X 6 t
/-- the cells of a struct's variable that are no plain data: their places -/
def Cx.deepCells (X : Cx) : Nat → Nat → Nat → List Nat
  | 0, off, _ => [off]
  | n + 1, off, t => match X.ti t with
    | some i => match i.k with
      | .int _ | .bool | .str => []
      | .struct fl => fl.flatMap fun q => X.deepCells n (off + q.1) q.2
      | _ => [off]
    | none => [off]

def vlike : Md → Bool | .sc | .par | .ext | .own _ | .via .. => true | _ => false

abbrev MF := Nat → SM
abbrev GL := List (Nat × Nat × Bool)

def cst : Value → Option PV
  | .int k n => some (.int k n)
  | .bool b => some (.bool b)
  | .string s => some (.str s)
  | _ => none

def liveG (M : MF) (G : GL) : Bool := G.all fun q => (M q.1).v == q.2.1 && (M q.1).m == .sc
def gIn (G H : GL) : Bool := G.all fun q => H.contains q

def opd (M : MF) (G : GL) : Operand → Option Opd
  | .tmp t => if vlike (M t).m && gIn (M t).g G then some (.t t) else none
  | .const v => (cst v).map .c
  | .func f => some (.c (.fn f []))
  | _ => none

def Opd.md (M : MF) : Opd → Md
  | .t i => (M i).m
  | .c _ => .sc

/-- To take what a slot owns: who loses it, and whether it is owned to the bottom. -/
def take (M : MF) : Opd → Option (List (Nat × Md) × Bool)
  | .c _ => some ([], true)
  | .t s => match (M s).m with
    | .sc => some ([], true)
    | .own dp => some ([(s, .ext)], dp)
    | .via r n w => if (M r).c == n && (M r).g == [] then match (M r).m with
        | .own true => some ([(r, .ext)], true)
        | .own false => if w = .all then some ([(r, .ext)], false) else none
        | .box true ty => some ([(r, .box false ty)], true)
        | _ => none
      else none
    | _ => none

def takeDeep (M : MF) (x : Opd) : Option (List (Nat × Md)) := match take M x with
  | some (l, true) => some l
  | _ => none

def addDem (l : List (Nat × Md)) (M : MF) : MF := fun t => match l.lookup t with | some m => { M t with m } | none => M t

/-- several, one after the other -/
def takeAll (M : MF) : List Opd → Option (List (Nat × Md))
  | [] => some []
  | x :: r => match takeDeep M x with
    | some l => match takeAll (addDem l M) r with
      | some l' => some (l' ++ l)
      | none => none
    | none => none

structure Plan where
  d : Nat
  m : Md
  dem : List (Nat × Md)
  p : POp
  /-- the slot's own value is written (its address for a box is not) -/
  inner : Bool := false
  deriving Inhabited

/-- what of a root is still as it was -/
def viaM (M : MF) (r n : Nat) (w : Wh) : Md := if (M r).c == n && (M r).m != .no then .via r n w else .ext

/-- a copy's mode -/
def copyM (M : MF) : Opd → Md
  | .c _ => .sc
  | .t s => match (M s).m with
    | .own _ => .via s (M s).c .all
    | .via r n w => viaM M r n w
    | m => m
/-- a part's mode -/
def partM (M : MF) : Opd → Md
  | .c _ => .sc
  | .t s => match (M s).m with
    | .own true => .via s (M s).c .part
    | .own false => .ext
    | .via r n _ => viaM M r n .part
    | m => m

end Go.Eng
namespace Go.Eng
open Go Go.RowKit

def mapO {α β : Type} (f : α → Option β) : List α → Option (List β)
  | [] => some []
  | x :: r => match f x with
    | some y => match mapO f r with
      | some l => some (y :: l)
      | none => none
    | none => none

def plainZ : PV → Bool
  | .int .. | .bool _ | .str _ | .lst _ true [] => true
  | _ => false

/-- what an address may be made of: a variable of the frame's own, or a pointer -/
def adrOf (M : MF) (G : GL) (x : Nat) (off : Nat) : Option (Md × Ex) :=
  if !gIn (M x).g G then none else
  match (M x).m with
  | .box _ _ => some (.adB x (M x).v off, .mv (.c (.int .i64 0)))
  | .boxP _ => some (.adB x (M x).v off, .mv (.c (.int .i64 0)))
  | .par | .ext => some (.adB x (M x).v off, .pck x)
  | .adB r n o => if (M r).v == n && (M r).m != .no then some (.adB r n (o + off), .mv (.t x)) else none
  | .adE s n o sz => if (M s).v == n && (M s).m != .no then some (.adE s n (o + off) sz, .mv (.t x)) else none
  | _ => none

def isSc (M : MF) (x : Opd) : Bool := x.md M == .sc

def argO (M : MF) (G : GL) (lin : Bool) (x : Operand) : Option Opd :=
  match x with
  | .tmp t => match (M t).m with
    | .box _ _ => if lin && gIn (M t).g G then some (.t t) else none
    | _ => opd M G x
  | _ => opd M G x

def stepB (X : Cx) (M : MF) (G : GL) (b : Builtin) (args : Array Operand) (tys : Array TypeId) (d : Nat) : Option Plan :=
  match b, args.toList, tys.toList with
  | .len, [x], [t] => match opd M G x, X.ti t with
    | some x', some i => (match i.k with
      | .slice _ => some ⟨d, .sc, [], .set d (.len false x'), false⟩
      | .str => some ⟨d, .sc, [], .set d (.len true x'), false⟩
      | _ => none)
    | _, _ => none
  | .append, [x, y], [t, u] =>
    if t != u then none else
    match opd M G x, opd M G y, X.ti t with
    | some x', some y', some i => (match i.k with
      | .slice e => (match X.ti e with
        | some ie =>
          if G != [] || ie.b == 0 || !ie.k.data || !ie.z.all plainZ || ie.sz == 0 then none else
          (match take M x' with
          | some (l, dp) =>
            if dp then (match takeDeep (addDem l M) y' with
              | some l' => some ⟨d, .own true, l' ++ l, .set d (.app x' y' ie.sz ie.b), false⟩
              | none => if X.flat e then some ⟨d, .own true, l, .set d (.apf x' y' ie.sz ie.b), false⟩ else some ⟨d, .own false, l, .set d (.app x' y' ie.sz ie.b), false⟩)
            else if X.flat e then some ⟨d, .own true, l, .set d (.apf x' y' ie.sz ie.b), false⟩ else some ⟨d, .own false, l, .set d (.app x' y' ie.sz ie.b), false⟩
          | none => none)
        | none => none)
      | _ => none)
    | _, _, _ => none
  | .max, [x, y], _ => match opd M G x, opd M G y with
    | some x', some y' => some ⟨d, .sc, [], .set d (.mx x' y'), false⟩
    | _, _ => none
  | .min, [x, y], _ => match opd M G x, opd M G y with
    | some x', some y' => some ⟨d, .sc, [], .set d (.mn x' y'), false⟩
    | _, _ => none
  | _, _, _ => none

def nilLst (X : Cx) (t : Nat) : Option PV := match X.ti t with
  | some i => match i.k with
    | .slice e => match X.ti e with
      | some ie => some (.lst ie.sz true [])
      | none => none
    | _ => none
  | none => none

def isNilMp : Operand → Bool
  | .const (.map none) => true
  | _ => false
def isNilSl : Operand → Bool
  | .const (.slice none 0 0) => true
  | _ => false

/-- a variable of the frame's own -/
def boxOf : Md → Option (Bool × Nat)
  | .box dp ty => some (dp, ty)
  | .boxP ty => some (false, ty)
  | _ => none
def frSz : Md → Option Nat
  | .fr sz => some sz
  | _ => none
/-- the fresh array behind a slot -/
def frOf (M : MF) (s : Nat) : Option Nat := match (M s).m with
  | .fr _ => if (M s).g == [] then some s else none
  | .boxP _ => if (M s).g == [] then some s else none
  | .mp => if (M s).g == [] then some s else none
  | .adS r n => if (M s).g == [] && (M r).v == n then some r else none
  | _ => none
def stepF (M : MF) (G : GL) (s r d : Nat) (asg : Bool) : Option Plan := match frSz (M r).m with
  | none => (match (M r).m with
    | .boxP _ => if asg || s != r then none else some ⟨d, .adB r (M r).v 0, [], .set d (.mv (.c .junk)), false⟩
    | .mp => if G != [] then none else if asg then some ⟨d, .mp, [(r, .no)], .set d (.mv (.t r)), false⟩ else some ⟨d, .adS r (M r).v, [], .set d (.mv (.c .junk)), false⟩
    | _ => none)
  | some sz => if G != [] then none else if asg then (if s == r then some ⟨d, .fr sz, [(r, .no)], .set d (.mv (.t r)), false⟩ else some ⟨d, .own true, [(r, .no)], .set d (.mv (.t r)), false⟩)
      else some ⟨d, .adS r (M r).v, [], .set d (.mv (.c .junk)), false⟩
def stepIx (X : Cx) (M : MF) (G : GL) (t r : Nat) (i : Operand) (d : Nat) : Option Plan := if G != [] then none else match opd M G i, X.ti t, frSz (M r).m with
  | some i', some it, some sz => (match it.k with
    | .slice e => (match X.ti e with
      | some j => if !j.k.data || sz != j.sz then none else some ⟨d, .adE r (M r).v 0 j.sz, [], .set d (.idx (.t r) i' j.sz), false⟩
      | none => none)
    | _ => none)
  | _, _, _ => none

def stepM (X : Cx) (M : MF) (G : GL) (x : Operand) (d : Nat) (t : Nat) (asg : Bool) : Option Plan :=
  if isNilSl x then (match nilLst X t with
    | some z => some ⟨d, .own true, [], .set d (.mv (.c z)), false⟩
    | none => none)
  else match x with
  | .tmp s => (match frOf M s with
    | some r => stepF M G s r d asg
    | none => match (M s).m with
    | .tup tk => if G == [] && (M s).g == [] then some ⟨d, .tup tk, [(s, .ext)], .set d (.mv (.t s)), false⟩ else none
    | _ => (match opd M G x with
      | some x' =>
        if asg then
          (match (M s).m with
          | .sc => some ⟨d, .sc, [], .set d (.mv x'), false⟩
          | .par => some ⟨d, .par, [], .set d (.mv x'), false⟩
          | .via _ _ .part => some ⟨d, .ext, [], .set d (.mv x'), false⟩
          | .via _ _ (.hole ..) => some ⟨d, .ext, [], .set d (.mv x'), false⟩
          | .via _ _ (.bx _) => some ⟨d, .ext, [], .set d (.mv x'), false⟩
          | _ => (match take M x' with
            | some (l, dp) => some ⟨d, .own dp, l, .set d (.mv x'), false⟩
            | none => some ⟨d, .ext, [], .set d (.mv x'), false⟩))
        else some ⟨d, copyM M x', [], .set d (.mv x'), false⟩
      | none => none))
  | _ => (match opd M G x with
    | some x' => some ⟨d, .sc, [], .set d (.mv x'), false⟩
    | none => if isNilMp x then some ⟨d, .no, [], .set d (.mv (.c .junk)), false⟩ else none)

/-- the parts of a struct, one behind the other -/
def incr (k : Nat) : List (Nat × Nat × Opd) → Bool
  | [] => true
  | (off, n, _) :: r => k ≤ off && incr (off + n) r

/-- the cells of a struct of plain fields: 0 int, 1 bool, 2 string -/
def eqKinds (X : Cx) (t : Nat) : Option (List Nat) := match X.ti t with
  | some i => match i.k with
    | .struct fl =>
      if !(i.q && fl.length == i.sz && fl.zipIdx.all fun q => q.1.1 == q.2) then none else
      mapO (fun q : Nat × Nat => match X.ti q.2 with
        | some j => (match j.k with | .int .i64 => some 0 | .bool => some 1 | .str => some 2 | _ => none)
        | none => none) fl
    | _ => none
  | none => none

/-- a box's own slot is an address, too -/
def asAd (M : MF) (a : Nat) : Md := match (M a).m with
  | .box _ _ => .adB a (M a).v 0
  | .boxP _ => .adB a (M a).v 0
  | m => m

/-- the cell of an element that is loaded: where it stands in its root -/
def holM (M : MF) (s a off sz : Nat) : Md := match (M s).m with
  | .own true => if (M s).g == [] then .via s (M s).c (.hole a (M a).v off sz) else partM M (.t s)
  | .via r n .all => if (M r).c == n && (M r).m == .own true && (M r).g == [] && (M s).g == [] then .via r n (.hole a (M a).v off sz) else partM M (.t s)
  | _ => partM M (.t s)

/-- what is loaded out of a box: all of it, or some part -/
def bxM (i : TI) (off : Nat) : Wh := if off == 0 && i.k.agg then .bx i.sz else .part

/-- an entry of a map is set -/
def stepU (X : Cx) (M : MF) (G : GL) (t s : Nat) (k x : Operand) : Option Plan := if G != [] then none else (match frOf M s, opd M G k, opd M G x, X.ti t with
    | some r, some k', some x', some i => (match i.k, (M r).m with
      | .mapP, .mp => some ⟨r, .mp, [], .set r (.mpu r k' x'), true⟩
      | _, _ => none)
    | _, _, _, _ => none)

def stepO (X : Cx) (M : MF) (G : GL) (o : Oper) : Option Plan :=
  match o.op, o.dst with
  | .move x, some d => stepM X M G x d o.type false
  | .assign x, some d => stepM X M G x d o.type true
  | .pick (.tmp c) a b, some d =>
    (match opd M G (.tmp c), opd M ((c, (M c).v, true) :: G) a, opd M ((c, (M c).v, false) :: G) b with
    | some c', some a', some b' => some ⟨d, if isSc M a' && isSc M b' then .sc else .ext, [], .set d (.pick c' a' b'), false⟩
    | _, _, _ => none)
  | .alloc t, some d => (match X.ti t with
    | some i => if i.z.all plainZ && i.k.data && G == [] then some ⟨d, .box true t, [], .set d (.alc i.z), false⟩ else none
    | none => none)
  | .box t x, some d => (match opd M G x, X.ti t with
    | some x', some i => if G != [] || !i.k.data then none else (match takeDeep M x' with
      | some l => some ⟨d, .box true t, l, .set d (.box i.sz x'), false⟩
      | none => if x'.md M == .par then some ⟨d, .boxP t, [], .set d (.box i.sz x'), false⟩ else some ⟨d, .box false t, [], .set d (.box i.sz x'), false⟩)
    | _, _ => none)
  | .build t ps, some d => (match X.ti t with
    | some i => if G != [] then none else (match i.k with
      | .struct fl => (match mapO (fun q : Nat × Operand => match fl[q.1]?, opd M G q.2 with
          | some f, some x => (match X.ti f.2 with | some j => if j.k.data then some (f.1, j.sz, x) else none | none => none)
          | _, _ => none) ps.toList with
        | some l =>
          if !(i.z.all plainZ && incr 0 l && i.k.data && (fl.all fun q => match X.ti q.2 with | some j => j.k.data | none => false)) then none else
          if scL i.z && l.all (fun q => isSc M q.2.2) then some ⟨d, .sc, [], .set d (.bld i.z l), false⟩ else
          (match takeAll M (l.map (·.2.2)) with
          | some dm => some ⟨d, .own true, dm, .set d (.bld i.z l), false⟩
          | none => some ⟨d, .ext, [], .set d (.bld i.z l), false⟩)
        | none => none)
      | _ => none)
    | none => none)
  | .buildSlice t n ps, some d => (match X.ti t with
    | some i => (match i.k with
      | .slice e => (match X.ti e, mapO (fun q : Nat × Operand => opd M G q.2) ps.toList with
        | some j, some l =>
          if (ps.toList.map (·.1)) != List.range n || n * j.sz > 100000 || !j.k.data || !j.z.all plainZ || j.sz == 0 then none else
          if G != [] then some ⟨d, .ext, [], .set d (.bsl j.sz l), false⟩ else
          (match takeAll M l with
          | some dm => some ⟨d, .own true, dm, .set d (.bsl j.sz l), false⟩
          | none => some ⟨d, .own false, [], .set d (.bsl j.sz l), false⟩)
        | _, _ => none)
      | _ => none)
    | none => none)
  | .makeFunc (.func f) first caps, some d => (match first.toList, caps.toList with
    | [], [.tmp r] => if G != [] then none else (match (M r).m with
      | .box _ _ => some ⟨d, .ext, [(r, .no)], .set d (.mkf f [.t r]), false⟩
      | _ => none)
    | _, _ => none)
  | .load t (.tmp a), some d => if !gIn (M a).g G then none else (match X.ti t with
    | some i => if !i.k.data || !(i.k.agg || i.sz == 1) then none else (match asAd M a with
      | .adB r n off => if (M r).v != n || !gIn (M r).g G || (M r).m == .no then none else
        let fl := X.flat t
        (match (M r).m with
        | .box dp _ => some ⟨d, if fl then .sc else if dp then .via r (M r).c (bxM i off) else .ext, [], .set d (.ldB r off i.sz i.k.agg fl), false⟩
        | .boxP _ => some ⟨d, if fl then .sc else .par, [], .set d (.ldB r off i.sz i.k.agg fl), false⟩
        | .par => some ⟨d, if fl then .sc else .par, [], .set d (.ldB r off i.sz i.k.agg fl), false⟩
        | .ext => some ⟨d, if fl then .sc else .ext, [], .set d (.ldB r off i.sz i.k.agg fl), false⟩
        | _ => none)
      | .adE s n off sz => if (M s).v != n || !gIn (M s).g G || !vlike (M s).m || sz < off + i.sz then none else
        some ⟨d, if X.flat t then .sc else if i.sz == 1 && !i.k.agg then holM M s a off sz else partM M (.t s), [], .set d (.ldE s a off i.sz i.k.agg (X.flat t) sz), false⟩
      | .par => some ⟨d, if X.flat t then .sc else .par, [], .set d (.ldB a 0 i.sz i.k.agg (X.flat t)), false⟩
      | .ext => some ⟨d, if X.flat t then .sc else .ext, [], .set d (.ldB a 0 i.sz i.k.agg (X.flat t)), false⟩
      | _ => none)
    | none => none)
  | .store t (.tmp a) x, none => if !gIn (M a).g G || G != [] then none else (match X.ti t, opd M G x with
    | some i, some x' => if !i.k.data then none else (match asAd M a with
      | .adB r n off => if (M r).v != n then none else
        (match boxOf (M r).m with
        | some (dp, ty) =>
          let cov := (X.deepCells 6 0 ty).all fun k => off ≤ k && k < off + i.sz
          (match takeDeep M x' with
          | some l => if (dp || cov) && (l.lookup r).isNone then some ⟨r, .box true ty, l, .set r (.stB r off i.sz x' (!dp)), true⟩
              else some ⟨r, .box false ty, [], .set r (.stB r off i.sz x' false), true⟩
          | none => if x'.md M == .par && cov then some ⟨r, .boxP ty, [], .set r (.stB r off i.sz x' true), true⟩ else some ⟨r, .box false ty, [], .set r (.stB r off i.sz x' false), true⟩)
        | _ => none)
      | .adE s n off sz => if (M s).v != n || off != 0 || sz != i.sz then none else
        (match frSz (M s).m, takeDeep M x' with
        | some sz', some l => if sz' != sz || !(l.lookup s).isNone then none else some ⟨s, .fr sz, l, .set s (.stF s a sz x'), true⟩
        | _, _ => none)
      | _ => none)
    | _, _ => none)
  | .binOp op t x y _, some d => if isNilSl y then (match opd M G x, X.ti t with
    | some x', some i => (match i.k, op with
      | .slice _, .eql => some ⟨d, .sc, [], .set d (.isn false x'), false⟩
      | .slice _, .neq => some ⟨d, .sc, [], .set d (.isn true x'), false⟩
      | _, _ => none)
    | _, _ => none) else (match opd M G x, opd M G y, X.ti t with
    | some x', some y', some i => (match i.k with
      | .int _ | .str => some ⟨d, .sc, [], .set d (.bin op x' y'), false⟩
      | .bool => (match op with
        | .eql => some ⟨d, .sc, [], .set d (.beq false x' y'), false⟩
        | .neq => some ⟨d, .sc, [], .set d (.beq true x' y'), false⟩
        | _ => none)
      | .struct _ => (match eqKinds X t with
        | some ks => (match op with
          | .eql => some ⟨d, .sc, [], .set d (.eqa false ks x' y'), false⟩
          | .neq => some ⟨d, .sc, [], .set d (.eqa true ks x' y'), false⟩
          | _ => none)
        | none => none)
      | _ => none)
    | _, _, _ => none)
  | .unOp op _ x, some d => (match opd M G x with
    | some x' => (match op with
      | .not => some ⟨d, .sc, [], .set d (.not x'), false⟩
      | .neg => some ⟨d, .sc, [], .set d (.neg x'), false⟩
      | _ => none)
    | none => none)
  | .convert s t x, some d => (match opd M G x, X.ti s, X.ti t with
    | some x', some i, some j => (match i.k, j.k with
      | .int _, .int k => some ⟨d, .sc, [], .set d (.conv k x'), false⟩
      | .slice e, .str => (match X.ti e with
        | some q => (match q.k with
          | .int .u8 => some ⟨d, .sc, [], .set d (.bst x'), false⟩
          | _ => none)
        | none => none)
      | _, _ => none)
    | _, _, _ => none)
  | .fieldAddr t (.tmp x) f, some d => (match X.ti t with
    | some i => (match i.k with
      | .struct fl => (match fl[f]? with
        | some q => (match X.ti q.2 with
          | some j => if j.sz == 0 || !j.k.data then none else (match adrOf M G x q.1 with
            | some (m, e) => some ⟨d, m, [], .set d e, false⟩
            | none => none)
          | none => none)
        | none => none)
      | _ => none)
    | none => none)
  | .nilCheck (.tmp x), some d => (match (M x).m with
    | .box _ _ | .boxP _ | .par | .ext => (match adrOf M G x 0 with
      | some (m, e) => some ⟨d, m, [], .set d e, false⟩
      | none => none)
    | _ => none)
  | .makeMap t none, some d => if G != [] then none else (match X.ti t with
    | some i => (match i.k with
      | .mapP => some ⟨d, .mp, [], .set d (.mv (.c (.lst 3 false []))), false⟩
      | _ => none)
    | none => none)
  | .lookup t (.tmp s) k true, some d => if G != [] then none else (match frOf M s, opd M G k, X.ti t with
    | some r, some k', some i => (match i.k, (M r).m with
      | .mapP, .mp => some ⟨d, .sc, [], .set d (.lk r k'), false⟩
      | _, _ => none)
    | _, _, _ => none)
  | .mapUpdate t (.tmp s) k x, none => stepU X M G t s k x
  | .insert t (.tmp s) k x, none => stepU X M G t s k x
  | .makeSlice t (.tmp a) (.tmp b), some d => if G != [] || a != b then none else (match opd M G (.tmp a), X.ti t with
    | some n, some it => (match it.k with
      | .slice e => (match X.ti e with
        | some j => if !j.k.data || !j.z.all plainZ then none else some ⟨d, .fr j.sz, [], .set d (.mks j.sz j.b j.z n), false⟩
        | none => none)
      | _ => none)
    | _, _ => none)
  | .indexAddr t (.tmp s) i, some d => (match frOf M s with
    | some r => stepIx X M G t r i d
    | none => match opd M G (.tmp s), opd M G i, X.ti t with
    | some _, some i', some it => (match it.k with
      | .slice e => (match X.ti e with
        | some j => if !j.k.data then none else some ⟨d, .adE s (M s).v 0 j.sz, [], .set d (.idx (.t s) i' j.sz), false⟩
        | none => none)
      | _ => none)
    | _, _, _ => none)
  | .field t x f, some d => (match opd M G x, X.ti t with
    | some x', some i => (match i.k with
      | .struct fl => (match fl[f]? with
        | some q => (match X.ti q.2 with
          | some j => if !j.k.data || !(j.k.agg || j.sz == 1) then none else some ⟨d, if X.flat q.2 then .sc else partM M x', [], .set d (.fld x' q.1 j.sz j.k.agg (X.flat q.2)), false⟩
          | none => none)
        | none => none)
      | _ => none)
    | _, _ => none)
  | .index t x i, some d => (match opd M G x, opd M G i, X.ti t with
    | some x', some i', some it => (match it.k with
      | .str => some ⟨d, .sc, [], .set d (.six x' i'), false⟩
      | _ => none)
    | _, _, _ => none)
  | .slice t x lo hi none, some d => (match opd M G x, X.ti t, mapO (opd M G) lo.toList, mapO (opd M G) hi.toList with
    | some x', some i, some lo', some hi' => (match i.k with
      | .str => some ⟨d, .sc, [], .set d (.ssl x' lo'.head? hi'.head?), false⟩
      | .slice e => (match X.ti e with
        | some j => if !j.k.data || X.tk then none else some ⟨d, (match x'.md M with | .par => .par | _ => .ext), [], .set d (.sl j.sz x' lo'.head? hi'.head?), false⟩
        | none => none)
      | _ => none)
    | _, _, _, _ => none)
  | .extract (.tmp t) i, some d => if !gIn (M t).g G then none else
    (match (M t).m with
    | .tup tk => if G != [] || (M t).g != [] then none else
        if X.flat o.type then some ⟨d, .sc, [], .set d (.ext t i true), false⟩ else
        if tk.contains i then some ⟨d, .ext, [], .set d (.ext t i false), false⟩
        else some ⟨d, .own true, [(t, .tup (i :: tk))], .set d (.ext t i false), false⟩
    | .sc => some ⟨d, .sc, [], .set d (.ext t i true), false⟩
    | .par | .ext => some ⟨d, if X.flat o.type then .sc else (M t).m, [], .set d (.ext t i (X.flat o.type)), false⟩
    | _ => none)
  | .call c, some d => (match c.callee with
    | .builtin b => stepB X M G b c.args c.argTypes d
    | .value (.func f) => if X.pf.contains f then (if G != [] then none else match mapO (argO M G true) c.args.toList with
        | some l => some ⟨d, .mp, [], .callp d f l, false⟩
        | none => none) else (match X.sig.lookup f with
      | some lin => 
        let fl := X.flat o.type
        let ow := lin && G == []
        (match mapO (argO M G (ow || fl)) c.args.toList with
        | some l =>
          if fl then some ⟨d, .sc, [], .call d f l .sc, false⟩
          else if ow then (match X.ti o.type with
            | some i => (match i.k with
              | .tup _ => some ⟨d, .tup [], [], .call d f l .tup, false⟩
              | _ => some ⟨d, .own true, [], .call d f l .lin, false⟩)
            | none => none)
          else some ⟨d, .ext, [], .call d f l .ext, false⟩
        | none => none)
      | none => none)
    | .value (.tmp t) => (match opd M G (.tmp t), mapO (argO M G true) c.args.toList with
      | some t', some l => if X.flat o.type then some ⟨d, .sc, [], .callv d t' l, false⟩ else none
      | _, _ => none)
    | _ => none)
  | _, _ => none

/-- guarded operations hand nothing on that is owned -/
def fixG (G : GL) (p : Plan) : Option Plan :=
  if G == [] then some p else
  match p.m with
  | .own _ | .tup _ | .box .. | .boxP _ | .no | .fr _ | .adS .. | .mp => none
  | _ => if p.dem.isEmpty && !p.inner then some p else none

/-- the guards under which an operation runs: 'gs': the slot that is asked -/
def chain (M : MF) (gs : Option (Nat × Bool)) : GL := match gs with
  | none => []
  | some (s, b) => (s, (M s).v, b) :: (M s).g

def oneLevel (M : MF) (t : Nat) : List Nat := match (M t).m with
  | .via r _ (.hole u _ _ _) => [r, u]
  | .via r _ _ => [r]
  | .adB r _ _ => [r]
  | .adS r _ => [r]
  | .adE s _ _ _ => [s]
  | _ => []
def twoLevel (M : MF) (t : Nat) : List Nat := t :: ((oneLevel M t).flatMap fun r => r :: oneLevel M r)

def tmpsOf (o : Oper) : List Nat := o.op.operands.toList.filterMap fun | .tmp t => some t | _ => none

def rdset (M : MF) (gs : Option (Nat × Bool)) (o : Oper) : List Nat :=
  o.dst.toList ++ ((tmpsOf o).flatMap (twoLevel M)) ++ ((chain M gs).map (·.1))

def restr (M : MF) (l : List Nat) : MF := fun t => if l.contains t then M t else {}

def rootOK (d : Nat) : Md → Bool
  | .via r _ (.hole u _ _ _) => r != d && u != d
  | .via r _ _ => r != d
  | .adB r _ _ => r != d
  | .adS r _ => r != d
  | .adE s _ _ _ => s != d
  | _ => true

def shapeOK (o : Oper) (p : Plan) : Bool := match o.op with
  | .store _ (.tmp _) _ | .mapUpdate _ (.tmp _) _ _ | .insert _ (.tmp _) _ _ => p.inner && o.dst.isNone && (match p.p with | .set .. => true | _ => false)
  | _ => !p.inner && o.dst == some p.d

/-- one operation's step on what is known of the slots -/
def step (X : Cx) (M : MF) (gs : Option (Nat × Bool)) (o : Oper) : Option (List (Nat × SM) × GP × List Nat) :=
  let rd := rdset M gs o
  let M' := restr M rd
  let G := chain M' gs
  if !(liveG M' G && (gs.all fun q => (M' q.1).m == .sc)) then none else
  match stepO X M' G o with
  | none => none
  | some p0 => match fixG G p0 with
    | none => none
    | some p =>
      let gp : GP := ⟨G.map fun q => (q.1, q.2.2), p.p⟩
      if !shapeOK o p || G.any (·.1 == p.d) || !rootOK p.d p.m || !(rd.contains p.d && (p.dem.all fun q => rd.contains q.1) && (gp.slots.all fun t => rd.contains t) && p.p.dst == p.d) then none else
      let e := M' p.d
      let ne : SM := if p.inner then { m := p.m, v := e.v, c := e.c + 1, g := e.g } else { m := p.m, v := e.v + 1, c := e.c + 1, g := G }
      some (((p.d, ne) :: p.dem.map fun q => (q.1, { M' q.1 with m := q.2 })), gp, rd)

def upds (M : MF) (l : List (Nat × SM)) : MF := fun t => match l.lookup t with | some e => e | none => M t

end Go.Eng
namespace Go.Eng
open Go Go.RowKit

structure Ctx where
  base : Nat
  ms : List Nat := []
  ar : Foot := []
  iv : World → Prop := fun _ => True
  ivs : ∀ w w' : World, (∀ k, ¬ (base ≤ k ∨ k ∈ ms) → w'.heap[k]? = w.heap[k]?) → iv w → iv w' := by intros; trivial
  z : Bool := false
  ax : Act → Prop := fun _ => True
  axs : ∀ (a : Act) (d : Option Tmp) (v : Value), (z = true → d ≠ some 0) → ax a → ax (a.put d v) := by intros; trivial

def Ctx.mine (c : Ctx) (b : Nat) : Prop := c.base ≤ b ∨ b ∈ c.ms
def Unfrozen (w : World) (b : Nat) : Prop := ∃ arr ty, w.heap[b]? = some (.cells arr ty (0, 0))

inductive Reps : World → List PV → List Value → List Foot → Prop
  | nil {w} : Reps w [] [] []
  | cons {w v x F vs xs Fs} (h : Rep w v x F) (t : Reps w vs xs Fs) : Reps w (v :: vs) (x :: xs) (F :: Fs)

/-- a map's block, and what it holds -/
def ptv (a b : Int) : Value := .agg #[.int .i64 a, .int .i64 b]
def vent (e : Int × Int × Int) : Value × Value := (ptv e.1 e.2.1, .int .i64 e.2.2)
/-- the entries' stamps rise, and are all old -/
def bornOK (bs : List Nat) (ck : Nat) : Prop := bs.Pairwise (· < ·) ∧ ∀ b ∈ bs, b < ck
def MapR (w : World) (b : Nat) (v : PV) (x : Value) : Prop :=
  ∃ (l : List (Int × Int × Int)) (es : Array MapEntry) (ck : Nat), v = .lst 3 false (l.map ent) ∧ x = .map (some b) ∧ w.heap[b]? = some (.map es ck) ∧ es.toList.map (fun e => (e.key, e.val)) = l.map vent ∧ bornOK (es.toList.map (·.born)) ck

def keepIdx (tk : List Nat) : Nat → List Foot → List Foot
  | _, [] => []
  | i, F :: r => (if tk.contains i then [] else F) :: keepIdx tk (i + 1) r

/-- the part of a footprint that 'owned' means -/
def topOf (dp : Bool) (G : Foot) : Foot := if dp = true then G else G.take 1
/-- what is owned is among 'E', each block once -/
def Owned (dp : Bool) (G E : Foot) : Prop := (∀ e ∈ topOf dp G, e ∈ E) ∧ ((topOf dp G).map (·.1)).Nodup

theorem Keeps.trans {w w1 w2 : World} {F : Foot} (h : Keeps w w1 F) (k : Keeps w1 w2 F) : Keeps w w2 F := fun e he =>
  ⟨fun o ho => ((k e he).1 o ho).trans ((h e he).1 o ho), fun arr ty fr hh => by
    obtain ⟨a1, f1, h1, h2⟩ := (h e he).2 arr ty fr hh
    obtain ⟨a2, f2, h3, h4⟩ := (k e he).2 a1 ty f1 h1
    exact ⟨a2, f2, h3, h4.trans h2⟩⟩

/-- 'vs' is the cell 'off' of an element of the list 'vr'; where that cell stands for something else, the list does -/
def HolR (w : World) (vr : PV) (xr : Value) (Fr : Foot) (xu : Value) (off sz : Nat) (vs : PV) (xs : Value) (Fs : Foot) : Prop :=
  ∃ ad len cp j nl els GA GZ, xr = .slice (some ad) len cp ∧ ad.spot = none ∧ vr = .lst sz nl els ∧ j < len ∧ len = els.length ∧ off < sz ∧ xu = .pointer (some ((ad.add (j * sz)).add off)) ∧ Fr = GA ++ Fs ++ GZ ∧
    (((els[j]?).getD [])[off]?).getD .junk = vs ∧
    ∀ w' v' F', oneB v' = true → Rep w' v' xs F' → Keeps w w' (GA ++ GZ) → Rep w' (.lst sz false (els.set j (putc ((els[j]?).getD []) off [v']))) xr (GA ++ F' ++ GZ)
theorem HolR.keep {w w' : World} {vr : PV} {xr : Value} {Fr : Foot} {xu : Value} {off sz : Nat} {vs : PV} {xs : Value} {Fs : Foot} (h : HolR w vr xr Fr xu off sz vs xs Fs) (k : Keeps w w' Fr) : HolR w' vr xr Fr xu off sz vs xs Fs := by
  obtain ⟨ad, len, cp, j, nl, els, GA, GZ, h1, h2, h3, h4, h5, h6, h7, h8, h9, h10⟩ := h
  refine ⟨ad, len, cp, j, nl, els, GA, GZ, h1, h2, h3, h4, h5, h6, h7, h8, h9, fun w2 v' F' hv hr hk => h10 w2 v' F' hv hr ?_⟩
  refine Keeps.trans (k.sub fun e he => ?_) hk
  rw [h8]
  rcases List.mem_append.1 he with he | he
  · exact List.mem_append_left _ (List.mem_append_left _ he)
  · exact List.mem_append_right _ he

def isBox : Md → Bool | .box _ _ | .boxP _ | .fr _ | .mp => true | _ => false

/-- what of its root a slot is -/
def WhR (M : MF) (V : Env) (x : Nat → Value) (F : Nat → Foot) (w : World) (r : Nat) (vs : PV) (xs : Value) (Fs : Foot) : Wh → Prop
  | .all => Fs = F r ∧ vs = V r ∧ xs = x r
  | .part => True
  | .hole u tv off sz => tv ≤ (M u).v ∧ ((M u).v = tv → HolR w (V r) (x r) (F r) (x u) off sz vs xs Fs)
  | .bx n => isBox (M r).m = true → ∃ arr ty b, x r = .pointer (some ⟨b, 0, none⟩) ∧ w.heap[b]? = some (.cells arr ty (0, 0)) ∧ xs = .agg (arr.toList.take n).toArray

theorem WhR.ver {M M' : MF} (hv : ∀ t, (M' t).v = (M t).v) (hb : ∀ t, isBox (M' t).m = true → isBox (M t).m = true) {V : Env} {x : Nat → Value} {F : Nat → Foot} {w : World} {r : Nat} {vs : PV} {xs : Value} {Fs : Foot} {wh : Wh} (h : WhR M V x F w r vs xs Fs wh) : WhR M' V x F w r vs xs Fs wh := by
  cases wh with
  | all => exact h
  | part => trivial
  | hole u tv off sz => exact ⟨by rw [hv u]; exact h.1, fun h0 => h.2 (by rw [← hv u]; exact h0)⟩
  | bx n => exact fun h0 => h (hb r h0)
theorem WhR.keep {M : MF} {V : Env} {x : Nat → Value} {F : Nat → Foot} {w w' : World} {r : Nat} {vs : PV} {xs : Value} {Fs : Foot} {wh : Wh} (h : WhR M V x F w r vs xs Fs wh) (k : Keeps w w' (F r)) (hh : w'.heap = w.heap) : WhR M V x F w' r vs xs Fs wh := by
  cases wh with
  | all => exact h
  | part => trivial
  | hole u tv off sz => exact ⟨h.1, fun h0 => (h.2 h0).keep k⟩
  | bx n => exact fun h0 => by rw [hh]; exact h h0

section
variable (c : Ctx) (F E : Nat → Foot) (B : Nat → Nat) (M : MF) (V : Env) (x : Nat → Value) (w : World)

def SlotR (t : Nat) : Md → Prop
  | .no => True
  | .sc => Rep w (V t) (x t) [] ∧ F t = []
  | .par => Rep w (V t) (x t) (F t) ∧ ∀ f ∈ F t, f.1 < c.base ∧ f.1 ∉ c.ms
  | .ext => Rep w (V t) (x t) (F t)
  | .own dp => Rep w (V t) (x t) (F t) ∧ Owned dp (F t) (E t) ∧ (dp = false → True)
  | .via r n wh => Rep w (V t) (x t) (F t) ∧ n ≤ (M r).c ∧ ((M r).c = n → (F t).Sublist (F r) ∧ WhR M V x F w r (V t) (x t) (F t) wh)
  | .tup tk => ∃ vs xs Fs, V t = .tup vs ∧ x t = .tuple xs ∧ Reps w vs xs.toList Fs ∧ F t = Fs.flatten ∧ (∀ e ∈ (keepIdx tk 0 Fs).flatten, e ∈ E t) ∧ ((F t).map (·.1)).Nodup
  | .box dp _ => ∃ cs arr ty, V t = .ptr cs ∧ x t = .pointer (some ⟨B t, 0, none⟩) ∧ w.heap[B t]? = some (.cells arr ty (0, 0)) ∧ arr.size = cs.length ∧
      RepL w cs arr.toList (F t) ∧ (dp = true → Owned true (F t) (E t))
  | .boxP _ => (∃ cs arr ty, V t = .ptr cs ∧ x t = .pointer (some ⟨B t, 0, none⟩) ∧ w.heap[B t]? = some (.cells arr ty (0, 0)) ∧ arr.size = cs.length ∧
      RepL w cs arr.toList (F t)) ∧ ∀ f ∈ F t, f.1 < c.base ∧ f.1 ∉ c.ms
  | .fr sz => ∃ els arr ty, V t = .lst sz false els ∧ x t = .slice (some ⟨B t, 0, none⟩) els.length els.length ∧ w.heap[B t]? = some (.cells arr ty (0, 0)) ∧ arr.size = els.length * sz ∧
      (∀ cs ∈ els, cs.length = sz) ∧ (∀ cs ∈ els, ∀ c ∈ cs, oneB c = true) ∧ RepL w els.flatten arr.toList (F t) ∧ Owned true (F t) (E t)
  | .mp => MapR w (B t) (V t) (x t) ∧ F t = []
  | .adS r n => n ≤ (M r).v ∧ ((M r).v = n → x t = x r)
  | .adB r n off => n ≤ (M r).v ∧ ((M r).v = n → ∃ a, x r = .pointer (some a) ∧ a.spot = none ∧ x t = .pointer (some (a.add off)))
  | .adE s n off sz => n ≤ (M s).v ∧ ((M s).v = n → ∃ a len cp i k, x s = .slice (some a) len cp ∧ a.spot = none ∧ V t = .int k (i : Nat) ∧ i < len ∧ x t = .pointer (some ((a.add (i * sz)).add off)))

def mayOwn : Md → Bool | .own _ | .tup _ | .no | .fr _ => true | .box dp _ => dp | _ => false

structure Ent (t : Nat) : Prop where
  le : ∀ q ∈ (M t).g, q.2.1 ≤ (M q.1).v
  ow : mayOwn (M t).m = false → E t = []
  sl : (∀ q ∈ (M t).g, (M q.1).v = q.2.1) → ((∀ q ∈ (M t).g, V q.1 = .bool q.2.2) → SlotR c F E B M V x w t (M t).m) ∧
      (¬ (∀ q ∈ (M t).g, V q.1 = .bool q.2.2) → x t = undef)

structure RG : Prop where
  en : ∀ t, Ent c F E B M V x w t
  e1 : ∀ t u e f, e ∈ E t → f ∈ E u → e.1 = f.1 → t = u
  e2 : ∀ t, ((E t).map (·.1)).Nodup
  e3 : ∀ t e, e ∈ E t → c.mine e.1 ∧ Unfrozen w e.1
  e4 : ∀ t e, e ∈ E t → e ∈ F t
  e5 : ∀ t e, e ∈ E t → ∀ u f, f ∈ F u → f.1 = e.1 → f.2 ≤ e.2
  b0 : ∀ t, isBox (M t).m = true → (M t).g = []
  b1 : ∀ t, isBox (M t).m = true → c.mine (B t) ∧ B t < w.heap.size ∧ ∀ u f, f ∈ F u → f.1 ≠ B t
  b2 : ∀ t u, isBox (M t).m = true → isBox (M u).m = true → B t = B u → t = u
  f1 : ∀ t f, f ∈ F t → f.1 < w.heap.size
  d1 : ∀ t f, f ∈ F t → c.mine f.1 ∨ ∃ g ∈ c.ar, g.1 = f.1 ∧ f.2 ≤ g.2
end

def setF {α : Type} (F : Nat → α) (d : Nat) (a : α) : Nat → α := fun t => if t = d then a else F t
theorem setF_same {α : Type} (F : Nat → α) (d : Nat) (a : α) : setF F d a d = a := by simp [setF]
theorem setF_ne {α : Type} (F : Nat → α) {d t : Nat} (a : α) (h : t ≠ d) : setF F d a t = F t := by simp [setF, h]
theorem upd_same (V : Env) (d : Nat) (v : PV) : V.upd d v d = v := by simp [Env.upd]
theorem upd_ne (V : Env) {d t : Nat} (v : PV) (h : t ≠ d) : V.upd d v t = V t := by simp [Env.upd, h]

/-- ONE SLOT IS WRITTEN; others may lose what they own. -/
theorem RG.put {c : Ctx} {F E E1 : Nat → Foot} {B : Nat → Nat} {M M' : MF} {V : Env} {x : Nat → Value} {w w' : World} (h : RG c F E B M V x w)
    (d : Nat) (v' : PV) (x' : Value) (F' E' : Foot) (b' : Nat)
    -- the world
    (hsz : w.heap.size ≤ w'.heap.size)
    (hk : ∀ t, t ≠ d → Keeps w w' (F t))
    (hb : ∀ t, t ≠ d → isBox (M t).m = true → w'.heap[B t]? = w.heap[B t]?)
    (hu : ∀ t e, t ≠ d → e ∈ E t → Unfrozen w' e.1)
    -- what is known
    (hver : (M d).v ≤ (M' d).v ∧ (M d).c < (M' d).c ∧ ((M d).v = (M' d).v → x' = x d ∧ ∀ b, v' = .bool b ↔ V d = .bool b))
    (hM : ∀ t, t ≠ d → (M' t).v = (M t).v ∧ (M' t).c = (M t).c ∧ (M' t).g = (M t).g)
    (hm : ∀ t, t ≠ d → ((M' t).m = (M t).m ∧ E1 t = E t) ∨
      ((∀ e, e ∈ E1 t → e ∈ E t) ∧ ((E1 t).map (·.1)).Nodup ∧ (isBox (M' t).m = true → isBox (M t).m = true) ∧ (mayOwn (M' t).m = false → E1 t = []) ∧
        (SlotR c F E B M V x w t (M t).m → SlotR c F E1 B M V x w t (M' t).m)))
    -- the new slot
    (hg : ∀ q ∈ (M' d).g, q.1 ≠ d ∧ q.2.1 ≤ (M' q.1).v)
    (how : mayOwn (M' d).m = false → E' = [])
    (hd : (∀ q ∈ (M' d).g, (M' q.1).v = q.2.1) → ((∀ q ∈ (M' d).g, V q.1 = .bool q.2.2) →
        SlotR c (setF F d F') (setF E1 d E') (setF B d b') M' (V.upd d v') (setF x d x') w' d (M' d).m) ∧ (¬ (∀ q ∈ (M' d).g, V q.1 = .bool q.2.2) → x' = undef))
    (k1 : ∀ e ∈ E', ∀ t, t ≠ d → ∀ f ∈ E1 t, e.1 ≠ f.1)
    (k2 : (E'.map (·.1)).Nodup)
    (k3 : ∀ e ∈ E', c.mine e.1 ∧ Unfrozen w' e.1)
    (k4 : ∀ e ∈ E', e ∈ F')
    (k5 : ∀ e ∈ E', (∀ u, u ≠ d → ∀ f ∈ F u, f.1 = e.1 → f.2 ≤ e.2) ∧ ∀ f ∈ F', f.1 = e.1 → f.2 ≤ e.2)
    (k6 : ∀ f ∈ F', (∀ t, t ≠ d → ∀ e ∈ E1 t, f.1 = e.1 → f.2 ≤ e.2) ∧ (∀ t, t ≠ d → isBox (M t).m = true → f.1 ≠ B t) ∧ f.1 < w'.heap.size)
    (k8 : ∀ f ∈ F', c.mine f.1 ∨ ∃ g ∈ c.ar, g.1 = f.1 ∧ f.2 ≤ g.2)
    (k7 : isBox (M' d).m = true → (M' d).g = [] ∧ c.mine b' ∧ b' < w'.heap.size ∧ (∀ u, u ≠ d → ∀ f ∈ F u, f.1 ≠ b') ∧ (∀ f ∈ F', f.1 ≠ b') ∧ ∀ t, t ≠ d → isBox (M t).m = true → B t ≠ b') :
    RG c (setF F d F') (setF E1 d E') (setF B d b') M' (V.upd d v') (setF x d x') w' := by
  have hsub : ∀ t, t ≠ d → ∀ e, e ∈ E1 t → e ∈ E t := by
    intro t ht e he
    rcases hm t ht with ⟨_, h1⟩ | ⟨h1, _⟩
    · rw [h1] at he; exact he
    · exact h1 e he
  have hbx : ∀ t, t ≠ d → isBox (M' t).m = true → isBox (M t).m = true := by
    intro t ht hbt
    rcases hm t ht with ⟨h1, _⟩ | ⟨_, _, h1, _⟩
    · rw [h1] at hbt; exact hbt
    · exact h1 hbt
  have hmv : ∀ r n, n ≤ (M r).v → n ≤ (M' r).v := by
    intro r n hn
    by_cases hr : r = d
    · subst hr; omega
    · rw [(hM r hr).1]; exact hn
  have hmc : ∀ r n, n ≤ (M r).c → n ≤ (M' r).c := by
    intro r n hn
    by_cases hr : r = d
    · subst hr; omega
    · rw [(hM r hr).2.1]; exact hn
  -- the other slots' entries carry over
  have slot : ∀ t, t ≠ d → ∀ m, SlotR c F E1 B M V x w t m → (isBox m = true → isBox (M t).m = true) → SlotR c (setF F d F') (setF E1 d E') (setF B d b') M' (V.upd d v') (setF x d x') w' t m := by
    intro t ht m hs hbm
    have kp := hk t ht
    cases m with
    | no => trivial
    | sc => simp only [SlotR, setF_ne _ _ ht, upd_ne _ _ ht] at hs ⊢; exact ⟨hs.1.keep (fun e he => by cases he), hs.2⟩
    | par => simp only [SlotR, setF_ne _ _ ht, upd_ne _ _ ht] at hs ⊢; exact ⟨hs.1.keep kp, hs.2⟩
    | ext => simp only [SlotR, setF_ne _ _ ht, upd_ne _ _ ht] at hs ⊢; exact hs.keep kp
    | own dp => simp only [SlotR, setF_ne _ _ ht, upd_ne _ _ ht] at hs ⊢; exact ⟨hs.1.keep kp, hs.2⟩
    | via r n wh =>
      simp only [SlotR, setF_ne _ _ ht, upd_ne _ _ ht] at hs ⊢
      refine ⟨hs.1.keep kp, hmc _ _ hs.2.1, fun hc => ?_⟩
      by_cases hr : r = d
      · subst hr; have := hs.2.1; omega
      · obtain ⟨h1, h2⟩ := hs.2.2 (by rw [← (hM r hr).2.1]; exact hc)
        refine ⟨by rw [setF_ne _ _ hr]; exact h1, ?_⟩
        cases wh with
        | all => simp only [WhR, setF_ne _ _ hr, upd_ne _ _ hr] at h2 ⊢; exact h2
        | part => trivial
        | hole u tv off sz =>
          simp only [WhR, setF_ne _ _ hr, upd_ne _ _ hr] at h2 ⊢
          refine ⟨hmv _ _ h2.1, fun hv => ?_⟩
          have h3 : (M u).v = tv ∧ setF x d x' u = x u := by
            by_cases hu : u = d
            · subst hu
              have h4 := h2.1
              have h5 : (M u).v = (M' u).v := by omega
              exact ⟨by omega, by rw [setF_same]; exact (hver.2.2 h5).1⟩
            · exact ⟨by rw [← (hM u hu).1]; exact hv, setF_ne _ _ hu⟩
          rw [h3.2]
          exact (h2.2 h3.1).keep (hk r hr)
        | bx n =>
          simp only [WhR, setF_ne _ _ hr] at h2 ⊢
          intro hb'
          have hb0 := hbx r hr hb'
          obtain ⟨arr, ty, b, e1, e2, e3⟩ := h2 hb0
          refine ⟨arr, ty, b, e1, ?_, e3⟩
          have hsr := (((h.en r).sl (by rw [h.b0 r hb0]; intro q hq; cases hq)).1 (by rw [h.b0 r hb0]; intro q hq; cases hq))
          have hbB : b = B r := by
            cases hmr : (M r).m <;> rw [hmr] at hb0 hsr <;> simp only [isBox] at hb0 <;> (try cases hb0) <;> simp only [SlotR] at hsr
            · obtain ⟨_, _, _, _, a2, _⟩ := hsr
              rw [e1] at a2; simpa using a2
            · obtain ⟨_, _, _, _, a2, _⟩ := hsr
              rw [e1] at a2; simp at a2
            · obtain ⟨⟨_, _, _, _, a2, _⟩, _⟩ := hsr
              rw [e1] at a2; simpa using a2
            · obtain ⟨⟨_, _, _, _, a2, _⟩, _⟩ := hsr
              rw [e1] at a2; simp at a2
          rw [hbB, hb r hr hb0, ← hbB]
          exact e2
    | tup tk =>
      simp only [SlotR, setF_ne _ _ ht, upd_ne _ _ ht] at hs ⊢
      obtain ⟨vs, xs, Fs, h1, h2, h3, h4, h5⟩ := hs
      refine ⟨vs, xs, Fs, h1, h2, ?_, h4, h5⟩
      rw [h4] at kp
      clear h5 h4 h2 h1
      generalize xs.toList = ys at h3
      induction h3 with
      | nil => exact .nil
      | cons hh _ ih => exact .cons (hh.keep (kp.sub (fun e he => by simp [he]))) (ih (kp.sub (fun e he => by simp [he])))
    | box dp ty =>
      simp only [SlotR, setF_ne _ _ ht, upd_ne _ _ ht] at hs ⊢
      obtain ⟨cs, arr, tyy, h1, h2, h3, h4, h5, h6⟩ := hs
      exact ⟨cs, arr, tyy, h1, h2, by rw [hb t ht (hbm rfl)]; exact h3, h4, h5.keep kp, h6⟩
    | boxP ty =>
      simp only [SlotR, setF_ne _ _ ht, upd_ne _ _ ht] at hs ⊢
      obtain ⟨⟨cs, arr, tyy, h1, h2, h3, h4, h5⟩, h6⟩ := hs
      exact ⟨⟨cs, arr, tyy, h1, h2, by rw [hb t ht (hbm rfl)]; exact h3, h4, h5.keep kp⟩, h6⟩
    | fr sz =>
      simp only [SlotR, setF_ne _ _ ht, upd_ne _ _ ht] at hs ⊢
      obtain ⟨els, arr, tyy, h1, h2, h3, h4, h5, h6, h7, h8⟩ := hs
      exact ⟨els, arr, tyy, h1, h2, by rw [hb t ht (hbm rfl)]; exact h3, h4, h5, h6, h7.keep kp, h8⟩
    | mp =>
      simp only [SlotR, setF_ne _ _ ht, upd_ne _ _ ht] at hs ⊢
      obtain ⟨⟨l, es, ck, h1, h2, h3, h4, h5⟩, h6⟩ := hs
      exact ⟨⟨l, es, ck, h1, h2, by rw [hb t ht (hbm rfl)]; exact h3, h4, h5⟩, h6⟩
    | adS r n =>
      simp only [SlotR, setF_ne _ _ ht] at hs ⊢
      refine ⟨hmv _ _ hs.1, fun hv => ?_⟩
      by_cases hr : r = d
      · subst hr
        have h1 := hs.1
        have hv' : (M r).v = (M' r).v := by omega
        rw [setF_same, (hver.2.2 hv').1]
        exact hs.2 (by omega)
      · rw [setF_ne _ _ hr]; exact hs.2 (by rw [← (hM r hr).1]; exact hv)
    | adB r n off =>
      simp only [SlotR, setF_ne _ _ ht] at hs ⊢
      refine ⟨hmv _ _ hs.1, fun hv => ?_⟩
      by_cases hr : r = d
      · subst hr
        have h1 := hs.1
        have hv' : (M r).v = (M' r).v := by omega
        rw [setF_same, (hver.2.2 hv').1]
        exact hs.2 (by omega)
      · rw [setF_ne _ _ hr]; exact hs.2 (by rw [← (hM r hr).1]; exact hv)
    | adE s n off sz =>
      simp only [SlotR, setF_ne _ _ ht, upd_ne _ _ ht] at hs ⊢
      refine ⟨hmv _ _ hs.1, fun hv => ?_⟩
      by_cases hr : s = d
      · subst hr
        have h1 := hs.1
        have hv' : (M s).v = (M' s).v := by omega
        rw [setF_same, (hver.2.2 hv').1]
        exact hs.2 (by omega)
      · rw [setF_ne _ _ hr]; exact hs.2 (by rw [← (hM s hr).1]; exact hv)
  constructor
  · intro t
    by_cases ht : t = d
    · subst ht
      refine ⟨fun q hq => (hg q hq).2, fun ho => by rw [setF_same]; exact how ho, fun hl => ?_⟩
      obtain ⟨h1, h2⟩ := hd hl
      have hV : ∀ q ∈ (M' t).g, (V.upd t v') q.1 = V q.1 := fun q hq => upd_ne _ _ (hg q hq).1
      constructor
      · intro hh; exact h1 (fun q hq => by rw [← hV q hq]; exact hh q hq)
      · intro hh; rw [setF_same]; exact h2 (fun h0 => hh (fun q hq => by rw [hV q hq]; exact h0 q hq))
    · have he := h.en t
      have hgt : (M' t).g = (M t).g := (hM t ht).2.2
      refine ⟨fun q hq => hmv _ _ (he.le q (by rw [← hgt]; exact hq)), ?_, ?_⟩
      · intro ho
        rw [setF_ne _ _ ht]
        rcases hm t ht with ⟨h1, h2⟩ | ⟨_, _, _, h2, _⟩
        · rw [h2]; exact he.ow (by rw [← h1]; exact ho)
        · exact h2 ho
      · rw [hgt]
        intro hl
        -- a guard that is the written slot: its version moved, or its truth is as it was
        have hq : ∀ q ∈ (M t).g, (M q.1).v = q.2.1 ∧ ((V.upd d v') q.1 = .bool q.2.2 ↔ V q.1 = .bool q.2.2) := by
          intro q hq
          by_cases hqd : q.1 = d
          · have h1 := he.le q hq
            have h2 := hl q hq
            rw [hqd] at h1 h2
            have h3 : (M d).v = (M' d).v := by omega
            rw [hqd, upd_same]
            exact ⟨by omega, (hver.2.2 h3).2 _⟩
          · exact ⟨by rw [← (hM q.1 hqd).1]; exact hl q hq, by rw [upd_ne _ _ hqd]⟩
        have hl' : ∀ q ∈ (M t).g, (M q.1).v = q.2.1 := fun q h0 => (hq q h0).1
        have hV : ∀ q ∈ (M t).g, ((V.upd d v') q.1 = .bool q.2.2 ↔ V q.1 = .bool q.2.2) := fun q h0 => (hq q h0).2
        obtain ⟨s1, s2⟩ := he.sl hl'
        refine ⟨fun hh => ?_, fun hh => ?_⟩
        · have hs := s1 (fun q hq => by rw [← hV q hq]; exact hh q hq)
          rcases hm t ht with ⟨h1, h2⟩ | ⟨_, _, h3, _, h2⟩
          · rw [h1]
            refine slot t ht _ ?_ id
            revert hs
            cases hmm : (M t).m <;> simp only [SlotR, h2] <;> exact id
          · exact slot t ht _ (h2 hs) h3
        · rw [setF_ne _ _ ht]; exact s2 (fun h0 => hh (fun q hq => (hV q hq).2 (h0 q hq)))
  · intro t u e f he hf hef
    by_cases ht : t = d
    · by_cases hu' : u = d
      · rw [ht, hu']
      · subst ht; rw [setF_same] at he; rw [setF_ne _ _ hu'] at hf
        exact absurd hef (k1 e he u hu' f hf)
    · by_cases hu' : u = d
      · subst hu'; rw [setF_same] at hf; rw [setF_ne _ _ ht] at he
        exact absurd hef.symm (k1 f hf t ht e he)
      · rw [setF_ne _ _ ht] at he; rw [setF_ne _ _ hu'] at hf
        exact h.e1 t u e f (hsub t ht e he) (hsub u hu' f hf) hef
  · intro t
    by_cases ht : t = d
    · subst ht; rw [setF_same]; exact k2
    · rw [setF_ne _ _ ht]
      rcases hm t ht with ⟨_, h1⟩ | ⟨_, h1, _⟩
      · rw [h1]; exact h.e2 t
      · exact h1
  · intro t e he
    by_cases ht : t = d
    · subst ht; rw [setF_same] at he; exact k3 e he
    · rw [setF_ne _ _ ht] at he
      exact ⟨(h.e3 t e (hsub t ht e he)).1, hu t e ht (hsub t ht e he)⟩
  · intro t e he
    by_cases ht : t = d
    · subst ht; rw [setF_same] at he ⊢; exact k4 e he
    · rw [setF_ne _ _ ht] at he ⊢; exact h.e4 t e (hsub t ht e he)
  · intro t e he u f hf hfe
    by_cases ht : t = d
    · subst ht; rw [setF_same] at he
      by_cases hu' : u = t
      · subst hu'; rw [setF_same] at hf; exact (k5 e he).2 f hf hfe
      · rw [setF_ne _ _ hu'] at hf; exact (k5 e he).1 u hu' f hf hfe
    · rw [setF_ne _ _ ht] at he
      by_cases hu' : u = d
      · subst hu'; rw [setF_same] at hf; exact (k6 f hf).1 t ht e he hfe
      · rw [setF_ne _ _ hu'] at hf; exact h.e5 t e (hsub t ht e he) u f hf hfe
  · intro t hbt
    by_cases ht : t = d
    · subst ht; exact (k7 hbt).1
    · rw [(hM t ht).2.2]; exact h.b0 t (hbx t ht hbt)
  · intro t hbt
    by_cases ht : t = d
    · subst ht; rw [setF_same]
      obtain ⟨_, h1, h2, h3, h4, _⟩ := k7 hbt
      refine ⟨h1, h2, fun u f hf => ?_⟩
      by_cases hu' : u = t
      · subst hu'; rw [setF_same] at hf; exact h4 f hf
      · rw [setF_ne _ _ hu'] at hf; exact h3 u hu' f hf
    · rw [setF_ne _ _ ht]
      obtain ⟨h1, h2, h3⟩ := h.b1 t (hbx t ht hbt)
      refine ⟨h1, by omega, fun u f hf => ?_⟩
      by_cases hu' : u = d
      · subst hu'; rw [setF_same] at hf; exact (k6 f hf).2.1 t ht (hbx t ht hbt)
      · rw [setF_ne _ _ hu'] at hf; exact h3 u f hf
  · intro t u hbt hbu heq
    by_cases ht : t = d
    · by_cases hu' : u = d
      · rw [ht, hu']
      · subst ht; rw [setF_same, setF_ne _ _ hu'] at heq
        exact absurd heq.symm ((k7 hbt).2.2.2.2.2 u hu' (hbx u hu' hbu))
    · by_cases hu' : u = d
      · subst hu'; rw [setF_same, setF_ne _ _ ht] at heq
        exact absurd heq ((k7 hbu).2.2.2.2.2 t ht (hbx t ht hbt))
      · rw [setF_ne _ _ ht, setF_ne _ _ hu'] at heq
        exact h.b2 t u (hbx t ht hbt) (hbx u hu' hbu) heq
  · intro t f hf
    by_cases ht : t = d
    · subst ht; rw [setF_same] at hf; exact (k6 f hf).2.2
    · rw [setF_ne _ _ ht] at hf; have := h.f1 t f hf; omega
  · intro t f hf
    by_cases ht : t = d
    · subst ht; rw [setF_same] at hf; exact k8 f hf
    · rw [setF_ne _ _ ht] at hf; exact h.d1 t f hf

end Go.Eng
namespace Go.Eng
open Go Go.RowKit

theorem addDem_nil (M : MF) : addDem [] M = M := by funext t; simp [addDem]
theorem addDem_append (l l' : List (Nat × Md)) (M : MF) : addDem (l' ++ l) M = addDem l' (addDem l M) := by
  funext t
  simp only [addDem, List.lookup_append]
  cases l'.lookup t <;> cases l.lookup t <;> simp
theorem addDem_v (l : List (Nat × Md)) (M : MF) (t : Nat) : (addDem l M t).v = (M t).v ∧ (addDem l M t).c = (M t).c ∧ (addDem l M t).g = (M t).g := by
  unfold addDem; split <;> simp

/-- What is owned by no slot at the moment. -/
structure Free (c : Ctx) (F E : Nat → Foot) (w : World) (L : Foot) : Prop where
  l1 : ∀ e ∈ L, ∀ t, ∀ f ∈ E t, e.1 ≠ f.1
  l2 : (L.map (·.1)).Nodup
  l3 : ∀ e ∈ L, c.mine e.1 ∧ Unfrozen w e.1
  l4 : ∀ e ∈ L, ∃ u, e ∈ F u
  l5 : ∀ e ∈ L, ∀ u, ∀ f ∈ F u, f.1 = e.1 → f.2 ≤ e.2

theorem Free.nil {c : Ctx} {F E : Nat → Foot} {w : World} : Free c F E w [] := ⟨by simp, by simp, by simp, by simp, by simp⟩

theorem RG.demote {c : Ctx} {F E : Nat → Foot} {B : Nat → Nat} {M : MF} {V : Env} {x : Nat → Value} {w : World} (h : RG c F E B M V x w)
    (r : Nat) (m' : Md) (E0 : Foot) (hsub : ∀ e ∈ E0, e ∈ E r) (hnd0 : (E0.map (·.1)).Nodup) (hbox : isBox m' = true → isBox (M r).m = true) (how : mayOwn m' = false → E0 = [])
    (hs : SlotR c F E B M V x w r (M r).m → SlotR c F (setF E r E0) B M V x w r m') :
    RG c F (setF E r E0) B (addDem [(r, m')] M) V x w := by
  have hv : ∀ t, (addDem [(r, m')] M t).v = (M t).v ∧ (addDem [(r, m')] M t).c = (M t).c ∧ (addDem [(r, m')] M t).g = (M t).g := addDem_v _ M
  have hmr : (addDem [(r, m')] M r).m = m' := by simp [addDem]
  have hmt : ∀ t, t ≠ r → addDem [(r, m')] M t = M t := by
    intro t ht
    have : (t == r) = false := by simpa using ht
    simp [addDem, List.lookup, this]
  have hmem : ∀ t e, e ∈ setF E r E0 t → e ∈ E t := by
    intro t e he
    by_cases ht : t = r
    · subst ht; rw [setF_same] at he; exact hsub e he
    · rw [setF_ne _ _ ht] at he; exact he
  have hbx : ∀ t, isBox (addDem [(r, m')] M t).m = true → isBox (M t).m = true := by
    intro t ht
    by_cases h0 : t = r
    · subst h0; rw [hmr] at ht; exact hbox ht
    · rw [hmt t h0] at ht; exact ht
  have slot : ∀ t m, SlotR c F (setF E r E0) B M V x w t m → SlotR c F (setF E r E0) B (addDem [(r, m')] M) V x w t m := by
    intro t m
    cases m <;> simp only [SlotR, (hv _).1, (hv _).2.1] <;> first | exact id | exact fun hs => ⟨hs.1, hs.2.1, fun h0 => ⟨(hs.2.2 h0).1, (hs.2.2 h0).2.ver (fun t => (hv t).1) hbx⟩⟩
  constructor
  · intro t
    have he := h.en t
    refine ⟨fun q hq => ?_, ?_, ?_⟩
    · rw [(hv t).2.2] at hq; rw [(hv q.1).1]; exact he.le q hq
    · by_cases ht : t = r
      · subst ht; rw [hmr, setF_same]; exact how
      · rw [hmt t ht, setF_ne _ _ ht]; exact he.ow
    · rw [(hv t).2.2]
      intro hl
      obtain ⟨s1, s2⟩ := he.sl (fun q hq => by rw [← (hv q.1).1]; exact hl q hq)
      refine ⟨fun hh => ?_, s2⟩
      have := s1 hh
      by_cases ht : t = r
      · subst ht; rw [hmr]; exact slot _ _ (hs this)
      · rw [hmt t ht]
        refine slot _ _ ?_
        revert this
        cases (M t).m <;> simp only [SlotR, setF_ne _ _ ht] <;> exact id
  · exact fun t u e f he hf hef => h.e1 t u e f (hmem t e he) (hmem u f hf) hef
  · intro t
    by_cases ht : t = r
    · subst ht; rw [setF_same]; exact hnd0
    · rw [setF_ne _ _ ht]; exact h.e2 t
  · exact fun t e he => h.e3 t e (hmem t e he)
  · exact fun t e he => h.e4 t e (hmem t e he)
  · exact fun t e he => h.e5 t e (hmem t e he)
  · exact fun t ht => by rw [(hv t).2.2]; exact h.b0 t (hbx t ht)
  · exact fun t ht => h.b1 t (hbx t ht)
  · exact fun t u ht hu => h.b2 t u (hbx t ht) (hbx u hu)
  · exact h.f1
  · exact h.d1

theorem SlotR.asAd {c : Ctx} {F E : Nat → Foot} {B : Nat → Nat} {M : MF} {V : Env} {x : Nat → Value} {w : World} {t : Nat} (h : SlotR c F E B M V x w t (M t).m) :
    SlotR c F E B M V x w t (Go.Eng.asAd M t) := by
  unfold Go.Eng.asAd
  split
  · rename_i dp ty hm
    rw [hm] at h
    obtain ⟨cs, arr, tyy, h1, h2, h3, _⟩ := h
    exact ⟨Nat.le_refl _, fun _ => ⟨⟨B t, 0, none⟩, h2, rfl, by rw [h2]; simp [Addr.add]⟩⟩
  · rename_i ty hm
    rw [hm] at h
    obtain ⟨⟨cs, arr, tyy, h1, h2, h3, _⟩, _⟩ := h
    exact ⟨Nat.le_refl _, fun _ => ⟨⟨B t, 0, none⟩, h2, rfl, by rw [h2]; simp [Addr.add]⟩⟩
  · exact h

theorem boxOf_slot {c : Ctx} {F E : Nat → Foot} {B : Nat → Nat} {M : MF} {V : Env} {x : Nat → Value} {w : World} {t : Nat} {m : Md} {dp : Bool} {ty : Nat} (h : boxOf m = some (dp, ty)) : isBox m = true ∧ m ≠ .no ∧ (SlotR c F E B M V x w t m → SlotR c F E B M V x w t (.box dp ty)) := by
  unfold boxOf at h
  split at h
  · simp only [Option.some.injEq, Prod.mk.injEq] at h; obtain ⟨rfl, rfl⟩ := h; exact ⟨rfl, by simp, id⟩
  · simp only [Option.some.injEq, Prod.mk.injEq] at h; obtain ⟨rfl, rfl⟩ := h; exact ⟨rfl, by simp, fun ⟨⟨cs, arr, tyy, h1, h2, h3, h4, h5⟩, _⟩ => ⟨cs, arr, tyy, h1, h2, h3, h4, h5, by simp⟩⟩
  · cases h

/-- the reading of an operand -/
def OpR (c : Ctx) (F E : Nat → Foot) (B : Nat → Nat) (M : MF) (V : Env) (x : Nat → Value) (w : World) (o : Opd) (xv : Value) (Fx : Foot) : Prop :=
  match o with
  | .t s => vlike (M s).m = true ∧ SlotR c F E B M V x w s (M s).m ∧ xv = x s ∧ Fx = F s
  | .c v => Rep w v xv [] ∧ Fx = []

theorem SlotR.rep {c : Ctx} {F E : Nat → Foot} {B : Nat → Nat} {M : MF} {V : Env} {x : Nat → Value} {w : World} {s : Nat} (hv : vlike (M s).m = true)
    (h : SlotR c F E B M V x w s (M s).m) : Rep w (V s) (x s) (F s) := by
  cases hm : (M s).m <;> rw [hm] at h hv <;> simp [vlike] at hv <;> simp only [SlotR] at h
  · rw [h.2]; exact h.1
  · exact h.1
  · exact h
  · exact h.1
  · exact h.1

theorem OpR.rep {c : Ctx} {F E : Nat → Foot} {B : Nat → Nat} {M : MF} {V : Env} {x : Nat → Value} {w : World} {o : Opd} {xv : Value} {Fx : Foot}
    (h : OpR c F E B M V x w o xv Fx) : Rep w (o.val V) xv Fx := by
  cases o with
  | t s => obtain ⟨h1, h2, rfl, rfl⟩ := h; exact h2.rep h1
  | c v => obtain ⟨h1, rfl⟩ := h; exact h1

/-- every cell read lies within what is read already -/
def Dom (F : Nat → Foot) (G : Foot) : Prop := ∀ f ∈ G, ∃ u, ∃ f' ∈ F u, f'.1 = f.1 ∧ f.2 ≤ f'.2

theorem OpR.dom {c : Ctx} {F E : Nat → Foot} {B : Nat → Nat} {M : MF} {V : Env} {x : Nat → Value} {w : World} {o : Opd} {xv : Value} {Fx : Foot}
    (h : OpR c F E B M V x w o xv Fx) : Dom F Fx := by
  cases o with
  | t s => obtain ⟨h1, h2, rfl, rfl⟩ := h; exact fun f hf => ⟨s, f, hf, rfl, Nat.le_refl _⟩
  | c v => obtain ⟨h1, rfl⟩ := h; exact fun f hf => by cases hf

theorem OpR.sc {c : Ctx} {F E : Nat → Foot} {B : Nat → Nat} {M : MF} {V : Env} {x : Nat → Value} {w : World} {o : Opd} {xv : Value} {Fx : Foot}
    (h : OpR c F E B M V x w o xv Fx) (hs : o.md M = .sc) : Fx = [] := by
  cases o with
  | t s => obtain ⟨h1, h2, rfl, rfl⟩ := h; simp only [Opd.md] at hs; rw [hs] at h2; exact h2.2
  | c v => exact h.2

/-- What a root gives up floats. -/
theorem RG.float {c : Ctx} {F E : Nat → Foot} {B : Nat → Nat} {M : MF} {V : Env} {x : Nat → Value} {w : World} {L : Foot} (h : RG c F E B M V x w) (hL : Free c F E w L)
    (r : Nat) (m' : Md) (Ex : Foot) (hsub : ∀ e ∈ Ex, e ∈ E r) (hnd : (Ex.map (·.1)).Nodup) (hbox : isBox m' = true → isBox (M r).m = true)
    (hs : SlotR c F E B M V x w r (M r).m → SlotR c F (setF E r []) B M V x w r m') :
    RG c F (setF E r []) B (addDem [(r, m')] M) V x w ∧ Free c F (setF E r []) w (L ++ Ex) := by
  refine ⟨h.demote r m' [] (by simp) (by simp) hbox (fun _ => rfl) hs, ?_⟩
  have hmem : ∀ t e, e ∈ setF E r [] t → e ∈ E t := by
    intro t e he
    by_cases ht : t = r
    · subst ht; rw [setF_same] at he; cases he
    · rw [setF_ne _ _ ht] at he; exact he
  constructor
  · intro e he t f hf hef
    rcases List.mem_append.1 he with he | he
    · exact hL.l1 e he t f (hmem t f hf) hef
    · have := h.e1 r t e f (hsub e he) (hmem t f hf) hef
      subst this; rw [setF_same] at hf; cases hf
  · rw [List.map_append, List.nodup_append]
    refine ⟨hL.l2, hnd, ?_⟩
    intro a ha b hb
    obtain ⟨e, he, rfl⟩ := List.mem_map.1 ha
    obtain ⟨f, hf, rfl⟩ := List.mem_map.1 hb
    exact hL.l1 e he r f (hsub f hf)
  · intro e he
    rcases List.mem_append.1 he with he | he
    · exact hL.l3 e he
    · exact h.e3 r e (hsub e he)
  · intro e he
    rcases List.mem_append.1 he with he | he
    · exact hL.l4 e he
    · exact ⟨r, h.e4 r e (hsub e he)⟩
  · intro e he
    rcases List.mem_append.1 he with he | he
    · exact hL.l5 e he
    · exact h.e5 r e (hsub e he)


theorem topOf_nil (dp : Bool) : topOf dp [] = [] := by cases dp <;> rfl

theorem RG.take {c : Ctx} {F E : Nat → Foot} {B : Nat → Nat} {M : MF} {V : Env} {x : Nat → Value} {w : World} {L : Foot} (h : RG c F E B M V x w) (hL : Free c F E w L)
    {o : Opd} {xv : Value} {Fx : Foot} (ho : OpR c F E B M V x w o xv Fx) {l : List (Nat × Md)} {dp : Bool} (ht : take M o = some (l, dp))
    :
    ∃ E1, RG c F E1 B (addDem l M) V x w ∧ Free c F E1 w (L ++ topOf dp Fx) ∧ (∀ t e, e ∈ E1 t → e ∈ E t) ∧ (dp = false → True) := by
  have hmem : ∀ r t e, e ∈ setF E r [] t → e ∈ E t := by
    intro r t e he
    by_cases ht : t = r
    · subst ht; rw [setF_same] at he; cases he
    · rw [setF_ne _ _ ht] at he; exact he
  cases o with
  | c v =>
    simp only [Go.Eng.take, Option.some.injEq, Prod.mk.injEq] at ht
    obtain ⟨rfl, rfl⟩ := ht
    obtain ⟨_, rfl⟩ := ho
    exact ⟨E, by rw [addDem_nil]; exact h, by rw [topOf_nil, List.append_nil]; exact hL, fun _ _ he => he, by simp⟩
  | t s =>
    obtain ⟨h1, h2, rfl, rfl⟩ := ho
    simp only [Go.Eng.take] at ht
    cases hm : (M s).m <;> rw [hm] at ht <;> simp only [reduceCtorEq] at ht
    case sc =>
      simp only [Option.some.injEq, Prod.mk.injEq] at ht
      obtain ⟨rfl, rfl⟩ := ht
      rw [hm] at h2
      exact ⟨E, by rw [addDem_nil]; exact h, by rw [h2.2, topOf_nil, List.append_nil]; exact hL, fun _ _ he => he, by simp⟩
    case own dp' =>
      simp only [Option.some.injEq, Prod.mk.injEq] at ht
      obtain ⟨rfl, rfl⟩ := ht
      rw [hm] at h2
      simp only [SlotR] at h2
      obtain ⟨r1, r2⟩ := h.float hL s .ext (topOf dp' (F s)) h2.2.1.1 h2.2.1.2 (by simp [isBox]) (fun h3 => by rw [hm] at h3; exact h3.1)
      exact ⟨_, r1, r2, hmem s, h2.2.2⟩
    case via r n wh =>
      by_cases hc : ((M r).c == n && (M r).g == []) = true
      · rw [if_pos hc] at ht
        rw [hm] at h2
        simp only [SlotR] at h2
        have hc2 : (M r).c = n ∧ (M r).g = [] := by simpa using hc
        have h3 := h2.2.2 hc2.1
        have ha : SlotR c F E B M V x w r (M r).m := ((h.en r).sl (by rw [hc2.2]; simp)).1 (by rw [hc2.2]; simp)
        cases hr : (M r).m <;> rw [hr] at ht <;> try (simp only [reduceCtorEq] at ht)
        case own dp' =>
          cases dp'
          · cases wh
            case part => simp at ht
            case hole => simp at ht
            case bx => simp at ht
            case all =>
              simp only [if_true, Option.some.injEq, Prod.mk.injEq] at ht
              obtain ⟨rfl, rfl⟩ := ht
              rw [hr] at ha
              simp only [SlotR] at ha
              obtain ⟨hF, hV, _⟩ := h3.2
              obtain ⟨r1, r2⟩ := h.float hL r .ext (topOf false (F s)) (by rw [hF]; exact ha.2.1.1) (by rw [hF]; exact ha.2.1.2) (by intro hh; cases hh) (fun h4 => by rw [hr] at h4; exact h4.1)
              exact ⟨_, r1, r2, hmem r, fun _ => trivial⟩
          · simp only [Option.some.injEq, Prod.mk.injEq] at ht
            obtain ⟨rfl, rfl⟩ := ht
            rw [hr] at ha
            simp only [SlotR] at ha
            obtain ⟨r1, r2⟩ := h.float hL r .ext (F s) (fun e he => ha.2.1.1 e (h3.1.subset he)) (ha.2.1.2.sublist (h3.1.map _)) (by intro hh; cases hh) (fun h4 => by rw [hr] at h4; exact h4.1)
            exact ⟨_, r1, r2, hmem r, by simp⟩
        case box dp' ty =>
          cases dp' <;> simp only [reduceCtorEq] at ht
          simp only [Option.some.injEq, Prod.mk.injEq] at ht
          obtain ⟨rfl, rfl⟩ := ht
          rw [hr] at ha
          simp only [SlotR] at ha
          obtain ⟨cs, arr, tyy, a1, a2, a3, a4, a5, a6⟩ := ha
          obtain ⟨r1, r2⟩ := h.float hL r (.box false ty) (F s) (fun e he => (a6 trivial).1 e (h3.1.subset he)) ((a6 trivial).2.sublist (h3.1.map _)) (by rw [hr]; simp [isBox]) (fun h4 => by
            exact ⟨cs, arr, tyy, a1, a2, a3, a4, a5, by simp⟩)
          exact ⟨_, r1, r2, hmem r, by simp⟩
      · rw [if_neg hc] at ht; cases ht

end Go.Eng
namespace Go.Eng
open Go Go.RowKit

section
variable {c : Ctx} {F E : Nat → Foot} {B : Nat → Nat} {M : MF} {V : Env} {x : Nat → Value} {w w' : World}

def wrote (M : MF) (d : Nat) (e : SM) : MF := fun t => if t = d then e else M t
theorem wrote_same (M : MF) (d : Nat) (e : SM) : wrote M d e d = e := by simp [wrote]
theorem wrote_ne (M : MF) {d t : Nat} (e : SM) (h : t ≠ d) : wrote M d e t = M t := by simp [wrote, h]

/-- what a new value's mode asks -/
def NewR (c : Ctx) (F : Nat → Foot) (M : MF) (V : Env) (x : Nat → Value) (w : World) (d : Nat) (v' : PV) (x' : Value) (F' E' : Foot) (b' : Nat) : Md → Prop
  | .no => True
  | .sc => Rep w v' x' [] ∧ F' = []
  | .par => Rep w v' x' F' ∧ ∀ f ∈ F', f.1 < c.base ∧ f.1 ∉ c.ms
  | .ext => Rep w v' x' F'
  | .own dp => Rep w v' x' F' ∧ Owned dp F' E' ∧ (dp = false → True)
  | .via r n wh => r ≠ d ∧ Rep w v' x' F' ∧ n = (M r).c ∧ F'.Sublist (F r) ∧ (∀ u tv off sz, wh = .hole u tv off sz → u ≠ d) ∧ WhR M V x F w r v' x' F' wh
  | .tup tk => ∃ vs xs Fs, v' = .tup vs ∧ x' = .tuple xs ∧ Reps w vs xs.toList Fs ∧ F' = Fs.flatten ∧ (∀ e ∈ (keepIdx tk 0 Fs).flatten, e ∈ E') ∧ (F'.map (·.1)).Nodup
  | .box dp _ => ∃ cs arr ty, v' = .ptr cs ∧ x' = .pointer (some ⟨b', 0, none⟩) ∧ w.heap[b']? = some (.cells arr ty (0, 0)) ∧ arr.size = cs.length ∧
      RepL w cs arr.toList F' ∧ (dp = true → Owned true F' E')
  | .boxP _ => (∃ cs arr ty, v' = .ptr cs ∧ x' = .pointer (some ⟨b', 0, none⟩) ∧ w.heap[b']? = some (.cells arr ty (0, 0)) ∧ arr.size = cs.length ∧
      RepL w cs arr.toList F') ∧ ∀ f ∈ F', f.1 < c.base ∧ f.1 ∉ c.ms
  | .fr sz => ∃ els arr ty, v' = .lst sz false els ∧ x' = .slice (some ⟨b', 0, none⟩) els.length els.length ∧ w.heap[b']? = some (.cells arr ty (0, 0)) ∧ arr.size = els.length * sz ∧
      (∀ cs ∈ els, cs.length = sz) ∧ (∀ cs ∈ els, ∀ c ∈ cs, oneB c = true) ∧ RepL w els.flatten arr.toList F' ∧ Owned true F' E'
  | .mp => MapR w b' v' x' ∧ F' = []
  | .adS r n => r ≠ d ∧ n = (M r).v ∧ x' = x r
  | .adB r n off => r ≠ d ∧ n = (M r).v ∧ ∃ a, x r = .pointer (some a) ∧ a.spot = none ∧ x' = .pointer (some (a.add off))
  | .adE s n off sz => s ≠ d ∧ n = (M s).v ∧ ∃ a len cp i k, x s = .slice (some a) len cp ∧ a.spot = none ∧ v' = .int k (i : Nat) ∧ i < len ∧ x' = .pointer (some ((a.add (i * sz)).add off))

/-- where a cell that is read comes from: what is read already; a new block; what floats -/
def Src (F : Nat → Foot) (L : Foot) (w : World) (f : Nat × Nat) : Prop :=
  (∃ u, ∃ f' ∈ F u, f'.1 = f.1 ∧ f.2 ≤ f'.2) ∨ w.heap.size ≤ f.1 ∨ ∃ e ∈ L, e.1 = f.1

/-- a block of one's own that nothing is read from -/
def Lone (c : Ctx) (F : Nat → Foot) (B : Nat → Nat) (M : MF) (w' : World) (b : Nat) : Prop :=
  c.mine b ∧ b < w'.heap.size ∧ (∀ u f, f ∈ F u → f.1 ≠ b) ∧ ∀ t, isBox (M t).m = true → B t ≠ b
theorem Lone.fresh (h : RG c F E B M V x w) (hbs : c.base ≤ w.heap.size) {b : Nat} (h1 : w.heap.size ≤ b) (h2 : b < w'.heap.size) : Lone c F B M w' b :=
  ⟨.inl (Nat.le_trans hbs h1), h2, fun u f hf hh => by have := h.f1 u f hf; omega, fun t ht hh => by have := (h.b1 t ht).2.1; omega⟩

structure Moves (F E : Nat → Foot) (B : Nat → Nat) (M : MF) (w w' : World) : Prop where
  sz : w.heap.size ≤ w'.heap.size
  kp : ∀ t, Keeps w w' (F t)
  bx : ∀ t, isBox (M t).m = true → w'.heap[B t]? = w.heap[B t]?
  uf : ∀ t e, e ∈ E t → Unfrozen w' e.1

theorem Keeps.refl (w : World) (F : Foot) : Keeps w w F := fun _ _ => ⟨fun _ _ => rfl, fun arr _ fr hh => ⟨arr, fr, hh, rfl⟩⟩
theorem RG.still (h : RG c F E B M V x w) : Moves F E B M w w := ⟨Nat.le_refl _, fun _ => Keeps.refl _ _, fun _ _ => rfl, fun t e he => (h.e3 t e he).2⟩

theorem RG.putW (h : RG c F E B M V x w) {L : Foot} (hL : Free c F E w L) (hw : Moves F E B M w w') (hbs : c.base ≤ w.heap.size)
    (d : Nat) (m : Md) (G : GL) (v' : PV) (x' : Value) (F' E' : Foot) (b' : Nat)
    (hG : ∀ q ∈ G, q.1 ≠ d ∧ (M q.1).v = q.2.1)
    (how : mayOwn m = false → E' = [])
    (hy : (∀ q ∈ G, V q.1 = .bool q.2.2) → NewR c F M V x w' d v' x' F' E' b' m) (hn : ¬ (∀ q ∈ G, V q.1 = .bool q.2.2) → x' = undef)
    (hsrc : ∀ f ∈ F', (Src F L w f ∨ Lone c F B M w' f.1) ∧ f.1 < w'.heap.size)
    (hE : ∀ e ∈ E', (e ∈ F' ∧ c.mine e.1 ∧ Unfrozen w' e.1) ∧ ((w.heap.size ≤ e.1 ∨ ∃ e0 ∈ L, e0.1 = e.1 ∧ e0.2 ≤ e.2) ∨ Lone c F B M w' e.1) ∧ ∀ f ∈ F', f.1 = e.1 → f.2 ≤ e.2)
    (hnd : (E'.map (·.1)).Nodup)
    (hbx : isBox m = true → G = [] ∧ Lone c F B M w' b' ∧ ∀ f ∈ F', f.1 ≠ b') :
    RG c (setF F d F') (setF E d E') (setF B d b') (wrote M d ⟨m, (M d).v + 1, (M d).c + 1, G⟩) (V.upd d v') (setF x d x') w' := by
  refine h.put (E1 := E) d v' x' F' E' b' hw.sz (fun t _ => hw.kp t) (fun t _ => hw.bx t) (fun t e _ => hw.uf t e)
    ⟨by rw [wrote_same]; exact Nat.le_succ _, by rw [wrote_same]; exact Nat.lt_succ_self _, fun h0 => by rw [wrote_same] at h0; exact absurd h0 (Nat.ne_of_lt (Nat.lt_succ_self _))⟩
    (fun t ht => by rw [wrote_ne _ _ ht]; exact ⟨rfl, rfl, rfl⟩) (fun t ht => .inl ⟨by rw [wrote_ne _ _ ht], rfl⟩) ?_ (by rw [wrote_same]; exact how) ?_ ?_ hnd
    (fun e he => (hE e he).1.2) (fun e he => (hE e he).1.1) ?_ ?_ ?_ ?_
  · intro q hq
    rw [wrote_same] at hq
    refine ⟨(hG q hq).1, ?_⟩
    rw [wrote_ne _ _ (hG q hq).1]; exact Nat.le_of_eq (hG q hq).2.symm
  · rw [wrote_same]
    intro _
    refine ⟨fun hh => ?_, hn⟩
    have hp := hy hh
    cases m <;> simp only [NewR] at hp <;> simp only [SlotR, setF_same, upd_same]
    case sc => exact hp
    case par => exact hp
    case ext => exact hp
    case own dp => exact hp
    case tup tk => exact hp
    case box dp ty => exact hp
    case boxP ty => exact hp
    case mp => exact hp
    case via r n wh _ =>
      obtain ⟨h1, h2, h3, h4, h5, h6⟩ := hp
      rw [wrote_ne _ _ h1, setF_ne _ _ h1]
      refine ⟨h2, Nat.le_of_eq h3, fun _ => ⟨h4, ?_⟩⟩
      cases wh with
      | all => simp only [WhR, setF_ne _ _ h1, upd_ne _ _ h1] at h6 ⊢; exact h6
      | part => trivial
      | bx n => simp only [WhR, setF_ne _ _ h1, wrote_ne _ _ h1] at h6 ⊢; exact h6
      | hole u tv off sz =>
        have hu := h5 _ _ _ _ rfl
        simp only [WhR, setF_ne _ _ h1, upd_ne _ _ h1, wrote_ne _ _ hu, setF_ne _ _ hu] at h6 ⊢
        exact h6
    case fr sz => exact hp
    case adS r n =>
      obtain ⟨h1, h2, h3⟩ := hp
      rw [wrote_ne _ _ h1, setF_ne _ _ h1]
      exact ⟨Nat.le_of_eq h2, fun _ => h3⟩
    case adB r n off =>
      obtain ⟨h1, h2, h3⟩ := hp
      rw [wrote_ne _ _ h1, setF_ne _ _ h1]
      exact ⟨Nat.le_of_eq h2, fun _ => h3⟩
    case adE s n off sz =>
      obtain ⟨h1, h2, h3⟩ := hp
      rw [wrote_ne _ _ h1, setF_ne _ _ h1]
      exact ⟨Nat.le_of_eq h2, fun _ => h3⟩
  · intro e he t _ f hf hef
    rcases (hE e he).2.1 with (h1 | ⟨e0, he0, h1, _⟩) | hl
    · have := h.f1 t f (h.e4 t f hf); omega
    · exact hL.l1 e0 he0 t f hf (h1.trans hef)
    · exact hl.2.2.1 t f (h.e4 t f hf) hef.symm
  · intro e he
    refine ⟨fun u _ f hf hfe => ?_, (hE e he).2.2⟩
    rcases (hE e he).2.1 with (h1 | ⟨e0, he0, h1, h2⟩) | hl
    · have := h.f1 u f hf; omega
    · exact Nat.le_trans (hL.l5 e0 he0 u f hf (hfe.trans h1.symm)) h2
    · exact absurd hfe (hl.2.2.1 u f hf)
  · intro f hf
    obtain ⟨hs, hlt⟩ := hsrc f hf
    refine ⟨fun t _ e he hfe => ?_, fun t _ hbt => ?_, hlt⟩
    · rcases hs with (⟨u, f', hf', h1, h2⟩ | h1 | ⟨e0, he0, h1⟩) | hl
      · exact Nat.le_trans h2 (h.e5 t e he u f' hf' (h1.trans hfe))
      · have := h.f1 t e (h.e4 t e he); omega
      · exact absurd (h1.trans hfe) (hL.l1 e0 he0 t e he)
      · exact absurd hfe.symm (hl.2.2.1 t e (h.e4 t e he))
    · obtain ⟨_, b1, b2⟩ := h.b1 t hbt
      rcases hs with (⟨u, f', hf', h1, h2⟩ | h1 | ⟨e0, he0, h1⟩) | hl
      · rw [← h1]; exact b2 u f' hf'
      · omega
      · obtain ⟨u, hu⟩ := hL.l4 e0 he0; rw [← h1]; exact b2 u e0 hu
      · exact fun hh => hl.2.2.2 t hbt hh.symm
  · intro f hf
    rcases (hsrc f hf).1 with (⟨u, f', hf', h1, h2⟩ | h1 | ⟨e0, he0, h1⟩) | hl
    · rcases h.d1 u f' hf' with h3 | ⟨g, h3, h4, h5⟩
      · exact .inl (h1 ▸ h3)
      · exact .inr ⟨g, h3, h4.trans h1, Nat.le_trans h2 h5⟩
    · exact .inl (.inl (Nat.le_trans hbs h1))
    · exact .inl (h1 ▸ (hL.l3 e0 he0).1)
    · exact .inl hl.1
  · rw [wrote_same]
    intro hb
    obtain ⟨h1, h2, h5⟩ := hbx hb
    exact ⟨h1, h2.1, h2.2.1, fun u _ f hf => h2.2.2.1 u f hf, h5, fun t _ hbt => h2.2.2.2 t hbt⟩

end
end Go.Eng
namespace Go.Eng
open Go Go.RowKit

mutual
theorem Rep.sc {w : World} : ∀ {v x F}, Rep w v x F → scB v = true → F = []
  | _, _, _, .junk x, _ => rfl
  | _, _, _, .int k n, _ => rfl
  | _, _, _, .bool b, _ => rfl
  | _, _, _, .str s, _ => rfl
  | _, _, _, .nil sz, h => by simp [scB] at h
  | _, _, _, .lst .., h => by simp [scB] at h
  | _, _, _, .agg t, h => t.sc (by simpa [scB] using h)
  | _, _, _, .tup t, h => t.sc (by simpa [scB] using h)
  | _, _, _, .ptr .., h => by simp [scB] at h
  | _, _, _, .fn t, h => t.sc (by simpa [scB] using h)
theorem RepL.sc {w : World} : ∀ {v x F}, RepL w v x F → scL v = true → F = []
  | _, _, _, .nil, _ => rfl
  | _, _, _, .cons h t, hs => by
    simp only [scL, Bool.and_eq_true] at hs
    rw [h.sc hs.1, t.sc hs.2]; rfl
end

theorem RepL.append {w : World} : ∀ {vs xs F}, RepL w vs xs F → ∀ {vs' xs' F'}, RepL w vs' xs' F' → RepL w (vs ++ vs') (xs ++ xs') (F ++ F')
  | _, _, _, .nil, _, _, _, h => h
  | _, _, _, .cons h t, _, _, _, h' => by
    rw [List.append_assoc]; exact .cons h (t.append h')

theorem RepL.split {w : World} : ∀ (vs : List PV) {vs' : List PV} {xs F}, RepL w (vs ++ vs') xs F →
    ∃ xs1 xs2 F1 F2, xs = xs1 ++ xs2 ∧ F = F1 ++ F2 ∧ RepL w vs xs1 F1 ∧ RepL w vs' xs2 F2
  | [], _, xs, F, h => ⟨[], xs, [], F, rfl, rfl, .nil, h⟩
  | v :: vs, _, _, _, .cons h t => by
    obtain ⟨xs1, xs2, F1, F2, rfl, rfl, h1, h2⟩ := RepL.split vs t
    exact ⟨_ :: xs1, xs2, _ ++ F1, F2, rfl, by rw [List.append_assoc], .cons h h1, h2⟩

theorem RepL.take {w : World} {vs xs F} (n : Nat) (h : RepL w vs xs F) : ∃ F1, RepL w (vs.take n) (xs.take n) F1 ∧ F1.Sublist F := by
  rw [← List.take_append_drop n vs] at h
  obtain ⟨xs1, xs2, F1, F2, rfl, rfl, h1, h2⟩ := RepL.split _ h
  have hl := h1.length
  refine ⟨F1, ?_, List.sublist_append_left _ _⟩
  have : (xs1 ++ xs2).take n = xs1 := by
    rcases Nat.lt_or_ge n vs.length with hn | hn
    · rw [List.take_append_of_le_length (by rw [hl, List.length_take]; omega), List.take_of_length_le (by rw [hl, List.length_take]; omega)]
    · have h3 := h2.length
      have : xs2 = [] := List.eq_nil_of_length_eq_zero (by rw [h3, List.length_drop]; omega)
      subst this
      rw [List.append_nil, List.take_of_length_le (by rw [hl, List.length_take]; omega)]
  rw [this]; exact h1

theorem RepL.drop {w : World} {vs xs F} (n : Nat) (h : RepL w vs xs F) : ∃ F1, RepL w (vs.drop n) (xs.drop n) F1 ∧ F1.Sublist F := by
  rw [← List.take_append_drop n vs] at h
  obtain ⟨xs1, xs2, F1, F2, rfl, rfl, h1, h2⟩ := RepL.split _ h
  have hl := h1.length
  refine ⟨F2, ?_, List.sublist_append_right _ _⟩
  have : (xs1 ++ xs2).drop n = xs2 := by
    rcases Nat.lt_or_ge n vs.length with hn | hn
    · have hl' : xs1.length = n := by rw [hl, List.length_take]; omega
      rw [← hl', List.drop_left]
    · have h3 := h2.length
      have : xs2 = [] := List.eq_nil_of_length_eq_zero (by rw [h3, List.length_drop]; omega)
      subst this
      rw [List.append_nil, List.drop_of_length_le (by rw [hl, List.length_take]; omega)]
  rw [this]; exact h2

def subx (xs : List Value) (off n : Nat) : List Value := (xs.drop off).take n

theorem RepL.sub {w : World} {vs xs F} (off n : Nat) (h : RepL w vs xs F) : ∃ F1, RepL w (sub vs off n) (subx xs off n) F1 ∧ F1.Sublist F := by
  obtain ⟨F1, h1, s1⟩ := h.drop off
  obtain ⟨F2, h2, s2⟩ := h1.take n
  exact ⟨F2, h2, s2.trans s1⟩

theorem RepL.cons_inv {w : World} {v vs xs F} (h : RepL w (v :: vs) xs F) : ∃ x xs' F1 F2, xs = x :: xs' ∧ F = F1 ++ F2 ∧ Rep w v x F1 ∧ RepL w vs xs' F2 := by
  cases h with
  | cons h t => exact ⟨_, _, _, _, rfl, rfl, h, t⟩

theorem RepL.nil_inv {w : World} {xs F} (h : RepL w [] xs F) : xs = [] ∧ F = [] := by cases h; exact ⟨rfl, rfl⟩

theorem RepL.one {w : World} {v x F} (h : Rep w v x F) : RepL w [v] [x] F := by
  have := RepL.cons h .nil
  rwa [List.append_nil] at this

theorem Rep.cells {w : World} {v x F} (h : Rep w v x F) (hj : v ≠ .junk) : RepL w (cellsOf v) x.cells.toList F := by
  cases h with
  | junk => exact absurd rfl hj
  | agg t => simpa [cellsOf, Value.cells] using t
  | int | bool | str | nil => exact .one (by constructor)
  | emp sz a => exact .one (.emp sz a)
  | tup t => exact .one (.tup t)
  | fn t => exact .one (.fn t)
  | lst a b c d e f => exact .one (.lst a b c d e f)
  | ptr a b c => exact .one (.ptr a b c)

def valOfX (agg : Bool) (xs : List Value) : Value := if agg then .agg xs.toArray else xs.headD undef

theorem RepL.valOf {w : World} {cs xs F} (h : RepL w cs xs F) (agg : Bool) (ha : agg = true ∨ cs.length = 1) : Rep w (valOf agg cs) (valOfX agg xs) F := by
  cases agg with
  | true => exact .agg h
  | false =>
    have hc : cs.length = 1 := by simpa using ha
    match cs, hc with
    | [v], _ =>
      obtain ⟨x, xs', F1, F2, rfl, rfl, h1, h2⟩ := h.cons_inv
      obtain ⟨rfl, rfl⟩ := h2.nil_inv
      rw [List.append_nil]
      simpa [Go.Eng.valOf, valOfX] using h1

/-- one element of a list of rows -/
theorem flatten_get {α : Type} {sz : Nat} : ∀ {els : List (List α)}, (∀ cs ∈ els, cs.length = sz) → ∀ (i : Nat), (els.flatten.drop (i * sz)).take sz = (els[i]?).getD []
  | [], _, i => by simp
  | c :: r, h, 0 => by
    have h1 := h c (by simp)
    simp [← h1]
  | c :: r, h, i + 1 => by
    have h1 := h c (by simp)
    have ih := flatten_get (els := r) (fun cs hc => h cs (by simp [hc])) i
    rw [Nat.succ_mul, Nat.add_comm, ← List.drop_drop]
    simp only [List.flatten_cons]
    rw [show List.drop sz (c ++ r.flatten) = r.flatten from by rw [← h1]; exact List.drop_left]
    rw [ih]; simp

theorem sub_sub {α : Type} (l : List α) (i sz off n : Nat) (h : off + n ≤ sz) : (((l.drop i).take sz).drop off).take n = (l.drop (i + off)).take n := by
  rw [List.drop_take, List.take_take, List.drop_drop, Nat.min_eq_left (by omega)]

/-! ### the types' table -/

def zOK : List Value → List PV → Bool
  | [], [] => true
  | .int k n :: xs, .int k' n' :: vs => k == k' && n == n' && zOK xs vs
  | .bool b :: xs, .bool b' :: vs => b == b' && zOK xs vs
  | .string s :: xs, .str s' :: vs => s.data.toList == s'.data.toList && zOK xs vs
  | .slice none 0 0 :: xs, .lst _ true [] :: vs => zOK xs vs
  | _, _ => false

theorem zOK.rep {w : World} : ∀ {xs : List Value} {vs : List PV}, zOK xs vs = true → RepL w vs xs []
  | [], [], _ => .nil
  | .int k n :: xs, .int k' n' :: vs, h => by
    simp only [zOK, Bool.and_eq_true, beq_iff_eq] at h
    obtain ⟨⟨rfl, rfl⟩, h3⟩ := h
    exact .cons (.int k n) (zOK.rep h3)
  | .bool b :: xs, .bool b' :: vs, h => by
    simp only [zOK, Bool.and_eq_true, beq_iff_eq] at h
    obtain ⟨rfl, h3⟩ := h
    exact .cons (.bool b) (zOK.rep h3)
  | .string s :: xs, .str s' :: vs, h => by
    simp only [zOK, Bool.and_eq_true, beq_iff_eq] at h
    obtain ⟨h1, h3⟩ := h
    have : s = s' := by cases s; cases s'; congr; exact Array.ext' h1
    subst this
    exact .cons (.str s) (zOK.rep h3)
  | .slice none 0 0 :: xs, .lst sz true [] :: vs, h => by
    simp only [zOK] at h
    exact .cons (.nil sz) (zOK.rep h)

/-! maps from points to numbers -/
def intB (P : Program) (t : Nat) : Bool := match P.underlying t with | some (.int .i64) => true | _ => false
def zeroB (P : Program) (t : Nat) : Bool := match P.info? t with | some j => (match j.zero with | some (.int .i64 0) => true | _ => false) | none => false
def ptKeyB (P : Program) (K : Nat) : Bool := match P.underlying K with
  | some (.struct fs) => (match fs.toList with
    | [f0, f1] => f0.offset == 0 && f1.offset == 1 && f0.name != "_" && f1.name != "_" && intB P f0.type && intB P f1.type
    | _ => false)
  | _ => false
def mapB (P : Program) (T : Nat) : Bool := match P.underlying T with
  | some (.map K E) => !P.stoodInHeld K && ptKeyB P K && intB P E && zeroB P E
  | _ => false


def kindOK (P : Program) (t : Nat) : TK → Bool
  | .int k => (match P.underlying t with | some (.int k') => k == k' | _ => false)
  | .bool => (match P.underlying t with | some .bool => true | _ => false)
  | .str => (match P.underlying t with | some .string => true | _ => false)
  | .slice e => (match P.underlying t with | some (.slice e') => e == e' | _ => false)
  | .struct fl => (match P.underlying t with | some (.struct fs) => fs.toList.map (fun f => (f.offset, f.type)) == fl | _ => false)
  | .arr n e => (match P.underlying t with | some (.array n' e') => n == n' && e == e' | _ => false)
  | .ptr e => (match P.underlying t with | some (.pointer e') => e == e' | _ => false)
  | .func | .tup _ | .other => true
  | .mapP => mapB P t

/-- '==' at this struct is '==' at its fields -/
def eqB (P : Program) (t : Nat) : Bool := !P.stoodInHeld t && !P.eqGuardType P.depth t &&
  (match P.underlying t with | some (.struct fs) => fs.toList.all fun f => f.name != "_" | _ => false)

def tiB (P : Program) (t : Nat) (i : TI) : Bool :=
  (!i.q || eqB P t) && kindOK P t i.k && (match i.k with
    | .func | .tup _ | .other | .mapP => true
    | _ => (match P.info? t with
      | some j => j.size == i.sz && j.bytes == i.b && (match j.zero with
        | some z => !i.z.all plainZ || (zOK z.cells.toList i.z && z.cells.size == i.sz)
        | none => !i.z.all plainZ)
      | none => false))

def tabB (P : Program) : Nat → List (Option TI) → Bool
  | _, [] => true
  | t, o :: r => (match o with | some i => tiB P t i | none => true) && tabB P (t + 1) r

theorem tabB.get {P : Program} : ∀ {l : List (Option TI)} {k : Nat}, tabB P k l = true → ∀ {t i}, l[t]? = some (some i) → tiB P (k + t) i = true
  | o :: r, k, h, 0, i, ht => by
    simp only [tabB, Bool.and_eq_true] at h
    simp at ht; subst ht; exact h.1
  | o :: r, k, h, t + 1, i, ht => by
    simp only [tabB, Bool.and_eq_true] at h
    have := tabB.get h.2 (t := t) (i := i) (by simpa using ht)
    rwa [show k + 1 + t = k + (t + 1) by omega] at this

def TabOK (P : Program) (X : Cx) : Prop := ∀ t i, X.ti t = some i → tiB P t i = true

theorem TabOK.of {P : Program} {X : Cx} (h : tabB P 0 X.tab = true) : TabOK P X := by
  intro t i hi
  have : X.tab[t]? = some (some i) := by
    unfold Cx.ti at hi
    cases hh : X.tab[t]? with
    | none => rw [hh] at hi; simp at hi
    | some o => rw [hh] at hi; simp at hi; rw [hi]
  have := tabB.get h this
  simpa using this

theorem tiB.kind {P : Program} {t : Nat} {i : TI} (h : tiB P t i = true) : kindOK P t i.k = true := by
  simp only [tiB, Bool.and_eq_true] at h; exact h.1.2

theorem tiB.eq {P : Program} {t : Nat} {i : TI} (h : tiB P t i = true) (hq : i.q = true) : eqB P t = true := by
  simp only [tiB, Bool.and_eq_true] at h; simpa [hq] using h.1.1

theorem tiB.info {P : Program} {t : Nat} {i : TI} (h : tiB P t i = true) (hk : i.k.data = true) :
    ∃ j, P.info? t = some j ∧ j.size = i.sz ∧ j.bytes = i.b ∧ (i.z.all plainZ = true → ∃ z, j.zero = some z ∧ zOK z.cells.toList i.z = true ∧ z.cells.size = i.sz) := by
  simp only [tiB, Bool.and_eq_true] at h
  obtain ⟨_, h⟩ := h
  cases hk' : i.k <;> rw [hk'] at h
  case func => rw [hk'] at hk; cases hk
  case tup ts => rw [hk'] at hk; cases hk
  case other => rw [hk'] at hk; cases hk
  case mapP => rw [hk'] at hk; cases hk
  all_goals
    (cases hj : P.info? t with
    | none => rw [hj] at h; simp at h
    | some j =>
      rw [hj] at h
      simp only [Bool.and_eq_true, beq_iff_eq] at h
      refine ⟨j, rfl, h.1.1, h.1.2, fun hz => ?_⟩
      have h2 := h.2
      cases hz0 : j.zero with
      | none => rw [hz0] at h2; simp [hz] at h2
      | some z => rw [hz0] at h2; exact ⟨z, rfl, by simpa [hz] using h2⟩)

theorem run_sizeOf {P : Program} {w : World} {t : Nat} {j : TypeInfo} (h : P.info? t = some j) : (sizeOf t).run P w = .ok j.size w := by
  simp [sizeOf, typeInfo, h]

theorem run_isAgg {P : Program} {w : World} {t : Nat} {i : TI} (h : tiB P t i = true) (hk : i.k.data = true) :
    (isAgg t).run P w = .ok i.k.agg w := by
  have hk2 := tiB.kind h
  cases hi : i.k <;> rw [hi] at hk2 <;> simp only [kindOK] at hk2
  case func => rw [hi] at hk; cases hk
  case tup ts => rw [hi] at hk; cases hk
  case other => rw [hi] at hk; cases hk
  case mapP => rw [hi] at hk; cases hk
  all_goals
    (cases hu : P.underlying t with
    | none => rw [hu] at hk2; simp at hk2
    | some d => rw [hu] at hk2; cases d <;> simp at hk2 <;> simp [isAgg, run_underlying hu, TK.agg])

end Go.Eng
namespace Go.Eng
open Go Go.RowKit

abbrev Act.x (a : Act) : Nat → Value := fun t => a.tmps.getD t undef

structure Pre (P : Program) (X : Cx) (c : Ctx) (F E : Nat → Foot) (B : Nat → Nat) (M M' : MF) (V : Env) (a : Act) (w : World) (G : GL) : Prop where
  tb : TabOK P X
  rg : RG c F E B M V (Act.x a) w
  sb : ∀ t, M' t = M t ∨ M' t = {}
  gl : ∀ q ∈ G, (M q.1).v = q.2.1
  gh : ∀ q ∈ G, V q.1 = .bool q.2.2
  bs : c.base ≤ w.heap.size

/-- the new value can be put into its slot -/
def Fin (c : Ctx) (F E : Nat → Foot) (B : Nat → Nat) (M : MF) (V : Env) (x : Nat → Value) (w w' : World) (d : Nat) (m : Md) (dem : List (Nat × Md)) (v' : PV) (xv : Value) : Prop :=
  ∃ E1 L F' E' b', RG c F E1 B (addDem dem M) V x w ∧ Free c F E1 w L ∧ Moves F E1 B (addDem dem M) w w' ∧ NewR c F (addDem dem M) V x w' d v' xv F' E' b' m ∧
    (mayOwn m = false → E' = []) ∧ (∀ f ∈ F', (Src F L w f ∨ Lone c F B (addDem dem M) w' f.1) ∧ f.1 < w'.heap.size) ∧
    (∀ e ∈ E', (e ∈ F' ∧ c.mine e.1 ∧ Unfrozen w' e.1) ∧ ((w.heap.size ≤ e.1 ∨ ∃ e0 ∈ L, e0.1 = e.1 ∧ e0.2 ≤ e.2) ∨ Lone c F B (addDem dem M) w' e.1) ∧ ∀ f ∈ F', f.1 = e.1 → f.2 ≤ e.2) ∧
    ((E'.map (·.1)).Nodup) ∧ (isBox m = true → Lone c F B (addDem dem M) w' b' ∧ ∀ f ∈ F', f.1 ≠ b')
/-- .. no block is taken over -/
def Fin0 (c : Ctx) (F E : Nat → Foot) (B : Nat → Nat) (M : MF) (V : Env) (x : Nat → Value) (w w' : World) (d : Nat) (m : Md) (dem : List (Nat × Md)) (v' : PV) (xv : Value) : Prop :=
  ∃ E1 L F' E' b', RG c F E1 B (addDem dem M) V x w ∧ Free c F E1 w L ∧ Moves F E1 B (addDem dem M) w w' ∧ NewR c F (addDem dem M) V x w' d v' xv F' E' b' m ∧
    (mayOwn m = false → E' = []) ∧ (∀ f ∈ F', Src F L w f ∧ f.1 < w'.heap.size) ∧
    (∀ e ∈ E', (e ∈ F' ∧ c.mine e.1 ∧ Unfrozen w' e.1) ∧ (w.heap.size ≤ e.1 ∨ ∃ e0 ∈ L, e0.1 = e.1 ∧ e0.2 ≤ e.2) ∧ ∀ f ∈ F', f.1 = e.1 → f.2 ≤ e.2) ∧
    ((E'.map (·.1)).Nodup) ∧ (isBox m = true → c.base ≤ w.heap.size ∧ w.heap.size ≤ b' ∧ c.mine b' ∧ b' < w'.heap.size ∧ ∀ f ∈ F', f.1 ≠ b')
theorem Fin0.fin {c : Ctx} {F E : Nat → Foot} {B : Nat → Nat} {M : MF} {V : Env} {x : Nat → Value} {w w' : World} {d : Nat} {m : Md} {dem : List (Nat × Md)} {v' : PV} {xv : Value}
    (h : Fin0 c F E B M V x w w' d m dem v' xv) : Fin c F E B M V x w w' d m dem v' xv := by
  obtain ⟨E1, L, F', E', b', r1, f1, hmv, hn, how, hsrc, hE, hnd, hb⟩ := h
  exact ⟨E1, L, F', E', b', r1, f1, hmv, hn, how, fun f hf => ⟨.inl (hsrc f hf).1, (hsrc f hf).2⟩, fun e he => ⟨(hE e he).1, .inl (hE e he).2.1, (hE e he).2.2⟩, hnd,
    fun hbx => ⟨Lone.fresh r1 (hb hbx).1 (hb hbx).2.1 (hb hbx).2.2.2.1, (hb hbx).2.2.2.2⟩⟩

section
variable {P : Program} {X : Cx} {c : Ctx} {F E : Nat → Foot} {B : Nat → Nat} {M M' : MF} {V : Env} {a : Act} {w w' : World} {G : GL}

theorem Fin.pure (h : RG c F E B M V (Act.x a) w) {d : Nat} {m : Md} {v' : PV} {xv : Value} (F' : Foot) (hn : NewR c F M V (Act.x a) w d v' xv F' [] 0 m)
    (hb : isBox m = false) (hd : Dom F F') : Fin c F E B M V (Act.x a) w w d m [] v' xv := by
  refine Fin0.fin ⟨E, [], F', [], 0, by rw [addDem_nil]; exact h, Free.nil, by rw [addDem_nil]; exact h.still, by rw [addDem_nil]; exact hn, fun _ => rfl, fun f hf => ?_, by simp, by simp, by simp [hb]⟩
  obtain ⟨u, f', h1, h2, h3⟩ := hd f hf
  exact ⟨.inl ⟨u, f', h1, h2, h3⟩, by rw [← h2]; exact h.f1 u f' h1⟩

theorem Dom.nil : Dom F [] := fun _ h => by cases h
theorem Dom.sub {G1 G2 : Foot} (h : Dom F G1) (hs : G2.Sublist G1) : Dom F G2 := fun f hf => h f (hs.subset hf)

theorem cst_rep {v : Value} {p : PV} (h : cst v = some p) : Rep w p v [] := by
  cases v <;> simp [cst] at h <;> subst h <;> constructor

theorem Pre.op_ (h : Pre P X c F E B M M' V a w G) {o : Operand} {x' : Opd} (ho : opd M' G o = some x') : ∃ Fx, OpR c F E B M V (Act.x a) w x' (a.eval o) Fx := by
  cases o with
  | tmp t =>
    simp only [Go.Eng.opd] at ho
    split at ho
    · rename_i hc
      simp only [Bool.and_eq_true] at hc
      simp only [Option.some.injEq] at ho
      subst ho
      have hM : M' t = M t := by
        rcases h.sb t with h1 | h1
        · exact h1
        · rw [h1] at hc; exact absurd hc.1 (by decide)
      rw [hM] at hc
      refine ⟨F t, hc.1, ?_, rfl, rfl⟩
      have hg : ∀ q ∈ (M t).g, q ∈ G := by
        intro q hq
        have := List.all_eq_true.1 hc.2 q hq
        simpa using this
      exact ((h.rg.en t).sl (fun q hq => h.gl q (hg q hq))).1 (fun q hq => h.gh q (hg q hq))
    · cases ho
  | const v =>
    simp only [Go.Eng.opd] at ho
    cases hc : cst v with
    | none => rw [hc] at ho; simp at ho
    | some p => rw [hc] at ho; simp at ho; subst ho; exact ⟨[], cst_rep hc, rfl⟩
  | global => simp [Go.Eng.opd] at ho
  | func f => simp only [Go.Eng.opd, Option.some.injEq] at ho; subst ho; exact ⟨[], .fn .nil, rfl⟩

theorem Pre.md (h : Pre P X c F E B M M' V a w G) {o : Operand} {x' : Opd} (ho : opd M' G o = some x') : x'.md M' = x'.md M := by
  cases o with
  | tmp t =>
    simp only [Go.Eng.opd] at ho
    split at ho
    · rename_i hc
      simp only [Bool.and_eq_true] at hc
      simp only [Option.some.injEq] at ho
      subst ho
      rcases h.sb t with h1 | h1
      · simp [Opd.md, h1]
      · rw [h1] at hc; exact absurd hc.1 (by decide)
    · cases ho
  | const v =>
    simp only [Go.Eng.opd] at ho
    cases hc : cst v with
    | none => rw [hc] at ho; simp at ho
    | some p => rw [hc] at ho; simp at ho; subst ho; rfl
  | global => simp [Go.Eng.opd] at ho
  | func f => simp only [Go.Eng.opd, Option.some.injEq] at ho; subst ho; rfl

/-- inversions -/
theorem Rep.int_inv {k : IntKind} {n : Int} {x : Value} {F : Foot} (h : Rep w (.int k n) x F) : x = .int k n ∧ F = [] := by cases h; exact ⟨rfl, rfl⟩
theorem Rep.bool_inv {b : Bool} {x : Value} {F : Foot} (h : Rep w (.bool b) x F) : x = .bool b ∧ F = [] := by cases h; exact ⟨rfl, rfl⟩
theorem Rep.str_inv {s : ByteArray} {x : Value} {F : Foot} (h : Rep w (.str s) x F) : x = .string s ∧ F = [] := by cases h; exact ⟨rfl, rfl⟩

/-- a value of plain data in a slot -/
theorem fin_sc (h : Pre P X c F E B M M' V a w G) {d : Nat} {v' : PV} {xv : Value} (hr : Rep w v' xv []) : Fin c F E B M V (Act.x a) w w d .sc [] v' xv :=
  Fin.pure h.rg [] ⟨hr, rfl⟩ rfl Dom.nil

/-! #### numbers -/

theorem run_eqGuard_plain (op : BinOp) (t : TypeId) (ox oy : Operand) {x y : Value} (h : ∀ cs ds, (x, y) ≠ (.agg cs, .agg ds)) (h' : (x, y) ≠ (.nilIface, .nilIface)) :
    (eqGuard op t ox oy x y).run P w = .ok () w := by
  unfold eqGuard
  cases op <;> try rfl
  all_goals
    simp only [Bool.not_true, Bool.false_eq_true, if_false]
    cases x <;> cases y <;> first | rfl | exact absurd rfl (h _ _) | exact absurd rfl h' | skip

theorem bytes_beq (a b : ByteArray) : (a.toList == b.toList) = decide (a = b) := by
  rw [ByteArray.toList_eq, ByteArray.toList_eq]
  by_cases h : a = b
  · subst h; simp
  · rw [decide_eq_false h]
    apply beq_eq_false_iff_ne.2
    intro h0
    apply h
    cases a; cases b; congr; exact Array.ext' h0

theorem bin_run (op : BinOp) (t : TypeId) (ox oy : Operand) {x y : PV} {xv yv : Value} {F1 F2 : Foot} (h1 : Rep w x xv F1) (h2 : Rep w y yv F2) (hok : binOK op x y) :
    ∃ r, ((do eqGuard op t ox oy xv yv; binOp op t xv yv : Sem Value)).run P w = .ok r w ∧ Rep w (binV op x y) r [] := by
  cases x <;> cases y <;> simp only [binOK] at hok
  case int.int k a k' b =>
    obtain ⟨rfl, _⟩ := h1.int_inv
    obtain ⟨rfl, _⟩ := h2.int_inv
    have hg := run_eqGuard_plain (P := P) (w := w) op t ox oy (x := .int k a) (y := .int k' b) (by simp) (by simp)
    have hd : (a == b) = decide (a = b) := by by_cases h : a = b <;> simp [h]
    have hn : (a != b) = !decide (a = b) := by rw [← hd]; rfl
    cases op <;> simp only at hok
    case quo =>
      obtain ⟨rfl, hb⟩ := hok
      exact ⟨.int k (k.wrap (a.tdiv b)), by simp [Sem.run_bind, hg, Result.andThen, binOp, Op.intDiv, hb], by simp only [binV]; constructor⟩
    case rem =>
      obtain ⟨rfl, hb⟩ := hok
      exact ⟨.int k (a.tmod b), by simp [Sem.run_bind, hg, Result.andThen, binOp, Op.intDiv, hb], by simp only [binV]; constructor⟩
    all_goals
      subst hok
      refine ⟨_, by simp only [Sem.run_bind, hg, Result.andThen, binOp, Op.intArith, Op.intCmp, ne_eq, not_true_eq_false, if_false]; rfl, ?_⟩
      simp only [binV]
      first | exact .int _ _ | (rw [hd]; exact .bool _) | (rw [hn]; exact .bool _) | exact .bool _
  case str.str a b =>
    obtain ⟨rfl, _⟩ := h1.str_inv
    obtain ⟨rfl, _⟩ := h2.str_inv
    have hg := run_eqGuard_plain (P := P) (w := w) op t ox oy (x := .string a) (y := .string b) (by simp) (by simp)
    cases op <;> simp only at hok
    case add =>
      refine ⟨.string (a ++ b), ?_, by simp only [binV]; constructor⟩
      simp only [Sem.run_bind, hg, Result.andThen, binOp, Op.stringOp]
      rw [if_neg (by
        have : IntKind.i64.max = 9223372036854775807 := by decide
        rw [this]; omega)]
      rfl
    all_goals
      refine ⟨_, by simp only [Sem.run_bind, hg, Result.andThen, binOp, Op.stringOp]; rfl, ?_⟩
      simp only [binV, bytes_beq]
      exact .bool _
  all_goals exact hok.elim

theorem beq_run (ng : Bool) (t : TypeId) (ox oy : Operand) {x y : PV} {xv yv : Value} {F1 F2 : Foot} (h1 : Rep w x xv F1) (h2 : Rep w y yv F2) (hx : isBool x = true) (hy : isBool y = true) (hu : P.underlying t = some .bool) :
    ((do eqGuard (if ng then .neq else .eql) t ox oy xv yv; binOp (if ng then .neq else .eql) t xv yv : Sem Value)).run P w = .ok (.bool (if ng then x.isT != y.isT else x.isT == y.isT)) w := by
  cases x <;> simp [isBool] at hx
  cases y <;> simp [isBool] at hy
  rename_i a b
  obtain ⟨rfl, _⟩ := h1.bool_inv
  obtain ⟨rfl, _⟩ := h2.bool_inv
  cases ng
  · have hg := run_eqGuard_plain (P := P) (w := w) .eql t ox oy (x := .bool a) (y := .bool b) (by simp) (by simp)
    simp [Sem.run_bind, hg, Result.andThen, binOp, Op.equal, Op.maxDepth, run_equalIn_bool w _ t a b hu, PV.isT]
  · have hg := run_eqGuard_plain (P := P) (w := w) .neq t ox oy (x := .bool a) (y := .bool b) (by simp) (by simp)
    simp [Sem.run_bind, hg, Result.andThen, binOp, Op.equal, Op.maxDepth, run_equalIn_bool w _ t a b hu, PV.isT]
    cases a <;> cases b <;> rfl

end
end Go.Eng
namespace Go.Eng
open Go Go.RowKit
set_option linter.unusedSimpArgs false
set_option linter.unusedVariables false

section
variable {P : Program} {X : Cx} {c : Ctx} {F E : Nat → Foot} {B : Nat → Nat} {M M' : MF} {V : Env} {a : Act} {w w' : World} {G : GL}

theorem run_v {s : Sem Value} {r : Value} (h : s.run P w = .ok r w') : (do let y ← s; pure (Next.value y) : Sem Next).run P w = .ok (.value r) w' := by
  simp [Sem.run_bind, h, Result.andThen]

theorem sb_ne {M M' : MF} (hs : ∀ t, M' t = M t ∨ M' t = {}) {t : Nat} (h : (M' t).m ≠ .no) : M' t = M t := by
  rcases hs t with h1 | h1
  · exact h1
  · rw [h1] at h; exact absurd rfl h

theorem opd_same {M' : MF} (hs : ∀ t, M' t = M t ∨ M' t = {}) {o : Operand} {s : Nat} (ho : opd M' G o = some (.t s)) : M' s = M s := by
  cases o with
  | tmp t =>
    simp only [Go.Eng.opd] at ho
    split at ho
    · rename_i hc
      simp only [Bool.and_eq_true] at hc
      simp only [Option.some.injEq, Opd.t.injEq] at ho
      subst ho
      refine sb_ne hs (fun h0 => ?_)
      rw [h0] at hc; exact absurd hc.1 (by decide)
    · cases ho
  | const v => simp only [Go.Eng.opd] at ho; cases hc : cst v <;> rw [hc] at ho <;> simp at ho
  | global => simp [Go.Eng.opd] at ho
  | func => simp [Go.Eng.opd] at ho

theorem viaM_cases (hs : ∀ t, M' t = M t ∨ M' t = {}) (r n : Nat) (wh : Wh) : viaM M' r n wh = .ext ∨ (viaM M' r n wh = .via r n wh ∧ n = (M r).c) := by
  unfold viaM
  split
  · rename_i h
    simp only [Bool.and_eq_true, beq_iff_eq, bne_iff_ne] at h
    right; refine ⟨rfl, ?_⟩
    rw [← sb_ne hs h.2]; exact h.1.symm
  · exact .inl rfl

/-- a copy -/
theorem fin_copy (h : Pre P X c F E B M M' V a w G) {o : Operand} {x' : Opd} (ho : opd M' G o = some x') {d : Nat} (hr : rootOK d (copyM M' x') = true) :
    Fin c F E B M V (Act.x a) w w d (copyM M' x') [] (x'.val V) (a.eval o) := by
  obtain ⟨Fx, hx⟩ := h.op_ ho
  have hrep := hx.rep
  have hdom := hx.dom
  cases x' with
  | c v => obtain ⟨_, rfl⟩ := hx; exact fin_sc h hrep
  | t s =>
    have hM := opd_same h.sb ho
    obtain ⟨h1, h2, h3, h4⟩ := hx
    rw [h3] at hrep ⊢; subst h4
    simp only [copyM, hM] at hr ⊢
    cases hm : (M s).m <;> rw [hm] at h1 h2 hr <;> simp [vlike] at h1
    case sc => simp only [hm]; exact Fin.pure h.rg [] ⟨h2.1, rfl⟩ rfl Dom.nil
    case par => simp only [hm]; exact Fin.pure h.rg (F s) h2 rfl hdom
    case ext => simp only [hm]; exact Fin.pure h.rg (F s) h2 rfl hdom
    case own dp =>
      simp only [rootOK, bne_iff_ne] at hr
      exact Fin.pure h.rg (F s) ⟨hr, hrep, rfl, List.Sublist.refl _, (fun _ _ _ _ hh => by cases hh), rfl, rfl, rfl⟩ rfl hdom
    case via r n wh =>
      simp only [] at hr ⊢
      rcases viaM_cases h.sb r n wh with h5 | ⟨h5, h6⟩
      · rw [h5]; exact Fin.pure h.rg (F s) hrep rfl hdom
      · rw [h5] at hr ⊢
        have h7 := h2.2.2 h6.symm
        have hr2 : r ≠ d ∧ ∀ u tv off sz, wh = .hole u tv off sz → u ≠ d := by
          cases wh with
          | hole u tv off sz => simp only [rootOK, Bool.and_eq_true, bne_iff_ne] at hr; exact ⟨hr.1, fun u' _ _ _ hh => by simp only [Wh.hole.injEq] at hh; rw [← hh.1]; exact hr.2⟩
          | all => simp only [rootOK, bne_iff_ne] at hr; exact ⟨hr, fun _ _ _ _ hh => by cases hh⟩
          | part => simp only [rootOK, bne_iff_ne] at hr; exact ⟨hr, fun _ _ _ _ hh => by cases hh⟩
          | bx n => simp only [rootOK, bne_iff_ne] at hr; exact ⟨hr, fun _ _ _ _ hh => by cases hh⟩
        exact Fin.pure h.rg (F s) ⟨hr2.1, hrep, h6, h7.1, hr2.2, h7.2⟩ rfl hdom

/-- a part -/
theorem fin_part (h : Pre P X c F E B M M' V a w G) {x' : Opd} {xv0 : Value} {Fx : Foot} (hx : OpR c F E B M V (Act.x a) w x' xv0 Fx)
    (hM : ∀ s, x' = .t s → M' s = M s) {d : Nat} (hr : rootOK d (partM M' x') = true) {v' : PV} {xv : Value} {F' : Foot} (hrep : Rep w v' xv F') (hsub : F'.Sublist Fx) :
    Fin c F E B M V (Act.x a) w w d (partM M' x') [] v' xv := by
  have hdom := hx.dom.sub hsub
  cases x' with
  | c v =>
    obtain ⟨_, rfl⟩ := hx
    have : F' = [] := List.sublist_nil.1 hsub
    subst this; exact fin_sc h hrep
  | t s =>
    have hM := hM s rfl
    obtain ⟨h1, h2, h3, h4⟩ := hx
    subst h4
    simp only [partM, hM] at hr ⊢
    cases hm : (M s).m <;> rw [hm] at h1 h2 hr <;> simp [vlike] at h1
    case sc =>
      simp only [hm]
      have : F' = [] := List.sublist_nil.1 (h2.2 ▸ hsub)
      subst this; exact fin_sc h hrep
    case par => simp only [hm]; exact Fin.pure h.rg F' ⟨hrep, fun f hf => h2.2 f (hsub.subset hf)⟩ rfl hdom
    case ext => simp only [hm]; exact Fin.pure h.rg F' hrep rfl hdom
    case own dp =>
      cases dp
      · exact Fin.pure h.rg F' hrep rfl hdom
      · simp only [rootOK, bne_iff_ne] at hr
        exact Fin.pure h.rg F' ⟨hr, hrep, rfl, hsub, (fun _ _ _ _ hh => by cases hh), trivial⟩ rfl hdom
    case via r n wh =>
      simp only [] at hr ⊢
      rcases viaM_cases h.sb r n .part with h5 | ⟨h5, h6⟩
      · rw [h5]; exact Fin.pure h.rg F' hrep rfl hdom
      · rw [h5] at hr ⊢
        simp only [rootOK, bne_iff_ne] at hr
        have h7 := h2.2.2 h6.symm
        exact Fin.pure h.rg F' ⟨hr, hrep, h6, hsub.trans h7.1, (fun _ _ _ _ hh => by cases hh), trivial⟩ rfl hdom

/-- plain data, or a part -/
theorem fin_flat (h : Pre P X c F E B M M' V a w G) {x' : Opd} {xv0 : Value} {Fx : Foot} (hx : OpR c F E B M V (Act.x a) w x' xv0 Fx)
    (hM : ∀ s, x' = .t s → M' s = M s) {d : Nat} {fl : Bool} (hr : rootOK d (if fl = true then .sc else partM M' x') = true) {v' : PV} {xv : Value} {F' : Foot} (hrep : Rep w v' xv F') (hsub : F'.Sublist Fx)
    (hs : fl = true → scB v' = true) :
    Fin c F E B M V (Act.x a) w w d (if fl = true then .sc else partM M' x') [] v' xv := by
  cases fl with
  | true =>
    have : F' = [] := hrep.sc (hs rfl)
    subst this; exact fin_sc h hrep
  | false => exact fin_part h hx hM hr hrep hsub

end
end Go.Eng
namespace Go.Eng
open Go Go.RowKit
set_option linter.unusedSimpArgs false
set_option linter.unusedVariables false

section
variable {P : Program} {X : Cx} {c : Ctx} {F E : Nat → Foot} {B : Nat → Nat} {M M' : MF} {V : Env} {a : Act} {w w' : World} {G : GL}

theorem add_add {b : Addr} (hs : b.spot = none) (i j : Nat) : (b.add i).add j = b.add (i + j) := by
  rw [addr_add_plain hs i, addr_add_plain rfl j, addr_add_plain hs (i + j), Nat.add_assoc]

theorem isLst_inv {sz : Nat} {v : PV} (h : isLst sz v = true) : ∃ nl l, v = .lst sz nl l := by
  cases v <;> simp [isLst] at h
  subst h; exact ⟨_, _, rfl⟩
theorem isInt_inv {v : PV} (h : isInt v = true) : ∃ k n, v = .int k n := by cases v <;> simp [isInt] at h; exact ⟨_, _, rfl⟩
theorem isBool_inv {v : PV} (h : isBool v = true) : ∃ b, v = .bool b := by cases v <;> simp [isBool] at h; exact ⟨_, rfl⟩
theorem isStr_inv {v : PV} (h : isStr v = true) : ∃ s, v = .str s := by cases v <;> simp [isStr] at h; exact ⟨_, rfl⟩

/-- a list in memory, opened -/
theorem Rep.lst_inv {sz : Nat} {nl : Bool} {l : List (List PV)} {x : Value} {F' : Foot} (h : Rep w (.lst sz nl l) x F') :
    (x = .slice none 0 0 ∧ nl = true ∧ l = [] ∧ F' = []) ∨ (∃ b, x = .slice (some b) 0 0 ∧ nl = false ∧ l = [] ∧ F' = []) ∨
    ∃ b cp xs G', x = .slice (some b) l.length cp ∧ nl = false ∧ F' = (b.block, b.off + l.length * sz) :: G' ∧ Hdr w b (cp * sz) ∧ l.length ≤ cp ∧ (∀ cs ∈ l, cs.length = sz) ∧ (∀ cs ∈ l, ∀ c ∈ cs, oneB c = true) ∧ Mem w b xs ∧ RepL w l.flatten xs G' := by
  cases h with
  | nil => exact .inl ⟨rfl, rfl, rfl, rfl⟩
  | emp sz b => exact .inr (.inl ⟨b, rfl, rfl, rfl, rfl⟩)
  | lst hdr hc hu ho hm h => exact .inr (.inr ⟨_, _, _, _, rfl, rfl, rfl, hdr, hc, hu, ho, hm, h⟩)

theorem Rep.ptr_inv {cs : List PV} {x : Value} {F' : Foot} (h : Rep w (.ptr cs) x F') :
    ∃ b xs G', x = .pointer (some b) ∧ F' = (b.block, b.off + cs.length) :: G' ∧ Hdr w b cs.length ∧ Mem w b xs ∧ RepL w cs xs G' := by
  cases h with
  | ptr hdr hm h => exact ⟨_, _, _, rfl, rfl, hdr, hm, h⟩

theorem Rep.agg_inv {cs : List PV} {x : Value} {F' : Foot} (h : Rep w (.agg cs) x F') : ∃ xs, x = .agg xs.toArray ∧ RepL w cs xs F' := by
  cases h with
  | agg t => exact ⟨_, rfl, t⟩

theorem run_loadAt {t : Nat} {i : TI} (hi : tiB P t i = true) (hk : i.k.data = true) {b : Addr} (hs : b.spot = none) {xs : List Value} (hm : Mem w b xs) (off : Nat)
    (hlen : off + i.sz ≤ xs.length) (ha : i.k.agg = true ∨ i.sz = 1) :
    (Instr.loadAt t (.pointer (some (b.add off)))).run P w = .ok (valOfX i.k.agg (subx xs off i.sz)) w := by
  obtain ⟨j, hj, hsz, _, _⟩ := tiB.info hi hk
  have hagg := run_isAgg (w := w) hi hk
  have hl : (subx xs off i.sz).length = i.sz := by simp [subx]; omega
  have hcell : ∀ k v, (subx xs off i.sz)[k]? = some v → w.cell? ((b.add off).add k) = some v := by
    intro k v hv
    rw [add_add hs]
    apply hm
    simp only [subx, List.getElem?_take] at hv
    split at hv
    · rw [List.getElem?_drop] at hv; exact hv
    · cases hv
  unfold Instr.loadAt
  simp only [Instr.sureAddr, Sem.run_bind, Sem.run_pure, Result.andThen]
  unfold loadVar
  simp only [Sem.run_bind, hagg, Result.andThen]
  cases hg : i.k.agg with
  | true =>
    have := run_loadCells_list (P := P) w (b.add off) (subx xs off i.sz) hcell
    rw [hl] at this
    simp [Sem.run_bind, run_sizeOf hj, hsz, this, Result.andThen, valOfX]
  | false =>
    have h1 : i.sz = 1 := by rcases ha with h | h; · rw [hg] at h; cases h
                             · exact h
    match hx : subx xs off i.sz, hl with
    | [v], _ =>
      have := hcell 0 v (by rw [hx]; rfl)
      rw [Addr.add_zero'] at this
      simp [run_load, this, valOfX]
    | [], h0 => simp [h1] at h0
    | _ :: _ :: _, h0 => simp [h1] at h0

/-- a load of a variable of the frame's own, or behind a pointer -/
theorem load_box (h : Pre P X c F E B M M' V a w G) {adr off : Nat} {t : Nat} {i : TI} (hi : X.ti t = some i) (hk : i.k.data = true) (ha : i.k.agg = true ∨ i.sz = 1)
    {cs : List PV} {b : Addr} {xs : List Value} {G' : Foot} (hb : Act.x a adr = .pointer (some (b.add off))) (hs : b.spot = none) (hm : Mem w b xs) (hr : RepL w cs xs G')
    (hlen : off + i.sz ≤ cs.length) :
    ∃ xv F', (Instr.loadAt t (a.eval (.tmp adr))).run P w = .ok xv w ∧ Rep w (valOf i.k.agg (sub cs off i.sz)) xv F' ∧ F'.Sublist G' ∧ xv = valOfX i.k.agg (subx xs off i.sz) := by
  obtain ⟨F', h1, h2⟩ := hr.sub off i.sz
  refine ⟨_, F', ?_, h1.valOf i.k.agg ?_, h2, rfl⟩
  · show (Instr.loadAt t (Act.x a adr)).run P w = _
    rw [hb]
    exact run_loadAt (h.tb t i hi) hk hs hm off (by rw [hr.length]; exact hlen) ha
  · rcases ha with h | h
    · exact .inl h
    · right; simp [sub]; omega

theorem load_elem (h : Pre P X c F E B M M' V a w G) {s adr off sz : Nat} {t : Nat} {i : TI} (hi : X.ti t = some i) (hk : i.k.data = true) (ha : i.k.agg = true ∨ i.sz = 1)
    (hlen : off + i.sz ≤ sz) (hl : isLst sz (V s) = true) {F1 : Foot} (hrep : Rep w (V s) (Act.x a s) F1)
    (hadr : ∃ b len cp n k, Act.x a s = .slice (some b) len cp ∧ V adr = .int k (n : Nat) ∧ n < len ∧ Act.x a adr = .pointer (some ((b.add (n * sz)).add off))) :
    ∃ xv F', (Instr.loadAt t (a.eval (.tmp adr))).run P w = .ok xv w ∧ Rep w (valOf i.k.agg (sub (((V s).els[(V adr).num.toNat]?).getD []) off i.sz)) xv F' ∧ F'.Sublist F1 := by
  obtain ⟨b, len, cp, n, k, e1, e2, e3, e4⟩ := hadr
  obtain ⟨nl, l, hl⟩ := isLst_inv hl
  rw [hl, e1] at hrep
  rcases hrep.lst_inv with ⟨e5, _⟩ | ⟨b', e5, _⟩ | ⟨b', cp', xs, G', e5, _, rfl, hdr, _, hu, _, hm, hR⟩
  · cases e5
  · simp only [Value.slice.injEq] at e5; omega
  · simp only [Value.slice.injEq, Option.some.injEq] at e5
    obtain ⟨rfl, rfl, rfl⟩ := e5
    obtain ⟨F', h1, h2⟩ := hR.sub (n * sz + off) i.sz
    have hlenx : xs.length = l.length * sz := by rw [hR.length, flatten_length hu]
    have hn : n * sz + sz ≤ l.length * sz := by rw [← Nat.succ_mul]; exact Nat.mul_le_mul_right _ e3
    have hval : sub (((V s).els[(V adr).num.toNat]?).getD []) off i.sz = sub l.flatten (n * sz + off) i.sz := by
      rw [hl, e2]
      simp only [PV.els, PV.num, Int.toNat_natCast, sub]
      rw [← flatten_get hu n, sub_sub _ _ _ _ _ hlen]
    rw [hval]
    refine ⟨_, F', ?_, h1.valOf i.k.agg ?_, h2.trans (List.sublist_cons_self _ _)⟩
    · show (Instr.loadAt t (Act.x a adr)).run P w = _
      rw [e4, add_add hdr.1]
      exact run_loadAt (h.tb t i hi) hk hdr.1 hm _ (by rw [hlenx]; omega) ha
    · rcases ha with h | h
      · exact .inl h
      · right; simp [sub, flatten_length hu]; omega

theorem flatten_set {α : Type} {sz : Nat} {c : List α} (hc : c.length = sz) : ∀ {els : List (List α)} (_ : ∀ cs ∈ els, cs.length = sz) (i : Nat), i < els.length →
    (els.set i c).flatten = els.flatten.take (i * sz) ++ c ++ els.flatten.drop (i * sz + sz)
  | e :: els, h, 0, _ => by
    have he := h e (List.mem_cons_self ..)
    simp [← he]
  | e :: els, h, i + 1, hi => by
    have he := h e (List.mem_cons_self ..)
    have ih := flatten_set hc (els := els) (fun cs hcs => h cs (List.mem_cons_of_mem _ hcs)) i (by simpa using hi)
    simp only [List.set_cons_succ, List.flatten_cons, ih]
    rw [show (i + 1) * sz = e.length + i * sz by rw [he, Nat.succ_mul]; omega, show e.length + i * sz + sz = e.length + (i * sz + sz) by omega]
    simp [List.take_length_add_append, List.drop_length_add_append, List.append_assoc]

theorem flat_hole {α : Type} {sz off i : Nat} {l : List (List α)} {ys : List α} (hu : ∀ cs ∈ l, cs.length = sz) (hi : i < l.length) (ho : off + ys.length ≤ sz) :
    (l.set i (((l[i]?).getD []).take off ++ ys ++ ((l[i]?).getD []).drop (off + ys.length))).flatten = l.flatten.take (i * sz + off) ++ ys ++ l.flatten.drop (i * sz + off + ys.length) := by
  have hc := flatten_get hu i
  have hlen : l.flatten.length = l.length * sz := flatten_length hu
  have hle : i * sz + sz ≤ l.length * sz := by rw [← Nat.succ_mul]; exact Nat.mul_le_mul_right _ hi
  have hcl : ((l[i]?).getD []).length = sz := by rw [← hc, List.length_take, List.length_drop, hlen]; omega
  rw [flatten_set (by simp [hcl]; omega) hu i hi, ← hc]
  have e1 : l.flatten.take (i * sz) ++ ((l.flatten.drop (i * sz)).take sz).take off = l.flatten.take (i * sz + off) := by
    rw [List.take_take, Nat.min_eq_left (by omega), List.take_add]
  have e2 : ((l.flatten.drop (i * sz)).take sz).drop (off + ys.length) ++ l.flatten.drop (i * sz + sz) = l.flatten.drop (i * sz + off + ys.length) := by
    rw [List.drop_take, List.drop_drop]
    have : l.flatten.drop (i * sz + sz) = (l.flatten.drop (i * sz + (off + ys.length))).drop (sz - (off + ys.length)) := by
      rw [List.drop_drop]; congr 1; omega
    rw [this, List.take_append_drop]
    congr 1; omega
  simp only [List.append_assoc] at e1 e2 ⊢
  rw [e2, ← List.append_assoc, e1]

/-- a list in memory, opened at a part of an element -/
theorem Rep.hole {sz : Nat} {nl : Bool} {l : List (List PV)} {xr : Value} {F' : Foot} (h : Rep w (.lst sz nl l) xr F') {ad : Addr} {len cp : Nat} (hx : xr = .slice (some ad) len cp) {i off n : Nat} (hi : i < len) (ho : off + n ≤ sz) :
    len = l.length ∧ ∃ xA xM xZ GA GM GZ, F' = (ad.block, ad.off + l.length * sz) :: (GA ++ GM ++ GZ) ∧ Hdr w ad (cp * sz) ∧ Mem w ad (xA ++ xM ++ xZ) ∧ xA.length = i * sz + off ∧ xM.length = n ∧
      (xA ++ xM ++ xZ).length = l.length * sz ∧ RepL w (sub ((l[i]?).getD []) off n) xM GM ∧
      ∀ (w' : World) (ys : List PV) (xN : List Value) (GN : Foot), ys.length = n → (∀ c ∈ ys, oneB c = true) → RepL w' ys xN GN → Hdr w' ad (cp * sz) → Mem w' ad (xA ++ xN ++ xZ) → Keeps w w' (GA ++ GZ) →
        Rep w' (.lst sz false (l.set i (putc ((l[i]?).getD []) off ys))) xr ((ad.block, ad.off + l.length * sz) :: (GA ++ GN ++ GZ)) := by
  subst hx
  rcases h.lst_inv with ⟨e1, _⟩ | ⟨b, e1, _⟩ | ⟨b, cp', xs, G', e1, _, rfl, hdr, hcp, hu, hone, hm, hR⟩
  · cases e1
  · simp only [Value.slice.injEq] at e1; omega
  · simp only [Value.slice.injEq, Option.some.injEq] at e1
    obtain ⟨rfl, rfl, rfl⟩ := e1
    refine ⟨rfl, ?_⟩
    have hlen : l.flatten.length = l.length * sz := flatten_length hu
    have hle : i * sz + sz ≤ l.length * sz := by rw [← Nat.succ_mul]; exact Nat.mul_le_mul_right _ hi
    have hsub : sub ((l[i]?).getD []) off n = sub l.flatten (i * sz + off) n := by
      simp only [sub]
      rw [← flatten_get hu i, sub_sub _ _ _ _ _ ho]
    have hcut : l.flatten = l.flatten.take (i * sz + off) ++ sub l.flatten (i * sz + off) n ++ l.flatten.drop (i * sz + off + n) := by
      generalize i * sz + off = p
      simp only [sub]
      rw [← List.drop_drop, List.append_assoc, List.take_append_drop, List.take_append_drop]
    rw [hcut] at hR
    obtain ⟨x12, xZ, G12, GZ, ex, eF, s12, sZ⟩ := RepL.split _ hR
    obtain ⟨xA, xM, GA, GM, ex2, eF2, sA, sM⟩ := RepL.split _ s12
    subst ex eF
    subst ex2 eF2
    have lA : xA.length = i * sz + off := by rw [sA.length, List.length_take, hlen]; omega
    have lM : xM.length = n := by rw [sM.length]; simp only [sub, List.length_take, List.length_drop, hlen]; omega
    have lall : (xA ++ xM ++ xZ).length = l.length * sz := by rw [hR.length, ← hcut, hlen]
    refine ⟨xA, xM, xZ, GA, GM, GZ, rfl, hdr, hm, lA, lM, lall, by rw [hsub]; exact sM, ?_⟩
    intro w' ys xN GN hyl hyo hy hdr' hm' hk
    have hel : (l.set i (putc ((l[i]?).getD []) off ys)).length = l.length := by simp
    have hflat : (l.set i (putc ((l[i]?).getD []) off ys)).flatten = l.flatten.take (i * sz + off) ++ ys ++ l.flatten.drop (i * sz + off + n) := by
      have := flat_hole (off := off) (ys := ys) hu hi (by omega)
      rw [hyl] at this
      unfold putc; rw [hyl]; exact this
    have hcl : ((l[i]?).getD []).length = sz := by rw [← flatten_get hu i, List.length_take, List.length_drop, hlen]; omega
    have hin : ∀ cs ∈ l.set i (putc ((l[i]?).getD []) off ys), cs ∈ l ∨ cs = putc ((l[i]?).getD []) off ys := fun cs hcs => List.mem_or_eq_of_mem_set hcs
    have hli : (l[i]?).getD [] ∈ l := by rw [List.getElem?_eq_getElem hi]; exact List.getElem_mem hi
    have := Rep.lst (w := w') (sz := sz) (els := l.set i (putc ((l[i]?).getD []) off ys)) (a := ad) (c := cp) (xs := xA ++ xN ++ xZ) (F := GA ++ GN ++ GZ) hdr' (by rw [hel]; exact hcp)
      (fun cs hcs => by
        rcases hin cs hcs with h | rfl
        · exact hu cs h
        · simp only [putc, List.length_append, List.length_take, List.length_drop, hcl, hyl]; omega)
      (fun cs hcs c hc => by
        rcases hin cs hcs with h | rfl
        · exact hone cs h c hc
        · simp only [putc, List.mem_append] at hc
          rcases hc with (hc | hc) | hc
          · exact hone _ hli c (List.mem_of_mem_take hc)
          · exact hyo c hc
          · exact hone _ hli c (List.mem_of_mem_drop hc)) hm'
      (by
        rw [hflat]
        exact ((sA.keep (hk.sub (fun e he => List.mem_append_left _ he))).append hy).append (sZ.keep (hk.sub (fun e he => List.mem_append_right _ he))))
    rw [hel] at this
    exact this

/-- one cell of an element: where it stands in the list -/
theorem load_hole (h : Pre P X c F E B M M' V a w G) {s adr off sz : Nat} {t : Nat} {i : TI} (hi : X.ti t = some i) (hk : i.k.data = true) (h1 : i.sz = 1)
    (hlen : off + i.sz ≤ sz) (hl : isLst sz (V s) = true) {F1 : Foot} (hrep : Rep w (V s) (Act.x a s) F1)
    (hadr : ∃ b len cp n k, Act.x a s = .slice (some b) len cp ∧ V adr = .int k (n : Nat) ∧ n < len ∧ Act.x a adr = .pointer (some ((b.add (n * sz)).add off))) (hag : i.k.agg = false) :
    ∃ xv F', (Instr.loadAt t (a.eval (.tmp adr))).run P w = .ok xv w ∧ Rep w (valOf i.k.agg (sub (((V s).els[(V adr).num.toNat]?).getD []) off i.sz)) xv F' ∧ F'.Sublist F1 ∧
      HolR w (V s) (Act.x a s) F1 (Act.x a adr) off sz (valOf i.k.agg (sub (((V s).els[(V adr).num.toNat]?).getD []) off i.sz)) xv F' := by
  obtain ⟨b, len, cp, n, k, e1, e2, e3, e4⟩ := hadr
  obtain ⟨nl, l, hl⟩ := isLst_inv hl
  rw [hl] at hrep
  obtain ⟨hll, xA, xM, xZ, GA, GM, GZ, p1, p2, p3, p4, p5, p6, p7, p8⟩ := hrep.hole e1 e3 hlen
  rw [h1] at p5 p7 p8
  obtain ⟨y0, rfl⟩ : ∃ y0, xM = [y0] := List.length_eq_one_iff.1 p5
  have hval : ((V s).els[(V adr).num.toNat]?).getD [] = (l[n]?).getD [] := by rw [hl, e2]; simp [PV.els, PV.num]
  rw [hval, hag, h1]
  obtain ⟨v1, hv1⟩ : ∃ v1, sub ((l[n]?).getD []) off 1 = [v1] := by
    have := p7.length
    exact List.length_eq_one_iff.1 (by simpa using this.symm)
  have hoff : ((((l[n]?).getD [])[off]?).getD .junk) = v1 := by
    have : (sub ((l[n]?).getD []) off 1)[0]? = ((l[n]?).getD [])[off]? := by simp [sub]
    rw [← this, hv1]; rfl
  have hrep1 : Rep w v1 y0 GM := by
    rw [hv1] at p7
    obtain ⟨z1, z2, z3, z4, z5, z6, z7, z8⟩ := p7.cons_inv
    obtain ⟨rfl, rfl⟩ := z8.nil_inv
    simp only [List.cons.injEq, and_true] at z5
    subst z5
    rw [z6, List.append_nil]; exact z7
  have hv : valOf false (sub ((l[n]?).getD []) off 1) = v1 := by rw [hv1]; rfl
  rw [hv]
  have hsp : b.spot = none := p2.1
  have hF : F1 = ((b.block, b.off + l.length * sz) :: GA) ++ GM ++ GZ := by rw [p1]; simp
  refine ⟨y0, GM, ?_, hrep1, by rw [hF]; exact ((List.sublist_append_right _ GM).trans (List.sublist_append_left _ _)), b, len, cp, n, nl, l, (b.block, b.off + l.length * sz) :: GA, GZ, e1, hsp, hl, e3, hll, by omega, e4, hF, hoff, ?_⟩
  · show (Instr.loadAt t (Act.x a adr)).run P w = _
    rw [e4, add_add hsp]
    have hbl : n * sz + off + i.sz ≤ (xA ++ [y0] ++ xZ).length := by
      rw [h1, List.length_append, List.length_append, p4]; simp
    have := run_loadAt (w := w) (h.tb t i hi) hk hsp p3 (n * sz + off) hbl (.inr h1)
    rw [hag, h1] at this
    have hv : valOfX false (subx (xA ++ [y0] ++ xZ) (n * sz + off) 1) = y0 := by
      simp only [valOfX, subx, ← p4, List.append_assoc, List.drop_left']
      simp
    rw [hv] at this
    exact this
  · intro w' v' F' hv' hr' hk'
    have hk0 : Keeps w w' [(b.block, b.off + l.length * sz)] := hk'.sub (fun e he => by simp at he; subst he; simp)
    have := p8 w' [v'] [y0] F' rfl (by simpa using hv') (RepL.one hr') (hk0.hdr (List.mem_cons_self ..) p2) (hk0.mem (List.mem_cons_self ..) hsp (by rw [p6]; exact Nat.le_refl _) p3)
      (hk'.sub (fun e he => by
        rcases List.mem_append.1 he with he | he
        · exact List.mem_append_left _ (List.mem_cons_of_mem _ he)
        · exact List.mem_append_right _ he))
    simpa using this

end
end Go.Eng
namespace Go.Eng
open Go Go.RowKit
set_option linter.unusedSimpArgs false
set_option linter.unusedVariables false

section
variable {P : Program} {X : Cx} {c : Ctx} {F E : Nat → Foot} {B : Nat → Nat} {M M' : MF} {V : Env} {a : Act} {w w' : World} {G : GL}

theorem kindOK.slice {t : Nat} {i : TI} {e : Nat} (hi : tiB P t i = true) (hk : i.k = .slice e) : P.underlying t = some (.slice e) := by
  have := tiB.kind hi
  rw [hk] at this
  simp only [kindOK] at this
  cases hu : P.underlying t with
  | none => rw [hu] at this; cases this
  | some d => rw [hu] at this; cases d <;> simp at this; subst this; rfl
theorem kindOK.str {t : Nat} {i : TI} (hi : tiB P t i = true) (hk : i.k = .str) : P.underlying t = some .string := by
  have := tiB.kind hi
  rw [hk] at this
  simp only [kindOK] at this
  cases hu : P.underlying t with
  | none => rw [hu] at this; cases this
  | some d => rw [hu] at this; cases d <;> simp at this; rfl
theorem kindOK.bool {t : Nat} {i : TI} (hi : tiB P t i = true) (hk : i.k = .bool) : P.underlying t = some .bool := by
  have := tiB.kind hi
  rw [hk] at this
  simp only [kindOK] at this
  cases hu : P.underlying t with
  | none => rw [hu] at this; cases this
  | some d => rw [hu] at this; cases d <;> simp at this; rfl
theorem kindOK.int {t : Nat} {i : TI} {k : IntKind} (hi : tiB P t i = true) (hk : i.k = .int k) : P.underlying t = some (.int k) := by
  have := tiB.kind hi
  rw [hk] at this
  simp only [kindOK] at this
  cases hu : P.underlying t with
  | none => rw [hu] at this; cases this
  | some d => rw [hu] at this; cases d <;> simp at this; subst this; rfl
theorem kindOK.struct {t : Nat} {i : TI} {fl : List (Nat × Nat)} (hi : tiB P t i = true) (hk : i.k = .struct fl) :
    ∃ fs, P.underlying t = some (.struct fs) ∧ fs.toList.map (fun f => (f.offset, f.type)) = fl := by
  have := tiB.kind hi
  rw [hk] at this
  simp only [kindOK] at this
  cases hu : P.underlying t with
  | none => rw [hu] at this; cases this
  | some d => rw [hu] at this; cases d <;> simp at this; exact ⟨_, rfl, this⟩

theorem rep_idx {s i : PV} {sv iv : Value} {F1 F2 : Foot} (hs : Rep w s sv F1) (hi : Rep w i iv F2) {t e sz : Nat} {it je : TI} (ht : tiB P t it = true) (hk : it.k = .slice e)
    (he : tiB P e je = true) (hkd : je.k.data = true) (hsz : je.sz = sz) (hok : isLst sz s = true ∧ isInt i = true ∧ 0 ≤ i.num ∧ i.num < s.els.length) :
    ∃ b len cp, sv = .slice (some b) len cp ∧ i.num.toNat < len ∧ b.spot = none ∧ (Instr.indexAt t sv iv).run P w = .ok (.pointer (some (b.add (i.num.toNat * sz)))) w := by
  obtain ⟨h1, h2, h3, h4⟩ := hok
  obtain ⟨nl, l, rfl⟩ := isLst_inv h1
  obtain ⟨k, n, rfl⟩ := isInt_inv h2
  obtain ⟨rfl, _⟩ := hi.int_inv
  simp only [PV.num, PV.els] at h3 h4
  obtain ⟨j, hj, hjs, _, _⟩ := tiB.info he hkd
  rcases hs.lst_inv with ⟨_, _, rfl, _⟩ | ⟨b, _, _, rfl, _⟩ | ⟨b, cp, xs, G', rfl, _, _, hdr, _⟩
  · simp at h4; omega
  · simp at h4; omega
  · refine ⟨b, l.length, cp, rfl, by simp only [PV.num]; omega, hdr.1, ?_⟩
    simp only [PV.num]
    simp [Instr.indexAt, asIntOf, run_underlying (kindOK.slice ht hk), run_sizeOf hj, hjs, hsz, h3, h4]

theorem rep_conv {x : PV} {xv : Value} {F1 : Foot} (h : Rep w x xv F1) {s t : Nat} {i j : TI} {k0 k : IntKind} (hs : tiB P s i = true) (hk0 : i.k = .int k0) (ht : tiB P t j = true) (hk : j.k = .int k)
    (hok : isInt x = true) : (convert s t xv).run P w = .ok (.int k (k.wrap x.num)) w := by
  obtain ⟨k', n, rfl⟩ := isInt_inv hok
  obtain ⟨rfl, _⟩ := h.int_inv
  simp [convert, run_underlying (kindOK.int hs hk0), run_underlying (kindOK.int ht hk), Conv.intToInt, PV.num]

theorem rep_not {x : PV} {xv : Value} {F1 : Foot} (h : Rep w x xv F1) (hok : isBool x = true) : (Op.unary .not xv).run P w = .ok (.bool (!x.isT)) w := by
  obtain ⟨b, rfl⟩ := isBool_inv hok
  obtain ⟨rfl, _⟩ := h.bool_inv
  simp [Op.unary, PV.isT]

theorem rep_neg {x : PV} {xv : Value} {F1 : Foot} (h : Rep w x xv F1) (hok : isInt x = true) :
    ∃ r, (Op.unary .neg xv).run P w = .ok r w ∧ Rep w (negV x) r [] := by
  obtain ⟨k, n, rfl⟩ := isInt_inv hok
  obtain ⟨rfl, _⟩ := h.int_inv
  exact ⟨.int k (k.wrap (0 - n)), by simp [Op.unary, Op.intArith], .int _ _⟩

theorem foldl_push (ns : List Int) : ∀ s : ByteArray, ns.foldl (fun r n => r.push (UInt8.ofNat n.toNat)) s = ⟨s.data ++ (ns.map fun n => UInt8.ofNat n.toNat).toArray⟩ := by
  induction ns with
  | nil => intro s; simp
  | cons n ns ih =>
    intro s
    rw [List.foldl_cons, ih]
    show (⟨(s.data.push _) ++ _⟩ : ByteArray) = _
    congr 1
    apply Array.ext'
    simp
theorem repL_ints : ∀ {ns : List Int} {xs : List Value} {F : Foot}, RepL w (ns.map fun n => PV.int .u8 n) xs F → xs = ns.map (Value.int .u8)
  | [], xs, F, h => h.nil_inv.1
  | n :: ns, xs, F, h => by
    obtain ⟨x, xs', F1, F2, rfl, rfl, h1, h2⟩ := RepL.cons_inv h
    rw [h1.int_inv.1, repL_ints h2]; rfl
theorem rep_bst {x : PV} {xv : Value} {F1 : Foot} (h : Rep w x xv F1) {s t e : Nat} {i j q : TI} (hi : tiB P s i = true) (hik : i.k = .slice e) (hj : tiB P t j = true) (hjk : j.k = .str) (hq : tiB P e q = true) (hqk : q.k = .int .u8)
    (hok : ∃ (nl : Bool) (ns : List Int), x = .lst 1 nl (ns.map fun n => [.int .u8 n])) : ∃ r, (convert s t xv).run P w = .ok r w ∧ Rep w (bstV x) r [] := by
  obtain ⟨nl, ns, rfl⟩ := hok
  have hs := kindOK.slice hi hik
  have hd := kindOK.str hj hjk
  have he := kindOK.int hq hqk
  have hb : bstV (.lst 1 nl (ns.map fun n => [.int .u8 n])) = .str ⟨(ns.map fun n => UInt8.ofNat n.toNat).toArray⟩ := by simp [bstV, byteC, Function.comp_def]
  rw [hb]
  have hz : ∀ {l : List Int}, (l.map fun n => [PV.int .u8 n]) = [] → l = [] := by intro l hl; simpa using hl
  rcases h.lst_inv with ⟨rfl, _, hl, _⟩ | ⟨b, rfl, _, hl, _⟩ | ⟨b, cp, xs, G', rfl, _, _, _, _, _, _, hm, hr⟩
  · rw [hz hl]
    refine ⟨.string ByteArray.empty, ?_, Rep.str _⟩
    rw [run_convert_bytes_string w s t e _ 0 0 hs he hd]
    simp [Conv.bytesToString]
  · rw [hz hl]
    refine ⟨_, ?_, Rep.str _⟩
    rw [run_convert_bytes_string w s t e _ 0 0 hs he hd, run_bytesToString w b 0 0 [] (by have := run_loadCells_list (P := P) w b [] (by simp); simpa using this)]
    rfl
  · have hfl : ∀ ns : List Int, ((ns.map fun n => [PV.int .u8 n])).flatten = ns.map fun n => PV.int .u8 n := by
      intro ns
      induction ns with
      | nil => rfl
      | cons n ns ih => rw [List.map_cons, List.flatten_cons, ih]; rfl
    rw [hfl] at hr
    have hx := repL_ints hr
    subst hx
    refine ⟨_, ?_, Rep.str _⟩
    have hload := run_loadCells_list (P := P) w b (ns.map (Value.int .u8)) hm
    rw [run_convert_bytes_string w s t e _ _ _ hs he hd, run_bytesToString w b _ cp ns (by simpa using hload), foldl_push]
    simp [ByteArray.empty, ByteArray.emptyWithCapacity]
    rfl

theorem rep_max {x y : PV} {xv yv : Value} {F1 F2 : Foot} (h1 : Rep w x xv F1) (h2 : Rep w y yv F2) (hx : isInt x = true) (hy : isInt y = true) (tys : Array TypeId) (ty : TypeId) :
    ∃ r, (Builtin.max_ tys ty #[xv, yv]).run P w = .ok r w ∧ Rep w (mxV x y) r [] := by
  obtain ⟨k, n, rfl⟩ := isInt_inv hx
  obtain ⟨k', n', rfl⟩ := isInt_inv hy
  obtain ⟨rfl, _⟩ := h1.int_inv
  obtain ⟨rfl, _⟩ := h2.int_inv
  exact ⟨_, by simp [Builtin.max_, Builtin.max2], .int _ _⟩
theorem rep_min {x y : PV} {xv yv : Value} {F1 F2 : Foot} (h1 : Rep w x xv F1) (h2 : Rep w y yv F2) (hx : isInt x = true) (hy : isInt y = true) (tys : Array TypeId) (ty : TypeId) :
    ∃ r, (Builtin.min_ tys ty #[xv, yv]).run P w = .ok r w ∧ Rep w (mnV x y) r [] := by
  obtain ⟨k, n, rfl⟩ := isInt_inv hx
  obtain ⟨k', n', rfl⟩ := isInt_inv hy
  obtain ⟨rfl, _⟩ := h1.int_inv
  obtain ⟨rfl, _⟩ := h2.int_inv
  exact ⟨_, by simp [Builtin.min_, Builtin.min2], .int _ _⟩

theorem rep_six {x i : PV} {xv iv : Value} {F1 F2 : Foot} (h1 : Rep w x xv F1) (h2 : Rep w i iv F2) {t : Nat} {it : TI} (ht : tiB P t it = true) (hk : it.k = .str)
    (hok : ∃ s k j, x = .str s ∧ i = .int k j ∧ 0 ≤ j ∧ j < s.size) :
    ∃ r, (Instr.index t xv iv).run P w = .ok r w ∧ Rep w (sixV x i.num) r [] := by
  obtain ⟨s, k, j, rfl, rfl, h3, h4⟩ := hok
  obtain ⟨rfl, _⟩ := h1.str_inv
  obtain ⟨rfl, _⟩ := h2.int_inv
  have hlt : j.toNat < s.size := by omega
  have hlt' : j.toNat < s.data.size := hlt
  have hg : s[j.toNat]? = some s.data[j.toNat] := by
    rw [getElem?_pos s j.toNat hlt]; rfl
  refine ⟨.int .u8 (s.data[j.toNat]).toNat, ?_, ?_⟩
  · simp [Instr.index, asIntOf, run_underlying (kindOK.str ht hk), h3, hg]
  · simp only [PV.num, sixV]; rw [Array.getElem?_eq_getElem hlt']; exact .int _ _

theorem rep_fld {x : PV} {xv : Value} {F1 : Foot} (h : Rep w x xv F1) {t f : Nat} {it jt : TI} {fl : List (Nat × Nat)} {off ft : Nat} (ht : tiB P t it = true) (hk : it.k = .struct fl) (hf : fl[f]? = some (off, ft))
    (hj : tiB P ft jt = true) (hjk : jt.k.data = true) (ha : jt.k.agg = true ∨ jt.sz = 1) (hok : off + jt.sz ≤ (cellsOf x).length) (hx : ∃ cs, x = .agg cs) :
    ∃ r F', (Instr.field t xv f).run P w = .ok r w ∧ Rep w (valOf jt.k.agg (sub (cellsOf x) off jt.sz)) r F' ∧ F'.Sublist F1 := by
  obtain ⟨cs, rfl⟩ := hx
  obtain ⟨xs, rfl, hr⟩ := h.agg_inv
  obtain ⟨fs, hu, hfl⟩ := kindOK.struct ht hk
  simp only [cellsOf] at hok ⊢
  obtain ⟨F', h1, h2⟩ := hr.sub off jt.sz
  have hlen := hr.length
  obtain ⟨j, hj', hjs, _, _⟩ := tiB.info hj hjk
  have hff : ∃ fd, fs[f]? = some fd ∧ fd.offset = off ∧ fd.type = ft := by
    rw [← hfl, List.getElem?_map] at hf
    cases hh : fs.toList[f]? with
    | none => rw [hh] at hf; simp at hf
    | some fd => rw [hh] at hf; simp at hf; exact ⟨fd, by simpa using hh, hf.1, hf.2⟩
  obtain ⟨fd, hfd, rfl, rfl⟩ := hff
  have hagg := run_isAgg (w := w) hj hjk
  refine ⟨_, F', ?_, h1.valOf jt.k.agg ?_, h2⟩
  · simp only [Instr.field, Sem.run_bind, run_underlying hu, Result.andThen, hfd, asAgg, Sem.run_pure, part, hagg, valOfX]
    cases hg : jt.k.agg with
    | true =>
      simp only [if_true, Sem.run_bind, run_sizeOf hj', hjs, Result.andThen, Sem.run_pure]
      congr 2
      apply Array.ext'
      simp [subx, Array.toList_extract, List.extract]
    | false =>
      have h1 : jt.sz = 1 := by rcases ha with h | h; · rw [hg] at h; cases h
                                · exact h
      have hlt : fd.offset < xs.length := by rw [hlen]; omega
      simp only [Bool.false_eq_true, if_false]
      rw [show (xs.toArray)[fd.offset]? = some xs[fd.offset] from by simp [hlt]]
      simp only [Sem.run_pure, subx, h1]
      congr 1
      rw [List.drop_eq_getElem_cons hlt]
      rfl
  · rcases ha with h | h
    · exact .inl h
    · right; simp [sub]; omega

end
end Go.Eng
namespace Go.Eng
open Go Go.RowKit
set_option linter.unusedSimpArgs false
set_option linter.unusedVariables false

section
variable {P : Program} {X : Cx} {c : Ctx} {F E : Nat → Foot} {B : Nat → Nat} {M M' : MF} {V : Env} {a : Act} {w w' : World} {G : GL}

def OptR (w : World) (V : Env) : Option Value → Option Opd → Prop
  | none, none => True
  | some v, some o => ∃ F, Rep w (o.val V) v F
  | _, _ => False

theorem run_sliceBound {v : Value} {k : IntKind} {i : Int} (hv : v = .int k i) (y : Nat) (code : BoundsCode) (h0 : 0 ≤ i) (h1 : i ≤ y) :
    (Instr.sliceBound v y code).run P w = .ok i.toNat w := by
  subst hv
  simp [Instr.sliceBound, asIntOf, h0, h1]

theorem run_bounds {lo hi : Option Value} {lo' hi' : Option Opd} (hl : OptR w V lo lo') (hh : OptR w V hi hi') (isS : Bool) (len cap : Nat) (hlc : len ≤ cap)
    (hok : optB V lo' hi' len len) :
    (Instr.sliceBounds isS len cap lo hi none).run P w = .ok ((optNum V 0 lo').toNat, (optNum V len hi').toNat, cap) w := by
  obtain ⟨h1, h2, h3, h4, h5⟩ := hok
  have e1 : ∀ (code : BoundsCode), (match hi with | some v => Instr.sliceBound v cap code | none => (pure len : Sem Nat)).run P w = .ok (optNum V len hi').toNat w := by
    intro code
    cases hi with
    | none => cases hi' with
      | none => simp [optNum]
      | some o => exact hh.elim
    | some v => cases hi' with
      | none => exact hh.elim
      | some o =>
        obtain ⟨Fo, hr⟩ := hh
        obtain ⟨k, i, hi⟩ := h2 o rfl
        rw [hi] at hr
        have h6 := Int.le_trans h3 h4
        have e : optNum V len (some o) = i := by simp only [optNum, hi, PV.num]
        rw [e] at h6 h5 ⊢
        exact run_sliceBound hr.int_inv.1 _ _ h6 (by omega)
  have e2 : ∀ (code : BoundsCode), (match lo with | some v => Instr.sliceBound v (optNum V len hi').toNat code | none => (pure 0 : Sem Nat)).run P w = .ok (optNum V 0 lo').toNat w := by
    intro code
    cases lo with
    | none => cases lo' with
      | none => simp [optNum]
      | some o => exact hl.elim
    | some v => cases lo' with
      | none => exact hl.elim
      | some o =>
        obtain ⟨Fo, hr⟩ := hl
        obtain ⟨k, i, hi⟩ := h1 o rfl
        rw [hi] at hr
        have e : optNum V 0 (some o) = i := by simp only [optNum, hi, PV.num]
        rw [e] at h3 h4 ⊢
        exact run_sliceBound hr.int_inv.1 _ _ h3 (by omega)
  unfold Instr.sliceBounds
  have e1' := e1 (if isS then .sliceAcap else .sliceAlen)
  have e2' := e2 .sliceB
  clear e1 e2 h1 h2 h3 h4 h5 hl hh
  generalize (optNum V len hi').toNat = Z at *
  generalize (optNum V 0 lo').toNat = A at *
  cases hi <;> cases lo <;> simp only [Sem.run_pure, Result.ok.injEq, and_true] at e1' e2' <;> simp [Sem.run_bind, Result.andThen, e1', e2']

theorem run_slice_str {s : ByteArray} {t : TypeId} (hu : P.underlying t = some .string) {lo hi : Option Value} {A Z C : Nat}
    (hb : (Instr.sliceBounds false s.size s.size lo hi none).run P w = .ok (A, Z, C) w) : (Instr.sliceAt t (.string s) lo hi none).run P w = .ok (.string (s.extract A Z)) w := by
  unfold Instr.sliceAt Instr.slice
  simp only [Sem.run_bind, run_underlying hu, Result.andThen_ok, Option.isSome_none]
  simp [hb]

theorem run_slice_lst {b : Option Addr} {len cap : Nat} {t e : TypeId} {j : TypeInfo} (hu : P.underlying t = some (.slice e)) (hj : P.info? e = some j) {lo hi : Option Value} {A Z : Nat}
    (hb : (Instr.sliceBounds true len cap lo hi none).run P w = .ok (A, Z, cap) w) :
    (Instr.sliceAt t (.slice b len cap) lo hi none).run P w = .ok (.slice (if cap = A then b else b.map (·.add (A * j.size))) (Z - A) (cap - A)) w := by
  simp only [Instr.sliceAt, Sem.run_bind, run_underlying hu, Result.andThen, Instr.slice, hb, run_sizeOf hj, Sem.run_pure]

theorem rep_slice_str {x : PV} {xv : Value} {F1 : Foot} (h : Rep w x xv F1) {t : Nat} {it : TI} (ht : tiB P t it = true) (hk : it.k = .str)
    {lo hi : Option Value} {lo' hi' : Option Opd} (hl : OptR w V lo lo') (hh : OptR w V hi hi') (hok : isStr x = true ∧ optB V lo' hi' (lenV x) (lenV x)) :
    ∃ r, (Instr.sliceAt t xv lo hi none).run P w = .ok r w ∧ Rep w (sslV (fun _ => (optNum V 0 lo').toNat) (fun n => (optNum V n hi').toNat) x) r [] := by
  obtain ⟨s, rfl⟩ := isStr_inv hok.1
  obtain ⟨rfl, _⟩ := h.str_inv
  have hb := run_bounds (P := P) hl hh false s.size s.size (Nat.le_refl _) hok.2
  exact ⟨_, run_slice_str (kindOK.str ht hk) hb, .str _⟩

theorem rep_slice_lst {x : PV} {xv : Value} {F1 : Foot} (h : Rep w x xv F1) {t e sz : Nat} {it je : TI} (ht : tiB P t it = true) (hk : it.k = .slice e)
    (he : tiB P e je = true) (hkd : je.k.data = true) (hsz : je.sz = sz)
    {lo hi : Option Value} {lo' hi' : Option Opd} (hl : OptR w V lo lo') (hh : OptR w V hi hi') (hok : isLst sz x = true ∧ optB V lo' hi' (lenV x) (lenV x)) :
    ∃ r F', (Instr.sliceAt t xv lo hi none).run P w = .ok r w ∧
      Rep w (slV (fun _ => (optNum V 0 lo').toNat) (fun n => (optNum V n hi').toNat) x) r F' ∧
      (∀ f ∈ F', ∃ f' ∈ F1, f'.1 = f.1 ∧ f.2 ≤ f'.2) ∧ (F'.map (·.1)).Sublist (F1.map (·.1)) := by
  obtain ⟨nl, l, rfl⟩ := isLst_inv hok.1
  obtain ⟨j, hj, hjs, _, _⟩ := tiB.info he hkd
  have hu := kindOK.slice ht hk
  have hb := fun cap hc => run_bounds (P := P) hl hh true l.length cap hc hok.2
  obtain ⟨_, h1, h2, h3, h4, h5⟩ := hok
  simp only [lenV] at h4 h5
  rcases h.lst_inv with ⟨rfl, rfl, rfl, rfl⟩ | ⟨b, rfl, rfl, rfl, rfl⟩ | ⟨b, cp, xs, G', rfl, rfl, rfl, hdr, hc, hu1, ho, hm, hR⟩
  · have hb0 := hb 0 (Nat.le_refl _)
    simp only [List.length_nil] at h4 h5 hb0
    have e1 : optNum V 0 lo' = 0 := by omega
    have e2 : optNum V ((0 : Nat) : Int) hi' = 0 := by omega
    rw [e1, e2] at hb0
    refine ⟨.slice none 0 0, [], ?_, ?_, by simp, by simp⟩
    · simpa using run_slice_lst (b := none) hu hj hb0
    · simp only [slV, List.take_nil, List.drop_nil]; exact .nil sz
  · have hb0 := hb 0 (Nat.le_refl _)
    simp only [List.length_nil] at h4 h5 hb0
    have e1 : optNum V 0 lo' = 0 := by omega
    have e2 : optNum V ((0 : Nat) : Int) hi' = 0 := by omega
    rw [e1, e2] at hb0
    refine ⟨.slice (some b) 0 0, [], ?_, ?_, by simp, by simp⟩
    · simpa using run_slice_lst (b := some b) hu hj hb0
    · simp only [slV, List.take_nil, List.drop_nil]; exact .emp sz b
  · have hb0 := hb cp hc
    generalize hA : (optNum V 0 lo').toNat = A at hb0
    generalize hZ : (optNum V (l.length : Int) hi').toNat = Z at hb0
    have hAZ : A ≤ Z := by omega
    have hZl : Z ≤ l.length := by omega
    have hlen : ((l.take Z).drop A).length = Z - A := by rw [List.length_drop, List.length_take]; omega
    have hun : ∀ cs ∈ (l.take Z).drop A, cs.length = sz := fun cs hcs => hu1 cs (List.mem_of_mem_take (List.mem_of_mem_drop hcs))
    have hon : ∀ cs ∈ (l.take Z).drop A, ∀ c ∈ cs, oneB c = true := fun cs hcs => ho cs (List.mem_of_mem_take (List.mem_of_mem_drop hcs))
    obtain ⟨F', r1, r2⟩ := hR.sub (A * sz) ((Z - A) * sz)
    have hfl : sub l.flatten (A * sz) ((Z - A) * sz) = ((l.take Z).drop A).flatten := by
      have : l = (l.take A) ++ ((l.take Z).drop A) ++ l.drop Z := by
        conv => lhs; rw [← List.take_append_drop Z l, ← List.take_append_drop A (l.take Z)]
        rw [List.take_take, Nat.min_eq_left hAZ]
      conv => lhs; rw [this]
      simp only [sub, List.flatten_append]
      have l1 : (l.take A).flatten.length = A * sz := by
        rw [flatten_length (fun cs hcs => hu1 cs (List.mem_of_mem_take hcs)), List.length_take]; congr 1; omega
      have l2 : ((l.take Z).drop A).flatten.length = (Z - A) * sz := by rw [flatten_length hun, hlen]
      rw [List.append_assoc, ← l1, List.drop_left, ← l2, List.take_left]
    rw [hfl] at r1
    by_cases hcA : cp = A
    · -- the address stays
      have hZA : Z = A := by omega
      have hnil : (l.take Z).drop A = [] := List.eq_nil_of_length_eq_zero (by rw [hlen]; omega)
      rw [hnil] at r1
      obtain ⟨_, rfl⟩ := RepL.nil_inv r1
      refine ⟨.slice (some b) 0 0, [(b.block, b.off + 0 * sz)], ?_, ?_, ?_, by simp⟩
      · have := run_slice_lst (b := some b) hu hj hb0
        rw [if_pos hcA] at this
        rw [this, hcA, hZA]; simp
      · simp only [slV, hZ, hA]
        rw [hnil]
        have := Rep.lst (w := w) (sz := sz) (els := []) (a := b) (c := 0) (xs := []) (F := []) ⟨hdr.1, by
          obtain ⟨arr, ty, fr, q1, q2⟩ := hdr.2; exact ⟨arr, ty, fr, q1, by simp; omega⟩⟩ (Nat.le_refl _) (by simp) (by simp) (by intro j x hx; simp at hx) .nil
        simpa using this
      · intro f hf
        simp at hf; subst hf
        exact ⟨_, List.mem_cons_self .., rfl, by simp⟩
    · refine ⟨.slice (some (b.add (A * sz))) (Z - A) (cp - A), ((b.add (A * sz)).block, (b.add (A * sz)).off + ((l.take Z).drop A).length * sz) :: F', ?_, ?_, ?_, by
        rw [List.map_cons, List.map_cons, show (b.add (A * sz)).block = b.block by rw [addr_add_plain hdr.1]]
        exact List.Sublist.cons_cons _ (r2.map _)⟩
      · have := run_slice_lst (b := some b) hu hj hb0
        rw [if_neg hcA, hjs, hsz] at this
        exact this
      · simp only [slV, hZ, hA]
        rw [← hlen]
        refine .lst ?_ (by rw [hlen]; omega) hun hon ?_ r1
        · rw [addr_add_plain hdr.1]
          refine ⟨rfl, ?_⟩
          obtain ⟨arr, ty, fr, q1, q2⟩ := hdr.2
          refine ⟨arr, ty, fr, q1, ?_⟩
          have : (cp - A) * sz + A * sz = cp * sz := by rw [← Nat.add_mul]; congr 1; omega
          simp only; omega
        · intro j x hx
          rw [add_add hdr.1]
          apply hm
          simp only [subx, List.getElem?_take] at hx
          split at hx
          · rw [List.getElem?_drop] at hx; exact hx
          · cases hx
      · intro f hf
        rcases List.mem_cons.1 hf with rfl | hf
        · refine ⟨_, List.mem_cons_self .., by rw [addr_add_plain hdr.1], ?_⟩
          rw [addr_add_plain hdr.1, hlen]
          have : A * sz + (Z - A) * sz = Z * sz := by rw [← Nat.add_mul]; congr 1; omega
          have := Nat.mul_le_mul_right sz hZl
          simp only; omega
        · exact ⟨f, List.mem_cons_of_mem _ (r2.subset hf), rfl, Nat.le_refl _⟩

/-! #### '==' at structs of plain fields -/

def kindT (P : Program) : Nat → Nat → Prop
  | 0, t => P.underlying t = some (.int .i64)
  | 1, t => P.underlying t = some .bool
  | 2, t => P.underlying t = some .string
  | _, _ => False

inductive KindsT (P : Program) : List Field → List Nat → Prop
  | nil : KindsT P [] []
  | cons {f q fs ks} (h : kindT P q f.type) (t : KindsT P fs ks) : KindsT P (f :: fs) (q :: ks)

theorem eqFields_run (d : Nat) (xs0 ys0 : List Value) : ∀ (fs : List Field) (ks : List Nat) (k : Nat) (vs us : List PV) (xs ys : List Value) {F1 F2 : Foot},
    KindsT P fs ks → (∀ j f, fs[j]? = some f → f.offset = k + j ∧ f.name ≠ "_") → xs0.drop k = xs → ys0.drop k = ys →
    RepL w vs xs F1 → RepL w us ys F2 → conf ks vs = true → conf ks us = true →
    (Op.eqFields (d + 1) xs0.toArray ys0.toArray fs).run P w = .ok (Ex.val.eqL vs us) w
  | [], [], k, vs, us, xs, ys, _, _, _, _, _, _, h3, h4, h5, h6 => by
    cases vs with
    | cons _ _ => simp [conf] at h5
    | nil => cases us with
      | cons _ _ => simp [conf] at h6
      | nil => simp [Op.eqFields, Ex.val.eqL]
  | f :: fs, q :: ks, k, vs, us, xs, ys, _, _, .cons hq hqs, hoff, hx, hy, h3, h4, h5, h6 => by
    have h0 := hoff 0 f rfl
    simp only [Nat.add_zero] at h0
    have key : ∀ (v u : PV) (vs' us' : List PV), vs = v :: vs' → us = u :: us' → ∀ (b : Bool), (∀ (x y : Value) G1 G2, Rep w v x G1 → Rep w u y G2 →
        (isAgg f.type).run P w = .ok false w ∧ (Op.equalIn (d + 1) f.type x y).run P w = .ok b w) →
        conf ks vs' = true → conf ks us' = true → (Op.eqFields (d + 1) xs0.toArray ys0.toArray (f :: fs)).run P w = .ok (b && Ex.val.eqL vs' us') w := by
      intro v u vs' us' hv hu b hb c1 c2
      subst hv; subst hu
      obtain ⟨x, xs', G1, G1', rfl, _, r1, r1'⟩ := h3.cons_inv
      obtain ⟨y, ys', G2, G2', rfl, _, r2, r2'⟩ := h4.cons_inv
      obtain ⟨ha, he⟩ := hb x y G1 G2 r1 r2
      have hx0 : xs0[k]? = some x := by rw [← List.head?_drop, hx]; rfl
      have hy0 : ys0[k]? = some y := by rw [← List.head?_drop, hy]; rfl
      have ih := eqFields_run d xs0 ys0 fs ks (k + 1) vs' us' xs' ys' hqs (fun j g hg => by
        have := hoff (j + 1) g (by simpa using hg)
        exact ⟨by rw [this.1]; omega, this.2⟩) (by rw [← List.drop_drop, hx]; rfl) (by rw [← List.drop_drop, hy]; rfl) r1' r2' c1 c2
      simp only [Op.eqFields, ne_eq, h0.2, not_false_eq_true, if_true, Sem.run_bind, part, ha, Result.andThen, Bool.false_eq_true, if_false, List.getElem?_toArray, h0.1, hx0, hy0, Sem.run_pure, he]
      cases b
      · simp
      · simp [ih]
    rcases q with _ | _ | _ | q
    · cases vs with
      | nil => simp [conf] at h5
      | cons v vs => cases us with
        | nil => simp [conf] at h6
        | cons u us =>
          cases v <;> (try simp [conf] at h5)
          cases u <;> (try simp [conf] at h6)
          rename_i k1 n1 k2 n2
          cases k1 <;> simp [conf] at h5
          cases k2 <;> simp [conf] at h6
          rw [show Ex.val.eqL (.int .i64 n1 :: vs) (.int .i64 n2 :: us) = (decide (n1 = n2) && Ex.val.eqL vs us) from rfl]
          refine key _ _ _ _ rfl rfl _ (fun x y G1 G2 r1 r2 => ?_) h5 h6
          obtain ⟨rfl, _⟩ := r1.int_inv
          obtain ⟨rfl, _⟩ := r2.int_inv
          exact ⟨by simp [isAgg, run_underlying hq], by rw [run_equalIn_int w d f.type _ _ _ _ hq]; congr 1⟩
    · cases vs with
      | nil => simp [conf] at h5
      | cons v vs => cases us with
        | nil => simp [conf] at h6
        | cons u us =>
          cases v <;> simp [conf] at h5
          cases u <;> simp [conf] at h6
          rename_i b1 b2
          rw [show Ex.val.eqL (.bool b1 :: vs) (.bool b2 :: us) = ((b1 == b2) && Ex.val.eqL vs us) from rfl]
          refine key _ _ _ _ rfl rfl _ (fun x y G1 G2 r1 r2 => ?_) h5 h6
          obtain ⟨rfl, _⟩ := r1.bool_inv
          obtain ⟨rfl, _⟩ := r2.bool_inv
          exact ⟨by simp [isAgg, run_underlying hq], run_equalIn_bool w d f.type _ _ hq⟩
    · cases vs with
      | nil => simp [conf] at h5
      | cons v vs => cases us with
        | nil => simp [conf] at h6
        | cons u us =>
          cases v <;> simp [conf] at h5
          cases u <;> simp [conf] at h6
          rename_i s1 s2
          rw [show Ex.val.eqL (.str s1 :: vs) (.str s2 :: us) = (decide (s1 = s2) && Ex.val.eqL vs us) from rfl]
          refine key _ _ _ _ rfl rfl _ (fun x y G1 G2 r1 r2 => ?_) h5 h6
          obtain ⟨rfl, _⟩ := r1.str_inv
          obtain ⟨rfl, _⟩ := r2.str_inv
          exact ⟨by simp [isAgg, run_underlying hq], by rw [run_equalIn_string w d f.type _ _ hq, bytes_beq]⟩
    · exact hq.elim

end
end Go.Eng
namespace Go.Eng
open Go Go.RowKit
set_option linter.unusedSimpArgs false
set_option linter.unusedVariables false

/-! ### maps from points to numbers -/

section
variable {P : Program} {w : World}

theorem intB_spec {t : Nat} (h : intB P t = true) : P.underlying t = some (.int .i64) := by
  unfold intB at h
  split at h
  · assumption
  · cases h
theorem ptKey_spec {K : Nat} (h : ptKeyB P K = true) : ∃ fs : Array Field, ∃ f0 f1, P.underlying K = some (.struct fs) ∧ fs.toList = [f0, f1] ∧ f0.offset = 0 ∧ f1.offset = 1 ∧ f0.name ≠ "_" ∧ f1.name ≠ "_" ∧ P.underlying f0.type = some (.int .i64) ∧ P.underlying f1.type = some (.int .i64) := by
  unfold ptKeyB at h
  split at h
  · rename_i fs hu
    split at h
    · rename_i f0 f1 hl
      simp only [Bool.and_eq_true, beq_iff_eq, bne_iff_ne, ne_eq] at h
      obtain ⟨⟨⟨⟨⟨h1, h2⟩, h3⟩, h4⟩, h5⟩, h6⟩ := h
      exact ⟨fs, f0, f1, hu, hl, h1, h2, h3, h4, intB_spec h5, intB_spec h6⟩
    · cases h
  · cases h
theorem mapB_spec {T : Nat} (h : mapB P T = true) : ∃ K E, P.underlying T = some (.map K E) ∧ P.stoodInHeld K = false ∧ ptKeyB P K = true ∧ P.underlying E = some (.int .i64) ∧ (zeroValue E).run P w = .ok (.int .i64 0) w := by
  unfold mapB at h
  split at h
  · rename_i K E hu
    simp only [Bool.and_eq_true, Bool.not_eq_true'] at h
    obtain ⟨⟨⟨h1, h2⟩, h3⟩, h4⟩ := h
    refine ⟨K, E, hu, h1, h2, intB_spec h3, ?_⟩
    unfold zeroB at h4
    split at h4
    · rename_i j hj
      split at h4
      · rename_i hz
        simp [zeroValue, typeInfo, hj, hz]
      · cases h4
    · cases h4
  · cases h

theorem run_isAgg_int {t : Nat} (h : P.underlying t = some (.int .i64)) : (isAgg t).run P w = .ok false w := by
  simp [isAgg, run_underlying h]
theorem run_part_int {t off : Nat} (h : P.underlying t = some (.int .i64)) {xs : Array Value} {v : Value} (hv : xs[off]? = some v) : (part t xs off).run P w = .ok v w := by
  simp [part, run_isAgg_int h, Result.andThen, hv]
theorem run_checkKey_int (em : Bool) (n : Nat) {t : Nat} (h : P.underlying t = some (.int .i64)) (v : Value) : (Instr.checkKey em (n + 1) t v).run P w = .ok () w := by
  simp [Instr.checkKey, run_underlying h]
theorem run_checkKey_pt (em : Bool) {K : Nat} (h : ptKeyB P K = true) (a b : Int) : (Instr.checkKey em 10000 K (ptv a b)).run P w = .ok () w := by
  obtain ⟨fs, f0, f1, hu, hl, o0, o1, n0, n1, t0, t1⟩ := ptKey_spec h
  rw [show (10000 : Nat) = 9999 + 1 from rfl, Instr.checkKey]
  simp only [Sem.run_bind, run_underlying hu, Result.andThen_ok, ptv]
  rw [← Array.forIn_toList, hl]
  have p0 : (part f0.type #[Value.int .i64 a, .int .i64 b] f0.offset).run P w = .ok (.int .i64 a) w := run_part_int t0 (by rw [o0]; rfl)
  have p1 : (part f1.type #[Value.int .i64 a, .int .i64 b] f1.offset).run P w = .ok (.int .i64 b) w := run_part_int t1 (by rw [o1]; rfl)
  have c0 := run_checkKey_int (P := P) (w := w) em 9998 t0 (.int .i64 a)
  have c1 := run_checkKey_int (P := P) (w := w) em 9998 t1 (.int .i64 b)
  simp only [List.forIn_cons, List.forIn_nil, Sem.run_bind, n0, n1, ne_eq, not_false_eq_true, if_true, Result.andThen_ok, p0, p1, c0, c1, Sem.run_pure]
theorem run_equal_pt {K : Nat} (hs : P.stoodInHeld K = false) (h : ptKeyB P K = true) (a b c d : Int) : (Op.equal K (ptv a b) (ptv c d)).run P w = .ok (decide (a = c) && decide (b = d)) w := by
  obtain ⟨fs, f0, f1, hu, hl, o0, o1, n0, n1, t0, t1⟩ := ptKey_spec h
  have hfo : P.fieldsOf K = fs := by simp [Program.fieldsOf, hu]
  have hu' : P.underlying K = some (.struct (P.fieldsOf K)) := by rw [hfo]; exact hu
  show (Op.equalIn 10000 K _ _).run P w = _
  unfold ptv
  rw [run_equalIn_struct w 9999 K _ _ hu' hs, hfo, hl]
  have e0 : (Op.equalIn 9999 f0.type (.int .i64 a) (.int .i64 c)).run P w = .ok (a == c) w := run_equalIn_int (P := P) w 9998 f0.type .i64 .i64 a c t0
  have e1 : (Op.equalIn 9999 f1.type (.int .i64 b) (.int .i64 d)).run P w = .ok (b == d) w := run_equalIn_int (P := P) w 9998 f1.type .i64 .i64 b d t1
  have p : ∀ x y : Int, (part f0.type #[Value.int .i64 x, .int .i64 y] f0.offset).run P w = .ok (.int .i64 x) w := fun x y => run_part_int t0 (by rw [o0]; rfl)
  have q : ∀ x y : Int, (part f1.type #[Value.int .i64 x, .int .i64 y] f1.offset).run P w = .ok (.int .i64 y) w := fun x y => run_part_int t1 (by rw [o1]; rfl)
  simp only [Op.eqFields, ne_eq, n0, n1, not_false_eq_true, if_true, Sem.run_bind, p, q, Result.andThen_ok, e0, e1, Sem.run_pure]
  show _ = Result.ok ((a == c) && (b == d)) w
  rcases Bool.eq_false_or_eq_true (a == c) with ha | ha <;> rcases Bool.eq_false_or_eq_true (b == d) with hb | hb <;> rw [hb] at e1 <;> simp [ha, hb, e1, q, Result.andThen]
theorem run_findAsking_pt {K : Nat} (hs : P.stoodInHeld K = false) (h : ptKeyB P K = true) (x y : Int) : ∀ (es : List MapEntry) (l : List (Int × Int × Int)) (i : Nat), es.map (fun e => (e.key, e.val)) = l.map vent →
    (lookE x y l = none ∧ (Instr.findAsking K (ptv x y) es i).run P w = .ok none w ∧ (es.map fun e => (e.key, e.val)) ++ [(ptv x y, Value.int .i64 0)] = (l ++ [(x, y, 0)]).map vent) ∨
    ∃ j n, lookE x y l = some n ∧ (Instr.findAsking K (ptv x y) es i).run P w = .ok (some (i + j, .int .i64 n)) w ∧ j < es.length ∧ l[j]? = some (x, y, n) ∧ ∀ m, putE x y m l = l.set j (x, y, m)
  | [], [], i, _ => .inl ⟨rfl, by simp [Instr.findAsking], by simp [vent]⟩
  | [], _ :: _, i, he => by simp at he
  | _ :: _, [], i, he => by simp at he
  | e :: es, f :: l, i, he => by
    simp only [List.map_cons, List.cons.injEq] at he
    obtain ⟨h1, h2⟩ := he
    have hk : e.key = ptv f.1 f.2.1 := congrArg Prod.fst h1
    have hv : e.val = .int .i64 f.2.2 := congrArg Prod.snd h1
    have heq := run_equal_pt (P := P) (w := w) hs h x y f.1 f.2.1
    rw [← hk] at heq
    by_cases hc : f.1 = x ∧ f.2.1 = y
    · right
      obtain ⟨c1, c2⟩ := hc
      refine ⟨0, f.2.2, by simp [lookE, c1, c2], ?_, by simp, by simp [← c1, ← c2], fun m => by simp [putE, c1, c2]⟩
      simp [Instr.findAsking, heq, c1, c2, hv, Result.andThen]
    · have hne : (decide (x = f.1) && decide (y = f.2.1)) = false := by
        cases hd : (decide (x = f.1) && decide (y = f.2.1)) with
        | false => rfl
        | true =>
          simp only [Bool.and_eq_true, decide_eq_true_eq] at hd
          exact absurd ⟨hd.1.symm, hd.2.symm⟩ hc
      rw [hne] at heq
      rcases run_findAsking_pt hs h x y es l (i + 1) h2 with ⟨g1, g2, g3⟩ | ⟨j, n, g1, g2, g3, g4, g5⟩
      · left
        refine ⟨by simp [lookE, hc, g1], by simp [Instr.findAsking, heq, g2, Result.andThen], ?_⟩
        simp only [List.map_cons, List.cons_append, List.cons.injEq]
        exact ⟨h1, by simpa using g3⟩
      · right
        refine ⟨j + 1, n, by simp [lookE, hc, g1], ?_, by simp; omega, by simpa using g4, fun m => by simp [putE, hc, g5]⟩
        simp [Instr.findAsking, heq, g2, Result.andThen, Nat.add_assoc, Nat.add_comm 1 j]
theorem ptKey_wide {K : Nat} (h : ptKeyB P K = true) : (match P.underlying K with | some (.array _ _) | some (.struct _) => true | _ => false) = true := by
  obtain ⟨fs, _, _, hu, _⟩ := ptKey_spec h
  rw [hu]
theorem run_lookup_pt {T b : Nat} (h : mapB P T = true) {es : Array MapEntry} {ck : Nat} {l : List (Int × Int × Int)} (hb : w.heap[b]? = some (.map es ck)) (hl : es.toList.map (fun e => (e.key, e.val)) = l.map vent) (x y : Int) :
    (Instr.lookup T (.map (some b)) (ptv x y) true).run P w = .ok (.tuple #[.int .i64 ((lookE x y l).getD 0), .bool (lookE x y l).isSome]) w := by
  obtain ⟨K, E, hT, hs, hk, hE, hz⟩ := mapB_spec (w := w) h
  have hc := run_checkKey_pt (P := P) (w := w) es.isEmpty hk x y
  have hf : (Instr.findKey K (ptv x y) es.toList).run P w = (Instr.findAsking K (ptv x y) es.toList).run P w := run_findKey_eq w (ptKey_wide hk) _ _
  unfold Instr.lookup
  simp only [Sem.run_bind, run_underlying hT, Result.andThen_ok, MapKept.run_getObj_map hb, hc, hf, Sem.run_pure]
  rcases run_findAsking_pt (w := w) hs hk x y es.toList l 0 hl with ⟨g1, g2, _⟩ | ⟨j, n, g1, g2, _⟩
  · simp [g1, g2, hz, Result.andThen]
  · simp [g1, g2, Result.andThen]
/-- a map's block turned -/
def setM (w : World) (b : Nat) (o : Obj) : World := { w with heap := w.heap.setIfInBounds b o }
theorem run_update_pt {T b : Nat} (h : mapB P T = true) {es : Array MapEntry} {ck : Nat} {l : List (Int × Int × Int)} (hb : w.heap[b]? = some (.map es ck)) (hl : es.toList.map (fun e => (e.key, e.val)) = l.map vent) (hbo : bornOK (es.toList.map (·.born)) ck) (x y n : Int) :
    ∃ es' ck', (Instr.mapUpdate T (.map (some b)) (ptv x y) (.int .i64 n)).run P w = .ok () (setM w b (.map es' ck')) ∧ es'.toList.map (fun e => (e.key, e.val)) = (putE x y n l).map vent ∧ bornOK (es'.toList.map (·.born)) ck' := by
  obtain ⟨K, E, hT, hs, hk, hE, hz⟩ := mapB_spec (w := w) h
  have hc := run_checkKey_pt (P := P) (w := w) false hk x y
  have hf : (Instr.findKey K (ptv x y) es.toList).run P w = (Instr.findAsking K (ptv x y) es.toList).run P w := run_findKey_eq w (ptKey_wide hk) _ _
  have hnew : ∀ l : List (Int × Int × Int), lookE x y l = none → putE x y n l = l ++ [(x, y, n)] := by
    intro l
    induction l with
    | nil => intro _; rfl
    | cons e r ih =>
      intro h0
      unfold lookE at h0
      split at h0
      · cases h0
      · rename_i hc
        simp [putE, hc, ih h0]
  rcases run_findAsking_pt (w := w) hs hk x y es.toList l 0 hl with ⟨g1, g2, g3⟩ | ⟨j, m, g1, g2, g3, g4, g5⟩
  · refine ⟨es.push ⟨ptv x y, .int .i64 n, ck⟩, ck + 1, ?_, ?_, ?_⟩
    · simp [Instr.mapUpdate, run_underlying hT, MapKept.run_getObj_map hb, hc, hf, g2, MapKept.run_setObj_map _ hb, Result.andThen, setM]
    · rw [hnew l g1, Array.toList_push, List.map_append, List.map_append, hl]
      simp [vent]
    · rw [Array.toList_push, List.map_append]
      refine ⟨List.pairwise_append.2 ⟨hbo.1, by simp, ?_⟩, ?_⟩
      · intro a ha b hb
        simp only [List.map_cons, List.map_nil, List.mem_singleton] at hb
        rw [hb]; exact hbo.2 a ha
      · intro b hb
        rcases List.mem_append.1 hb with hb | hb
        · have := hbo.2 b hb; omega
        · simp only [List.map_cons, List.map_nil, List.mem_singleton] at hb; omega
  · have hj : j < es.size := by simpa using g3
    have hkj : es[j].key = ptv x y := by
      have := congrArg (fun L => L[j]?) hl
      simp only [List.getElem?_map, g4, Option.map_some, Array.getElem?_toList, Array.getElem?_eq_getElem hj, Option.some.injEq] at this
      exact congrArg Prod.fst this
    have hst : (Instr.keyThatStays (ptv x y) (ptv x y)).run P w = .ok (ptv x y) w := by
      simp [Instr.keyThatStays, ptv, Instr.sameBits]
    have hst2 : ((es[j]?).map (·.key)).getD (ptv x y) = ptv x y := by simp [hj, hkj]
    refine ⟨es.modify j fun e => { e with key := ptv x y, val := .int .i64 n }, ck, ?_, ?_, ?_⟩
    · simp [Instr.mapUpdate, run_underlying hT, MapKept.run_getObj_map hb, hc, hf, g2, hj, hkj, hst, MapKept.run_setObj_map _ hb, Result.andThen, setM]
    · rw [g5]
      apply List.ext_getElem?
      intro k
      have hk0 := congrArg (fun L => L[k]?) hl
      simp only [List.getElem?_map, Array.getElem?_toList] at hk0
      by_cases hkj' : k = j
      · subst hkj'
        have hlj : k < l.length := by
          rcases Nat.lt_or_ge k l.length with h | h
          · exact h
          · rw [List.getElem?_eq_none h] at g4; cases g4
        simp [Array.getElem?_modify, hj, hlj, vent, List.getElem?_set]
      · have hjk : ¬ j = k := fun hh => hkj' hh.symm
        simp only [List.getElem?_map, Array.getElem?_toList, Array.getElem?_modify, hjk, if_false, List.getElem?_set, hk0]
    · have hbe : (es.modify j fun e => { e with key := ptv x y, val := .int .i64 n }).toList.map (·.born) = es.toList.map (·.born) := by
        apply List.ext_getElem?
        intro k
        simp only [List.getElem?_map, Array.getElem?_toList, Array.getElem?_modify]
        by_cases hkj' : j = k
        · subst hkj'
          simp [hj]
        · simp [hkj']
      rw [hbe]; exact hbo
end
end Go.Eng
namespace Go.Eng
open Go Go.RowKit
set_option linter.unusedSimpArgs false
set_option linter.unusedVariables false

def Stp (c : Ctx) (w w' : World) : Prop :=
  w'.os = w.os ∧ w'.tape = w.tape ∧ w'.output = w.output ∧ w.heap.size ≤ w'.heap.size ∧ ∀ k, ¬ c.mine k → w'.heap[k]? = w.heap[k]?
theorem Stp.refl (c : Ctx) (w : World) : Stp c w w := ⟨rfl, rfl, rfl, Nat.le_refl _, fun _ _ => rfl⟩
theorem Stp.trans {c : Ctx} {a b d : World} (h : Stp c a b) (k : Stp c b d) : Stp c a d :=
  ⟨k.1.trans h.1, k.2.1.trans h.2.1, k.2.2.1.trans h.2.2.1, Nat.le_trans h.2.2.2.1 k.2.2.2.1, fun i hi => (k.2.2.2.2 i hi).trans (h.2.2.2.2 i hi)⟩

section
variable {P : Program} {X : Cx} {c : Ctx} {F E : Nat → Foot} {B : Nat → Nat} {M M' : MF} {V : Env} {a : Act} {w w' : World} {G : GL} {o : Oper} {p : Plan}

def Core (P : Program) (c : Ctx) (F E : Nat → Foot) (B : Nat → Nat) (M : MF) (V : Env) (a : Act) (w : World) (o : Oper) (p : Plan) : Prop :=
  ∀ e, p.p = .set p.d e → e.ok V → ∃ xv w', (execOp a.eval o).run P w = .ok (.value xv) w' ∧ Stp c w w' ∧ Fin c F E B M V (Act.x a) w w' p.d p.m p.dem (e.val V) xv

/-- nothing but a value -/
theorem Core.of_pure {d : Nat} {m : Md} {e : Ex} (h : e.ok V → ∃ xv, (execOp a.eval o).run P w = .ok (.value xv) w ∧ Fin c F E B M V (Act.x a) w w d m [] (e.val V) xv) :
    Core P c F E B M V a w o ⟨d, m, [], .set d e, false⟩ := by
  intro e' he hok
  simp only [POp.set.injEq, true_and] at he
  subst he
  obtain ⟨xv, h1, h2⟩ := h hok
  exact ⟨xv, w, h1, Stp.refl _ _, h2⟩

theorem frOf_spec (h : Pre P X c F E B M M' V a w G) {s r sz : Nat} (hf : frOf M' s = some r) (hz : frSz (M' r).m = some sz) :
    M' r = M r ∧ (M r).m = .fr sz ∧ Act.x a s = Act.x a r ∧ SlotR c F E B M V (Act.x a) w r (.fr sz) := by
  have hMr : M' r = M r := sb_ne h.sb (fun h0 => by rw [h0] at hz; cases hz)
  rw [hMr] at hz
  have hm : (M r).m = .fr sz := by
    cases hm : (M r).m <;> rw [hm] at hz <;> simp [frSz] at hz
    rw [hz]
  have hg := h.rg.b0 r (by rw [hm]; rfl)
  have hs := ((h.rg.en r).sl (by rw [hg]; simp)).1 (by rw [hg]; simp)
  rw [hm] at hs
  refine ⟨hMr, hm, ?_, hs⟩
  have hMs : M' s = M s := sb_ne h.sb (fun h0 => by simp [frOf, h0] at hf)
  unfold frOf at hf
  rw [hMs] at hf
  split at hf
  · split at hf
    · simp only [Option.some.injEq] at hf; rw [hf]
    · cases hf
  · rename_i hbp
    split at hf
    · simp only [Option.some.injEq] at hf; rw [hf]
    · cases hf
  · rename_i hbp
    split at hf
    · simp only [Option.some.injEq] at hf; rw [hf]
    · cases hf
  · rename_i r' n hms
    split at hf
    · rename_i hc
      simp only [Option.some.injEq] at hf; subst hf
      simp only [Bool.and_eq_true, beq_iff_eq] at hc
      have hss := ((h.rg.en s).sl (by rw [hc.1]; simp)).1 (by rw [hc.1]; simp)
      rw [hms] at hss
      exact hss.2 (by rw [← hMr]; exact hc.2)
    · cases hf
  · cases hf

/-- the map behind a slot -/
theorem frOf_mp (h : Pre P X c F E B M M' V a w G) {s r : Nat} (hf : frOf M' s = some r) (hz : (M' r).m = .mp) :
    M' r = M r ∧ (M r).m = .mp ∧ Act.x a s = Act.x a r ∧ MapR w (B r) (V r) (Act.x a r) ∧ F r = [] := by
  have hMr : M' r = M r := sb_ne h.sb (fun h0 => by rw [h0] at hz; cases hz)
  rw [hMr] at hz
  have hg := h.rg.b0 r (by rw [hz]; rfl)
  have hs := ((h.rg.en r).sl (by rw [hg]; simp)).1 (by rw [hg]; simp)
  rw [hz] at hs
  refine ⟨hMr, hz, ?_, hs⟩
  have hMs : M' s = M s := sb_ne h.sb (fun h0 => by simp [frOf, h0] at hf)
  unfold frOf at hf
  rw [hMs] at hf
  split at hf
  iterate 3
    · split at hf
      · simp only [Option.some.injEq] at hf; rw [hf]
      · cases hf
  · rename_i r' n hms
    split at hf
    · rename_i hc
      simp only [Option.some.injEq] at hf; subst hf
      simp only [Bool.and_eq_true, beq_iff_eq] at hc
      have hss := ((h.rg.en s).sl (by rw [hc.1]; simp)).1 (by rw [hc.1]; simp)
      rw [hms] at hss
      exact hss.2 (by rw [← hMr]; exact hc.2)
    · cases hf
  · cases hf

theorem core_stepF (h : Pre P X c F E B M M' V a w G) {s r d : Nat} {asg : Bool} (run : (execOp a.eval o).run P w = .ok (.value (a.eval (.tmp s))) w) (hf : frOf M' s = some r)
    (hs : stepF M' G s r d asg = some p) (hr : rootOK p.d p.m = true) : Core P c F E B M V a w o p := by
  unfold stepF at hs
  · split at hs
    · split at hs
      case h_3 => cases hs
      case h_2 =>
        rename_i hb
        obtain ⟨hMr, hm, hx, hmap, hF⟩ := frOf_mp h hf hb
        have hbx : isBox (M r).m = true := by rw [hm]; rfl
        obtain ⟨b1, b2, b3⟩ := h.rg.b1 r hbx
        have hev : a.eval (.tmp s) = Act.x a r := hx
        split at hs
        · cases hs
        split at hs
        · simp only [Option.some.injEq] at hs; subst hs
          intro e he hok
          simp only [POp.set.injEq, true_and] at he
          subst he
          refine ⟨_, w, run, Stp.refl _ _, ?_⟩
          rw [hev]
          have hE0 : E r = [] := (h.rg.en r).ow (by rw [hm]; rfl)
          have hdem : RG c F (setF E r []) B (addDem [(r, .no)] M) V (Act.x a) w ∧ Free c F (setF E r []) w ([] ++ []) :=
            h.rg.float Free.nil r .no [] (by simp) (by simp) (by simp [isBox]) (fun _ => trivial)
          have lone : Lone c F B (addDem [(r, .no)] M) w (B r) := by
            refine ⟨b1, b2, b3, fun t ht => ?_⟩
            by_cases htr : t = r
            · subst htr; simp [addDem, isBox] at ht
            · have : addDem [(r, .no)] M t = M t := by
                have : (t == r) = false := by simpa using htr
                simp [addDem, List.lookup, this]
              rw [this] at ht
              exact fun hh => htr (h.rg.b2 t r ht hbx hh)
          exact ⟨_, _, [], [], B r, hdem.1, hdem.2, hdem.1.still, ⟨hmap, rfl⟩, by simp, by simp, by simp, by simp, fun _ => ⟨lone, by simp⟩⟩
        · simp only [Option.some.injEq] at hs; subst hs
          refine Core.of_pure fun _ => ⟨_, run, ?_⟩
          simp only [rootOK, bne_iff_ne] at hr
          exact Fin.pure h.rg [] ⟨hr, by rw [hMr], hx⟩ rfl Dom.nil
      rename_i ty hb
      split at hs
      · cases hs
      rename_i hc
      simp only [Bool.or_eq_true, bne_iff_ne, ne_eq, not_or, Bool.not_eq_true, Decidable.not_not] at hc
      obtain ⟨_, rfl⟩ := hc
      simp only [Option.some.injEq] at hs; subst hs
      have hMr : M' s = M s := sb_ne h.sb (by rw [hb]; simp)
      rw [hMr] at hb
      have hg := h.rg.b0 s (by rw [hb]; rfl)
      have hs0 := ((h.rg.en s).sl (by rw [hg]; simp)).1 (by rw [hg]; simp)
      rw [hb] at hs0
      obtain ⟨⟨_, _, _, _, h2, _⟩, _⟩ := hs0
      refine Core.of_pure fun _ => ⟨_, run, ?_⟩
      simp only [rootOK, bne_iff_ne] at hr
      exact Fin.pure h.rg [] ⟨hr, by rw [hMr], ⟨B s, 0, none⟩, h2, rfl, by rw [Addr.add_zero']; exact h2⟩ rfl Dom.nil
    · rename_i sz hz
      obtain ⟨hMr, hm, hx, els, arr, tyy, q1, q2, q3, q4, q5, q6, q7, q8⟩ := frOf_spec h hf hz
      have hbx : isBox (M r).m = true := by rw [hm]; rfl
      obtain ⟨b1, b2, b3⟩ := h.rg.b1 r hbx
      have hev : a.eval (.tmp s) = Act.x a r := hx
      obtain ⟨o1, o2⟩ := q8
      simp only [topOf, if_true] at o1 o2
      have hdem : RG c F (setF E r []) B (addDem [(r, .no)] M) V (Act.x a) w ∧ Free c F (setF E r []) w ([] ++ F r) :=
        h.rg.float Free.nil r .no (F r) o1 o2 (by simp [isBox]) (fun _ => trivial)
      have lone : Lone c F B (addDem [(r, .no)] M) w (B r) := by
        refine ⟨b1, b2, b3, fun t ht => ?_⟩
        by_cases htr : t = r
        · subst htr; simp [addDem, isBox] at ht
        · have : addDem [(r, .no)] M t = M t := by
            have : (t == r) = false := by simpa using htr
            simp [addDem, List.lookup, this]
          rw [this] at ht
          exact fun hh => htr (h.rg.b2 t r ht hbx hh)
      split at hs
      · cases hs
      split at hs
      · split at hs
        · simp only [Option.some.injEq] at hs; subst hs
          intro e he hok
          simp only [POp.set.injEq, true_and] at he
          subst he
          refine ⟨_, w, run, Stp.refl _ _, ?_⟩
          rw [hev]
          refine ⟨_, _, F r, F r, B r, hdem.1, hdem.2, hdem.1.still, ⟨els, arr, tyy, q1, q2, q3, q4, q5, q6, q7, ⟨fun e he => he, o2⟩⟩, by simp [mayOwn], ?_, ?_, o2, fun _ => ⟨lone, fun f hf => b3 r f hf⟩⟩
          · exact fun f hf => ⟨.inl (.inl ⟨r, f, hf, rfl, Nat.le_refl _⟩), h.rg.f1 r f hf⟩
          · intro e he
            have h3 := h.rg.e3 r e (o1 e he)
            exact ⟨⟨he, h3.1, h3.2⟩, .inl (.inr ⟨e, by simpa using he, rfl, Nat.le_refl _⟩), fun f hf hfe => h.rg.e5 r e (o1 e he) r f hf hfe⟩
        · simp only [Option.some.injEq] at hs; subst hs
          intro e he hok
          simp only [POp.set.injEq, true_and] at he
          subst he
          refine ⟨_, w, run, Stp.refl _ _, ?_⟩
          rw [hev]
          have hmem : Mem w ⟨B r, 0, none⟩ arr.toList := by
            intro j v hv
            rw [addr_add_plain rfl]
            simp only [World.cell?, Nat.zero_add, q3]
            simpa using hv
          have hrep : Rep w (V r) (Act.x a r) ((B r, 0 + els.length * sz) :: F r) := by
            rw [q1, q2]
            exact .lst ⟨rfl, arr, tyy, (0, 0), q3, by simp only; omega⟩ (Nat.le_refl _) q5 q6 hmem q7
          have hnd : (((B r, 0 + els.length * sz) :: F r).map (·.1)).Nodup := by
            simp only [List.map_cons, List.nodup_cons]
            refine ⟨?_, o2⟩
            intro hh
            obtain ⟨f, hf, hfe⟩ := List.mem_map.1 hh
            exact b3 r f hf hfe
          refine ⟨_, _, (B r, 0 + els.length * sz) :: F r, (B r, 0 + els.length * sz) :: F r, 0, hdem.1, hdem.2, hdem.1.still, ⟨hrep, ⟨fun e he => he, hnd⟩, by simp⟩, by simp [mayOwn], ?_, ?_, hnd, by simp [isBox]⟩
          · intro f hf
            rcases List.mem_cons.1 hf with rfl | hf
            · exact ⟨.inr lone, b2⟩
            · exact ⟨.inl (.inl ⟨r, f, hf, rfl, Nat.le_refl _⟩), h.rg.f1 r f hf⟩
          · intro e he
            rcases List.mem_cons.1 he with rfl | he
            · refine ⟨⟨List.mem_cons_self .., b1, ⟨arr, tyy, q3⟩⟩, .inr lone, fun f hf hfe => ?_⟩
              rcases List.mem_cons.1 hf with rfl | hf
              · exact Nat.le_refl _
              · exact absurd hfe (b3 r f hf)
            · have h3 := h.rg.e3 r e (o1 e he)
              refine ⟨⟨List.mem_cons_of_mem _ he, h3.1, h3.2⟩, .inl (.inr ⟨e, by simpa using he, rfl, Nat.le_refl _⟩), fun f hf hfe => ?_⟩
              rcases List.mem_cons.1 hf with rfl | hf
              · exact absurd hfe.symm (b3 r e he)
              · exact h.rg.e5 r e (o1 e he) r f hf hfe
      · simp only [Option.some.injEq] at hs; subst hs
        refine Core.of_pure fun _ => ⟨_, run, ?_⟩
        simp only [rootOK, bne_iff_ne] at hr
        exact Fin.pure h.rg [] ⟨hr, by rw [hMr], hx⟩ rfl Dom.nil

theorem core_mkf (h : Pre P X c F E B M M' V a w G) (hs : stepO X M' G o = some p) {f : FuncId} {first caps : Array Operand} {d : Nat} (ho : o.op = .makeFunc (.func f) first caps) (hd : o.dst = some d) :
    Core P c F E B M V a w o p := by
  simp only [stepO, ho, hd] at hs
  split at hs
  · rename_i r hf hc
    split at hs
    · cases hs
    · split at hs
      · rename_i dp ty hm'
        have hMr : M' r = M r := sb_ne h.sb (fun h0 => by rw [h0] at hm'; cases hm')
        have hm : (M r).m = .box dp ty := by rw [← hMr]; exact hm'
        have hbx : isBox (M r).m = true := by rw [hm]; rfl
        have hg := h.rg.b0 r hbx
        have hsl := ((h.rg.en r).sl (by rw [hg]; simp)).1 (by rw [hg]; simp)
        rw [hm] at hsl
        obtain ⟨cs, arr, tyy, q1, q2, q3, q4, q5, _⟩ := hsl
        obtain ⟨b1, b2, b3⟩ := h.rg.b1 r hbx
        have hdem : RG c F (setF E r []) B (addDem [(r, .no)] M) V (Act.x a) w ∧ Free c F (setF E r []) w ([] ++ []) :=
          h.rg.float Free.nil r .no [] (by simp) (by simp) (by simp [isBox]) (fun _ => trivial)
        have lone : Lone c F B (addDem [(r, .no)] M) w (B r) := by
          refine ⟨b1, b2, b3, fun t ht => ?_⟩
          by_cases htr : t = r
          · subst htr; simp [addDem, isBox] at ht
          · have : addDem [(r, .no)] M t = M t := by
              have : (t == r) = false := by simpa using htr
              simp [addDem, List.lookup, this]
            rw [this] at ht
            exact fun hh => htr (h.rg.b2 t r ht hbx hh)
        simp only [Option.some.injEq] at hs; subst hs
        intro e he hok
        simp only [POp.set.injEq, true_and] at he
        subst he
        have hfe : first = #[] := by apply Array.ext'; rw [hf]
        have hce : caps = #[.tmp r] := by apply Array.ext'; rw [hc]
        have run : (execOp a.eval o).run P w = .ok (.value (.func (.func f) #[] #[a.eval (.tmp r)])) w := by
          simp [execOp, ho, hfe, hce, Instr.makeFunc]
        have hmem : Mem w ⟨B r, 0, none⟩ arr.toList := by
          intro j v hv
          rw [addr_add_plain rfl]
          simp only [World.cell?, Nat.zero_add, q3]
          simpa using hv
        have hrep : Rep w (V r) (Act.x a r) ((B r, 0 + cs.length) :: F r) := by
          rw [q1, q2]
          exact .ptr ⟨rfl, arr, tyy, (0, 0), q3, by simp only; omega⟩ hmem q5
        refine ⟨_, w, run, Stp.refl _ _, ?_⟩
        refine ⟨_, _, (B r, 0 + cs.length) :: F r, [], 0, hdem.1, hdem.2, hdem.1.still, ?_, fun _ => rfl, ?_, by simp, by simp, by simp [isBox]⟩
        · have := Rep.fn (f := f) (RepL.cons hrep .nil)
          rw [List.append_nil] at this
          exact this
        · intro g hg'
          rcases List.mem_cons.1 hg' with rfl | hg'
          · exact ⟨.inr lone, b2⟩
          · exact ⟨.inl (.inl ⟨r, g, hg', rfl, Nat.le_refl _⟩), h.rg.f1 r g hg'⟩
      · cases hs
  · cases hs

theorem core_move (h : Pre P X c F E B M M' V a w G) (hs : stepO X M' G o = some p) {x : Operand} {d : Nat} (ho : o.op = .move x) (hd : o.dst = some d)
    (hr : rootOK p.d p.m = true) (hn : ∀ tk, p.m ≠ .tup tk) (hn2 : isNilSl x = false) : Core P c F E B M V a w o p := by
  simp only [stepO, ho, hd, stepM, hn2, Bool.false_eq_true, if_false] at hs
  have run : (execOp a.eval o).run P w = .ok (.value (a.eval x)) w := by simp [execOp, ho]
  cases x with
  | tmp s =>
    simp only at hs
    split at hs
    · rename_i r hfr
      exact core_stepF h run hfr hs hr
    split at hs
    · split at hs
      · simp only [Option.some.injEq] at hs; subst hs; exact absurd rfl (hn _)
      · cases hs
    · split at hs
      · rename_i x' hx
        simp only [Bool.false_eq_true, if_false, Option.some.injEq] at hs
        subst hs
        exact Core.of_pure fun _ => ⟨_, run, fin_copy h hx hr⟩
      · cases hs
  | const v =>
    simp only at hs
    split at hs
    · rename_i x' hx
      simp only [Option.some.injEq] at hs
      subst hs
      obtain ⟨Fx, hx'⟩ := h.op_ hx
      refine Core.of_pure fun _ => ⟨_, run, ?_⟩
      simp only [Go.Eng.opd] at hx
      cases hc : cst v with
      | none => rw [hc] at hx; simp at hx
      | some q => rw [hc] at hx; simp at hx; subst hx; exact fin_sc h (cst_rep hc)
    · split at hs
      · simp only [Option.some.injEq] at hs; subst hs
        exact Core.of_pure fun _ => ⟨_, run, Fin.pure h.rg [] trivial rfl Dom.nil⟩
      · cases hs
  | global g => simp [Go.Eng.opd, isNilMp] at hs
  | func f =>
    simp only [Go.Eng.opd, Bool.false_eq_true, if_false, Option.some.injEq] at hs
    subst hs
    exact Core.of_pure fun _ => ⟨_, run, fin_sc h (.fn .nil)⟩


theorem isNilSl_inv {y : Operand} (h : isNilSl y = true) : y = .const (.slice none 0 0) := by
  unfold isNilSl at h
  split at h
  · rfl
  · cases h

theorem core_isn (h : Pre P X c F E B M M' V a w G) {op : BinOp} {t u : TypeId} {x y : Operand} {d : Nat} (ho : o.op = .binOp op t x y u) (hy : isNilSl y = true) {x' : Opd} {i : TI} {e : Nat} (hx : opd M' G x = some x') (hi : X.ti t = some i)
    (hk : i.k = .slice e) (ng : Bool) (hop : op = if ng = true then .neq else .eql) : Core P c F E B M V a w o ⟨d, .sc, [], .set d (.isn ng x'), false⟩ := by
  obtain ⟨F1, h1⟩ := h.op_ hx
  have hu := kindOK.slice (h.tb t i hi) hk
  refine Core.of_pure fun hok => ?_
  have hrep := h1.rep
  have hok' : isL (x'.val V) = true := hok
  cases hv : x'.val V <;> rw [hv] at hok' <;> simp [isL] at hok'
  rename_i sz nl l
  rw [hv] at hrep
  have hye := isNilSl_inv hy
  subst hye
  have key : ∀ (b : Option Addr) (n cp : Nat), a.eval x = .slice b n cp → nl = b.isNone → ∃ xv, (execOp a.eval o).run P w = .ok (.value xv) w ∧ Fin c F E B M V (Act.x a) w w d .sc [] (Ex.val V (.isn ng x')) xv := by
    intro b n cp hb hn
    have hev : Ex.val V (.isn ng x') = .bool (if ng then !b.isNone else b.isNone) := by simp only [Ex.val, hv, nilV, hn]
    rw [hev]
    refine ⟨.bool (if ng then !b.isNone else b.isNone), ?_, fin_sc h (.bool _)⟩
    have hg := run_eqGuard_plain (P := P) (w := w) op t x (.const (.slice none 0 0)) (x := .slice b n cp) (y := .slice none 0 0) (by simp) (by simp)
    have hrun : (do eqGuard op t x (.const (.slice none 0 0)) (.slice b n cp) (.slice none 0 0); binOp op t (.slice b n cp) (.slice none 0 0) : Sem Value).run P w = .ok (.bool (if ng then !b.isNone else b.isNone)) w := by
      cases ng
      · simp only [Bool.false_eq_true, if_false] at hop
        subst hop
        simp [Sem.run_bind, hg, Result.andThen, binOp, Op.equal, Op.maxDepth, Lib.run_equalIn_slice_nil w 9999 t e b n cp 0 0 hu]
      · simp only [if_true] at hop
        subst hop
        simp [Sem.run_bind, hg, Result.andThen, binOp, Op.equal, Op.maxDepth, Lib.run_equalIn_slice_nil w 9999 t e b n cp 0 0 hu]
    have := run_v hrun
    simp only [execOp, ho, hb]
    exact this
  rcases hrep.lst_inv with ⟨q, hn, _⟩ | ⟨b, q, hn, _⟩ | ⟨b, cp, xs, G', q, hn, _⟩
  · exact key none 0 0 q (by rw [hn]; rfl)
  · exact key (some b) 0 0 q (by rw [hn]; rfl)
  · exact key (some b) _ _ q (by rw [hn]; rfl)

theorem core_bin (h : Pre P X c F E B M M' V a w G) (hs : stepO X M' G o = some p) {op : BinOp} {t u : TypeId} {x y : Operand} {d : Nat} (ho : o.op = .binOp op t x y u) (hd : o.dst = some d) : Core P c F E B M V a w o p := by
  simp only [stepO, ho, hd] at hs
  split at hs
  · rename_i hny
    split at hs
    · rename_i x' i hx hi
      split at hs
      · rename_i e hk
        simp only [Option.some.injEq] at hs; subst hs; exact core_isn h ho hny hx hi hk false rfl
      · rename_i e hk
        simp only [Option.some.injEq] at hs; subst hs; exact core_isn h ho hny hx hi hk true rfl
      · cases hs
    · cases hs
  split at hs
  · rename_i x' y' i hx hy hi
    obtain ⟨F1, h1⟩ := h.op_ hx
    obtain ⟨F2, h2⟩ := h.op_ hy
    have hti := h.tb t i hi
    have plain : Core P c F E B M V a w o ⟨d, .sc, [], .set d (.bin op x' y'), false⟩ := by
      refine Core.of_pure fun hok => ?_
      obtain ⟨r, hr, hrep⟩ := bin_run (P := P) op t x y h1.rep h2.rep hok
      exact ⟨r, by simpa [execOp, ho] using run_v hr, fin_sc h hrep⟩
    have eqs : ∀ (ng : Bool) (ks : List Nat), eqKinds X t = some ks → op = (if ng = true then .neq else .eql) → Core P c F E B M V a w o ⟨d, .sc, [], .set d (.eqa ng ks x' y'), false⟩ := by
      intro ng ks hk hop
      refine Core.of_pure fun hok => ?_
      obtain ⟨vs, us, ev, eu, c1, c2⟩ := hok
      have r1 := h1.rep
      have r2 := h2.rep
      rw [ev] at r1
      rw [eu] at r2
      obtain ⟨xs, hxs, l1⟩ := r1.agg_inv
      obtain ⟨ys, hys, l2⟩ := r2.agg_inv
      simp only [eqKinds, hi] at hk
      split at hk
      · rename_i fl hfl
        split at hk
        · cases hk
        · rename_i hc
          simp only [Bool.not_eq_true', Bool.not_eq_false, Bool.and_eq_true, beq_iff_eq] at hc
          have hE := tiB.eq hti hc.1.1
          obtain ⟨fs, hu, hfs⟩ := kindOK.struct hti hfl
          simp only [eqB, hu, Bool.and_eq_true, Bool.not_eq_true'] at hE
          have hfo : P.fieldsOf t = fs := by simp [Program.fieldsOf, hu]
          have hu' : P.underlying t = some (.struct (P.fieldsOf t)) := by rw [hfo]; exact hu
          have hkinds : KindsT P fs.toList ks := by
            have hall := hc.2
            rw [← hfs] at hk
            clear hfs hall hc hE hfo hu' hu hfl c1 c2
            generalize fs.toList = L at *
            induction L generalizing ks with
            | nil => simp [mapO] at hk; subst hk; exact .nil
            | cons f L ih =>
              simp only [List.map_cons, mapO] at hk
              split at hk
              · rename_i q hq
                split at hk
                · rename_i ks' hks
                  simp only [Option.some.injEq] at hk
                  subst hk
                  refine .cons ?_ (ih ks' hks)
                  split at hq
                  · rename_i j hj
                    have hjt := h.tb _ _ hj
                    split at hq
                    · rename_i hjk; simp only [Option.some.injEq] at hq; subst hq; exact kindOK.int hjt hjk
                    · rename_i hjk; simp only [Option.some.injEq] at hq; subst hq; exact kindOK.bool hjt hjk
                    · rename_i hjk; simp only [Option.some.injEq] at hq; subst hq; exact kindOK.str hjt hjk
                    · cases hq
                  · cases hq
                · cases hk
              · cases hk
          have hoff : ∀ j f, fs.toList[j]? = some f → f.offset = 0 + j ∧ f.name ≠ "_" := by
            intro j f hf
            have hmem : f ∈ fs.toList := List.mem_of_getElem? hf
            refine ⟨?_, by simpa using List.all_eq_true.1 hE.2 f hmem⟩
            have h3 := List.all_eq_true.1 hc.2 ((f.offset, f.type), j) (by
              rw [← hfs, List.mem_zipIdx_iff_getElem?]
              simp [hf])
            simpa using h3
          have hrun := eqFields_run (P := P) (w := w) 9998 xs ys fs.toList ks 0 vs us xs ys hkinds hoff rfl rfl l1 l2 c1 c2
          have hcmp : (Op.equalIn 10000 t (.agg xs.toArray) (.agg ys.toArray)).run P w = .ok (Ex.val.eqL vs us) w := by
            rw [run_equalIn_struct w 9999 t xs.toArray ys.toArray hu' hE.1.1, hfo]
            exact hrun
          have hin : (do eqGuard op t x y (.agg xs.toArray) (.agg ys.toArray); binOp op t (.agg xs.toArray) (.agg ys.toArray) : Sem Value).run P w =
              .ok (.bool (if ng then !Ex.val.eqL vs us else Ex.val.eqL vs us)) w := by
            cases ng
            · subst hop
              simp [Sem.run_bind, run_eqGuard_agg w .eql t x y xs.toArray ys.toArray hE.1.2, Result.andThen, run_eql_struct w t, hcmp]
            · subst hop
              simp [Sem.run_bind, run_eqGuard_agg w .neq t x y xs.toArray ys.toArray hE.1.2, Result.andThen, run_neq_struct w t, hcmp]
          refine ⟨_, ?_, fin_sc h (.bool _)⟩
          simp only [Ex.val, ev, eu, Ex.val.eqP]
          have := run_v hin
          simp only [execOp, ho, hxs, hys]
          exact this
      · cases hk
    split at hs
    · rename_i k hk; simp only [Option.some.injEq] at hs; subst hs; exact plain
    · rename_i hk; simp only [Option.some.injEq] at hs; subst hs; exact plain
    · rename_i hk
      have hb : ∀ ng : Bool, op = (if ng = true then .neq else .eql) → Core P c F E B M V a w o ⟨d, .sc, [], .set d (.beq ng x' y'), false⟩ := by
        intro ng hop
        refine Core.of_pure fun hok => ?_
        have := beq_run (P := P) ng t x y h1.rep h2.rep hok.1 hok.2 (kindOK.bool hti hk)
        exact ⟨_, by simpa [execOp, ho, hop] using run_v this, fin_sc h (.bool _)⟩
      split at hs
      · simp only [Option.some.injEq] at hs; subst hs; exact hb false rfl
      · simp only [Option.some.injEq] at hs; subst hs; exact hb true rfl
      · cases hs
    · rename_i fl hk
      split at hs
      · rename_i ks hks
        split at hs
        · simp only [Option.some.injEq] at hs; subst hs; exact eqs false ks hks rfl
        · simp only [Option.some.injEq] at hs; subst hs; exact eqs true ks hks rfl
        · cases hs
      · cases hs
    · cases hs
  · cases hs

end
end Go.Eng
namespace Go.Eng
open Go Go.RowKit
set_option linter.unusedSimpArgs false
set_option linter.unusedVariables false

section
variable {P : Program} {X : Cx} {c : Ctx} {F E : Nat → Foot} {B : Nat → Nat} {M M' : MF} {V : Env} {a : Act} {w w' : World} {G : GL} {o : Oper} {p : Plan}

theorem core_un (h : Pre P X c F E B M M' V a w G) (hs : stepO X M' G o = some p) {op : UnOp} {t : TypeId} {x : Operand} {d : Nat} (ho : o.op = .unOp op t x) (hd : o.dst = some d) : Core P c F E B M V a w o p := by
  simp only [stepO, ho, hd] at hs
  split at hs
  · rename_i x' hx
    obtain ⟨F1, h1⟩ := h.op_ hx
    split at hs
    · simp only [Option.some.injEq] at hs; subst hs
      exact Core.of_pure fun hok => ⟨_, by simpa [execOp, ho] using run_v (rep_not (P := P) h1.rep hok), fin_sc h (.bool _)⟩
    · simp only [Option.some.injEq] at hs; subst hs
      refine Core.of_pure fun hok => ?_
      obtain ⟨r, hr, hrep⟩ := rep_neg (P := P) h1.rep hok
      exact ⟨r, by simpa [execOp, ho] using run_v hr, fin_sc h hrep⟩
    · cases hs
  · cases hs

theorem core_conv (h : Pre P X c F E B M M' V a w G) (hs : stepO X M' G o = some p) {s t : TypeId} {x : Operand} {d : Nat} (ho : o.op = .convert s t x) (hd : o.dst = some d) : Core P c F E B M V a w o p := by
  simp only [stepO, ho, hd] at hs
  split at hs
  · rename_i x' i j hx hi hj
    obtain ⟨F1, h1⟩ := h.op_ hx
    split at hs
    · rename_i k0 k hk0 hk
      simp only [Option.some.injEq] at hs; subst hs
      exact Core.of_pure fun hok => ⟨_, by simpa [execOp, ho] using run_v (rep_conv (P := P) h1.rep (h.tb _ _ hi) hk0 (h.tb _ _ hj) hk hok), fin_sc h (.int _ _)⟩
    · rename_i e hk0 hk
      split at hs
      · rename_i q hq
        split at hs
        · rename_i hqk
          simp only [Option.some.injEq] at hs; subst hs
          refine Core.of_pure fun hok => ?_
          obtain ⟨r, hr, hrep⟩ := rep_bst (P := P) h1.rep (h.tb _ _ hi) hk0 (h.tb _ _ hj) hk (h.tb _ _ hq) hqk hok
          exact ⟨r, by simpa [execOp, ho] using run_v hr, fin_sc h hrep⟩
        · cases hs
      · cases hs
    · cases hs
  · cases hs

theorem core_index (h : Pre P X c F E B M M' V a w G) (hs : stepO X M' G o = some p) {t : TypeId} {x i : Operand} {d : Nat} (ho : o.op = .index t x i) (hd : o.dst = some d) : Core P c F E B M V a w o p := by
  simp only [stepO, ho, hd] at hs
  split at hs
  · rename_i x' i' it hx hi hit
    obtain ⟨F1, h1⟩ := h.op_ hx
    obtain ⟨F2, h2⟩ := h.op_ hi
    split at hs
    · rename_i hk
      simp only [Option.some.injEq] at hs; subst hs
      refine Core.of_pure fun hok => ?_
      obtain ⟨r, hr, hrep⟩ := rep_six (P := P) h1.rep h2.rep (h.tb _ _ hit) hk hok
      exact ⟨r, by simpa [execOp, ho] using run_v hr, fin_sc h hrep⟩
    · cases hs
  · cases hs

theorem core_field (h : Pre P X c F E B M M' V a w G) (hs : stepO X M' G o = some p) {t : TypeId} {x : Operand} {f : Nat} {d : Nat} (ho : o.op = .field t x f) (hd : o.dst = some d)
    (hr : rootOK p.d p.m = true) : Core P c F E B M V a w o p := by
  simp only [stepO, ho, hd] at hs
  split at hs
  · rename_i x' i hx hi
    obtain ⟨F1, h1⟩ := h.op_ hx
    split at hs
    · rename_i fl hk
      split at hs
      · rename_i q hq
        split at hs
        · rename_i j hj
          split at hs
          · cases hs
          · rename_i hc
            simp only [Bool.or_eq_true, Bool.not_eq_true', Bool.or_eq_false_iff, not_or, Bool.not_eq_false, beq_iff_eq] at hc
            simp only [Option.some.injEq] at hs; subst hs
            refine Core.of_pure fun hok => ?_
            obtain ⟨h3, h4, h5, h6⟩ := hok
            have hag : j.k.agg = true ∨ j.sz = 1 := by
              rcases h4 with h4 | h4
              · exact .inl h4
              · exact .inr h4
            obtain ⟨r, F', hr1, hrep, hsub⟩ := rep_fld (P := P) h1.rep (h.tb _ _ hi) hk (f := f) (off := q.1) (ft := q.2) hq (h.tb _ _ hj) hc.1 hag h3 h5
            exact ⟨r, by simpa [execOp, ho] using run_v hr1, fin_flat h h1 (fun s hs => by subst hs; exact opd_same h.sb hx) hr hrep hsub h6⟩
        · cases hs
      · cases hs
    · cases hs
  · cases hs

theorem mapO_opt {o : Option Operand} {l : List Opd} (h : Pre P X c F E B M M' V a w G) (hl : mapO (opd M' G) o.toList = some l) : OptR w V (o.map a.eval) l.head? := by
  cases o with
  | none => simp [mapO] at hl; subst hl; trivial
  | some x =>
    simp only [Option.toList, mapO] at hl
    split at hl
    · rename_i y hy
      simp only [Option.some.injEq] at hl; subst hl
      obtain ⟨F1, h1⟩ := h.op_ hy
      exact ⟨F1, h1.rep⟩
    · cases hl

theorem core_slice (h : Pre P X c F E B M M' V a w G) (hs : stepO X M' G o = some p) {t : TypeId} {x : Operand} {lo hi : Option Operand} {d : Nat} (ho : o.op = .slice t x lo hi none) (hd : o.dst = some d) : Core P c F E B M V a w o p := by
  simp only [stepO, ho, hd] at hs
  split at hs
  · rename_i x' i lo' hi' hx hi0 hlo hhi
    obtain ⟨F1, h1⟩ := h.op_ hx
    have o1 := mapO_opt h hlo
    have o2 := mapO_opt h hhi
    split at hs
    · rename_i hk
      simp only [Option.some.injEq] at hs; subst hs
      refine Core.of_pure fun hok => ?_
      obtain ⟨r, hr, hrep⟩ := rep_slice_str (P := P) h1.rep (h.tb _ _ hi0) hk o1 o2 hok
      exact ⟨r, by simpa [execOp, ho] using run_v hr, fin_sc h hrep⟩
    · rename_i e hk
      split at hs
      · rename_i j hj
        split at hs
        · cases hs
        · rename_i hc
          simp only [Bool.or_eq_true, Bool.not_eq_true', not_or, Bool.not_eq_false] at hc
          replace hc := hc.1
          simp only [Option.some.injEq] at hs; subst hs
          refine Core.of_pure fun hok => ?_
          obtain ⟨r, F', hr, hrep, hdom, _⟩ := rep_slice_lst (P := P) h1.rep (h.tb _ _ hi0) hk (h.tb _ _ hj) hc rfl o1 o2 hok
          refine ⟨r, by simpa [execOp, ho] using run_v hr, ?_⟩
          have hD : Dom F F' := by
            intro f hf
            obtain ⟨f', h3, h4, h5⟩ := hdom f hf
            obtain ⟨u, f'', h6, h7, h8⟩ := h1.dom f' h3
            exact ⟨u, f'', h6, h7.trans h4, Nat.le_trans h5 h8⟩
          cases x' with
          | c v => exact Fin.pure h.rg F' hrep rfl hD
          | t s =>
            have hM := opd_same h.sb hx
            simp only [Opd.md, hM]
            obtain ⟨q1, q2, q3, q4⟩ := h1
            cases hm : (M s).m <;> simp only <;> first
              | exact Fin.pure h.rg F' hrep rfl hD
              | skip
            rw [hm] at q2
            subst q4
            refine Fin.pure h.rg F' ⟨hrep, fun f hf => ?_⟩ rfl hD
            obtain ⟨f', h3, h4, h5⟩ := hdom f hf
            rw [← h4]; exact q2.2 f' h3
      · cases hs
    · cases hs
  · cases hs

/-- one more guard -/
theorem Pre.guard (h : Pre P X c F E B M M' V a w G) {s : Nat} {b : Bool} (hs : M' s = M s) (hb : V s = .bool b) : Pre P X c F E B M M' V a w ((s, (M' s).v, b) :: G) :=
  ⟨h.tb, h.rg, h.sb, fun q hq => by
    rcases List.mem_cons.1 hq with rfl | hq
    · rw [hs]
    · exact h.gl q hq, fun q hq => by
    rcases List.mem_cons.1 hq with rfl | hq
    · exact hb
    · exact h.gh q hq, h.bs⟩

theorem core_pick (h : Pre P X c F E B M M' V a w G) (hs : stepO X M' G o = some p) {cs : Nat} {x y : Operand} {d : Nat} (ho : o.op = .pick (.tmp cs) x y) (hd : o.dst = some d) : Core P c F E B M V a w o p := by
  simp only [stepO, ho, hd] at hs
  split at hs
  · rename_i c' x' y' hc hx hy
    simp only [Option.some.injEq] at hs; subst hs
    refine Core.of_pure fun hok => ?_
    obtain ⟨F0, h0⟩ := h.op_ hc
    have hct : c' = .t cs := by
      simp only [Go.Eng.opd] at hc
      split at hc
      · simp only [Option.some.injEq] at hc; exact hc.symm
      · cases hc
    subst hct
    have hM := opd_same h.sb hc
    obtain ⟨b, hb⟩ := isBool_inv hok
    have hr0 := h0.rep
    rw [hb] at hr0
    have hcv : a.eval (.tmp cs) = .bool b := hr0.bool_inv.1
    simp only [Opd.val] at hb
    cases b
    · have hp := h.guard hM hb
      obtain ⟨F1, h1⟩ := hp.op_ hy
      refine ⟨a.eval y, by simp [execOp, ho, hcv, asBool], ?_⟩
      simp only [Ex.val, Opd.val, hb, PV.isT, Bool.false_eq_true, if_false]
      split
      · rename_i hsc
        simp only [isSc, Bool.and_eq_true, beq_iff_eq] at hsc
        have : F1 = [] := h1.sc (by rw [← hp.md hy]; exact hsc.2)
        subst this; exact fin_sc h h1.rep
      · exact Fin.pure h.rg F1 h1.rep rfl h1.dom
    · have hp := h.guard hM hb
      obtain ⟨F1, h1⟩ := hp.op_ hx
      refine ⟨a.eval x, by simp [execOp, ho, hcv, asBool], ?_⟩
      simp only [Ex.val, Opd.val, hb, PV.isT, if_true]
      split
      · rename_i hsc
        simp only [isSc, Bool.and_eq_true, beq_iff_eq] at hsc
        have : F1 = [] := h1.sc (by rw [← hp.md hx]; exact hsc.1)
        subst this; exact fin_sc h h1.rep
      · exact Fin.pure h.rg F1 h1.rep rfl h1.dom
  · cases hs

theorem fr_rep {r sz : Nat} (hs : SlotR c F E B M V (Act.x a) w r (.fr sz)) : ∃ n, Rep w (V r) (Act.x a r) ((B r, 0 + n * sz) :: F r) := by
  obtain ⟨els, arr, tyy, q1, q2, q3, q4, q5, q6, q7, q8⟩ := hs
  refine ⟨els.length, ?_⟩
  have hmem : Mem w ⟨B r, 0, none⟩ arr.toList := by
    intro j v hv
    rw [addr_add_plain rfl]
    simp only [World.cell?, Nat.zero_add, q3]
    simpa using hv
  rw [q1, q2]
  exact .lst ⟨rfl, arr, tyy, (0, 0), q3, by simp only; omega⟩ (Nat.le_refl _) q5 q6 hmem q7

theorem core_stepIx (h : Pre P X c F E B M M' V a w G) {t : TypeId} {s r : Nat} {i : Operand} {d : Nat} (hf : frOf M' s = some r) (hs : stepIx X M' G t r i d = some p) (ho : o.op = .indexAddr t (.tmp s) i)
    (hr : rootOK p.d p.m = true) : Core P c F E B M V a w o p := by
  unfold stepIx at hs
  split at hs
  · cases hs
  · split at hs
    · rename_i i' it sz hi hit hz
      obtain ⟨hMr, hm, hx, hsl⟩ := frOf_spec h hf hz
      obtain ⟨F2, h2⟩ := h.op_ hi
      split at hs
      · rename_i e hk
        split at hs
        · rename_i j hj
          split at hs
          · cases hs
          · rename_i hc
            simp only [Bool.or_eq_true, Bool.not_eq_true', not_or, Bool.not_eq_false, bne_iff_ne, ne_eq, Decidable.not_not] at hc
            simp only [Option.some.injEq] at hs; subst hs
            simp only [rootOK, bne_iff_ne] at hr
            refine Core.of_pure fun hok => ?_
            obtain ⟨n, hrep⟩ := fr_rep hsl
            obtain ⟨b, len, cp, e1, e2, e3, e4⟩ := rep_idx (P := P) hrep h2.rep (h.tb _ _ hit) hk (h.tb _ _ hj) hc.1 rfl hok
            have hrun := run_v e4
            have hev : a.eval (.tmp s) = Act.x a r := hx
            rw [← hev] at hrun
            refine ⟨_, by simpa [execOp, ho] using hrun, Fin.pure h.rg [] ⟨hr, by rw [hMr], b, len, cp, (i'.val V).num.toNat, .i64, e1, e3, ?_, e2, by rw [Addr.add_zero']⟩ rfl Dom.nil⟩
            have := hok.2.2.1
            show PV.int .i64 (i'.val V).num = .int .i64 (((i'.val V).num.toNat : Nat) : Int)
            rw [Int.toNat_of_nonneg this]
        · cases hs
      · cases hs
    · cases hs

theorem core_indexAddr (h : Pre P X c F E B M M' V a w G) (hs : stepO X M' G o = some p) {t : TypeId} {s : Nat} {i : Operand} {d : Nat} (ho : o.op = .indexAddr t (.tmp s) i) (hd : o.dst = some d)
    (hr : rootOK p.d p.m = true) : Core P c F E B M V a w o p := by
  simp only [stepO, ho, hd] at hs
  split at hs
  · rename_i r hfr
    exact core_stepIx h hfr hs ho hr
  split at hs
  · rename_i s' i' it hx hi hit
    obtain ⟨F1, h1⟩ := h.op_ hx
    obtain ⟨F2, h2⟩ := h.op_ hi
    have hst : s' = .t s := by
      simp only [Go.Eng.opd] at hx
      split at hx
      · simp only [Option.some.injEq] at hx; exact hx.symm
      · cases hx
    subst hst
    have hM := opd_same h.sb hx
    split at hs
    · rename_i e hk
      split at hs
      · rename_i j hj
        split at hs
        · cases hs
        · rename_i hc
          simp only [Bool.not_eq_true', Bool.not_eq_false] at hc
          simp only [Option.some.injEq] at hs; subst hs
          simp only [rootOK, bne_iff_ne] at hr
          refine Core.of_pure fun hok => ?_
          obtain ⟨b, len, cp, e1, e2, e3, e4⟩ := rep_idx (P := P) h1.rep h2.rep (h.tb _ _ hit) hk (h.tb _ _ hj) hc rfl hok
          refine ⟨_, by simpa [execOp, ho] using run_v e4, Fin.pure h.rg [] ⟨hr, by rw [hM], b, len, cp, (i'.val V).num.toNat, .i64, e1, e3, ?_, e2, by rw [Addr.add_zero']⟩ rfl Dom.nil⟩
          have := hok.2.2.1
          show PV.int .i64 (i'.val V).num = .int .i64 (((i'.val V).num.toNat : Nat) : Int)
          rw [Int.toNat_of_nonneg this]
      · cases hs
    · cases hs
  · cases hs


/-- addresses within variables -/
theorem adr_fin (h : Pre P X c F E B M M' V a w G) {x off d : Nat} {m : Md} {e : Ex} (ha : adrOf M' G x off = some (m, e)) (hr : rootOK d m = true) (hV : e.ok V) :
    ∃ b, Act.x a x = .pointer (some b) ∧ b.spot = none ∧ Fin c F E B M V (Act.x a) w w d m [] (e.val V) (.pointer (some (b.add off))) := by
  simp only [adrOf] at ha
  split at ha
  · cases ha
  · rename_i hg
    simp only [Bool.not_eq_true', Bool.not_eq_false] at hg
    have hM : M' x = M x := sb_ne h.sb (fun h0 => by rw [h0] at ha; simp at ha)
    rw [hM] at ha hg
    have hgq : ∀ q ∈ (M x).g, q ∈ G := fun q hq => by simpa using List.all_eq_true.1 hg q hq
    have hs := ((h.rg.en x).sl (fun q hq => h.gl q (hgq q hq))).1 (fun q hq => h.gh q (hgq q hq))
    have viaPtr : Rep w (V x) (Act.x a x) (F x) → (∃ cs, V x = .ptr cs) → m = .adB x (M x).v off → e = .pck x →
        ∃ b, Act.x a x = .pointer (some b) ∧ b.spot = none ∧ Fin c F E B M V (Act.x a) w w d m [] (e.val V) (.pointer (some (b.add off))) := by
      intro hrep hcs hm he
      obtain ⟨cs, hcs⟩ := hcs
      rw [hcs] at hrep
      obtain ⟨b, xs, G', e1, _, hdr, _⟩ := hrep.ptr_inv
      subst hm; subst he
      simp only [rootOK, bne_iff_ne] at hr
      exact ⟨b, e1, hdr.1, Fin.pure h.rg [] ⟨hr, rfl, b, e1, hdr.1, rfl⟩ rfl Dom.nil⟩
    cases hm : (M x).m <;> rw [hm] at ha hs <;> (try simp only [reduceCtorEq, Option.some.injEq, Prod.mk.injEq] at ha)
    case par =>
      obtain ⟨rfl, rfl⟩ := ha
      refine viaPtr hs.1 ?_ rfl rfl
      simp only [Ex.ok] at hV
      cases hx : V x <;> rw [hx] at hV <;> simp [isPtrV] at hV
      exact ⟨_, rfl⟩
    case ext =>
      obtain ⟨rfl, rfl⟩ := ha
      refine viaPtr hs ?_ rfl rfl
      simp only [Ex.ok] at hV
      cases hx : V x <;> rw [hx] at hV <;> simp [isPtrV] at hV
      exact ⟨_, rfl⟩
    case box dp ty =>
      obtain ⟨rfl, rfl⟩ := ha
      simp only [rootOK, bne_iff_ne] at hr
      obtain ⟨cs, arr, tyy, a1, a2, _⟩ := hs
      exact ⟨_, a2, rfl, Fin.pure h.rg [] ⟨hr, rfl, _, a2, rfl, rfl⟩ rfl Dom.nil⟩
    case boxP ty =>
      obtain ⟨rfl, rfl⟩ := ha
      simp only [rootOK, bne_iff_ne] at hr
      obtain ⟨⟨cs, arr, tyy, a1, a2, _⟩, _⟩ := hs
      exact ⟨_, a2, rfl, Fin.pure h.rg [] ⟨hr, rfl, _, a2, rfl, rfl⟩ rfl Dom.nil⟩
    case adB r n o0 =>
      split at ha
      · rename_i hc
        simp only [Bool.and_eq_true, beq_iff_eq, bne_iff_ne] at hc
        simp only [Option.some.injEq, Prod.mk.injEq] at ha
        obtain ⟨rfl, rfl⟩ := ha
        have hMr := sb_ne h.sb hc.2
        rw [hMr] at hc
        simp only [rootOK, bne_iff_ne] at hr
        obtain ⟨b, e1, e2, e3⟩ := hs.2 hc.1
        refine ⟨b.add o0, e3, by rw [addr_add_plain e2], Fin.pure h.rg [] ⟨hr, hc.1.symm, b, e1, e2, by rw [add_add e2]⟩ rfl Dom.nil⟩
      · cases ha
    case adE s n o0 sz =>
      split at ha
      · rename_i hc
        simp only [Bool.and_eq_true, beq_iff_eq, bne_iff_ne] at hc
        simp only [Option.some.injEq, Prod.mk.injEq] at ha
        obtain ⟨rfl, rfl⟩ := ha
        have hMr := sb_ne h.sb hc.2
        rw [hMr] at hc
        simp only [rootOK, bne_iff_ne] at hr
        obtain ⟨b, len, cp, i, k, e1, e0, e2, e3, e4⟩ := hs.2 hc.1
        have hsp : (b.add (i * sz)).spot = none := by rw [addr_add_plain e0]
        refine ⟨(b.add (i * sz)).add o0, e4, by rw [addr_add_plain hsp], Fin.pure h.rg [] ⟨hr, hc.1.symm, b, len, cp, i, k, e1, e0, e2, e3, by rw [add_add hsp]⟩ rfl Dom.nil⟩
      · cases ha


theorem core_fieldAddr (h : Pre P X c F E B M M' V a w G) (hs : stepO X M' G o = some p) {t : TypeId} {x f : Nat} {d : Nat} (ho : o.op = .fieldAddr t (.tmp x) f) (hd : o.dst = some d)
    (hr : rootOK p.d p.m = true) : Core P c F E B M V a w o p := by
  simp only [stepO, ho, hd] at hs
  split at hs
  · rename_i i hi
    split at hs
    · rename_i fl hk
      split at hs
      · rename_i q hq
        split at hs
        · rename_i j hj
          split at hs
          · cases hs
          · rename_i hc
            simp only [Bool.or_eq_true, Bool.not_eq_true', not_or, beq_iff_eq, Bool.not_eq_false] at hc
            split at hs
            · rename_i m e ha
              simp only [Option.some.injEq] at hs; subst hs
              refine Core.of_pure fun hok => ?_
              obtain ⟨b, e1, e2, e3⟩ := adr_fin h ha hr hok
              refine ⟨_, ?_, e3⟩
              obtain ⟨fs, hu, hfl⟩ := kindOK.struct (h.tb _ _ hi) hk
              obtain ⟨jj, hjj, hjs, _, _⟩ := tiB.info (h.tb _ _ hj) hc.2
              have hff : ∃ fd, fs[f]? = some fd ∧ fd.offset = q.1 ∧ fd.type = q.2 := by
                rw [← hfl, List.getElem?_map] at hq
                cases hh : fs.toList[f]? with
                | none => rw [hh] at hq; simp at hq
                | some fd => rw [hh] at hq; simp at hq; exact ⟨fd, by simpa using hh, by rw [← hq], by rw [← hq]⟩
              obtain ⟨fd, hfd, h1, h2⟩ := hff
              have hx : a.eval (.tmp x) = .pointer (some b) := e1
              have : (Instr.fieldAt t (a.eval (.tmp x)) f).run P w = .ok (.pointer (some (b.add q.1))) w := by
                rw [hx]
                have hz : ¬ jj.size = 0 := by omega
                rw [← h2] at hjj
                simp [Instr.fieldAt, Sem.run_bind, run_underlying hu, Result.andThen, hfd, Instr.sureAddr, fieldPlace, run_sizeOf hjj, hz, h1]
              simpa [execOp, ho] using run_v this
            · cases hs
        · cases hs
      · cases hs
    · cases hs
  · cases hs

theorem core_nilCheck (h : Pre P X c F E B M M' V a w G) (hs : stepO X M' G o = some p) {x : Nat} {d : Nat} (ho : o.op = .nilCheck (.tmp x)) (hd : o.dst = some d)
    (hr : rootOK p.d p.m = true) : Core P c F E B M V a w o p := by
  simp only [stepO, ho, hd] at hs
  have key : ∀ {m e}, adrOf M' G x 0 = some (m, e) → rootOK d m = true → Core P c F E B M V a w o ⟨d, m, [], .set d e, false⟩ := by
    intro m e ha hr
    refine Core.of_pure fun hok => ?_
    obtain ⟨b, e1, e2, e3⟩ := adr_fin h ha hr hok
    rw [Addr.add_zero'] at e3
    have hx : a.eval (.tmp x) = .pointer (some b) := e1
    exact ⟨_, by simp [execOp, ho, hx], e3⟩
  split at hs <;> first
    | cases hs; done
    | skip
  all_goals
    split at hs
    · rename_i m e ha
      simp only [Option.some.injEq] at hs; subst hs
      exact key ha hr
    · cases hs

theorem core_load (h : Pre P X c F E B M M' V a w G) (hs : stepO X M' G o = some p) {t : TypeId} {x : Nat} {d : Nat} (ho : o.op = .load t (.tmp x)) (hd : o.dst = some d)
    (hr : rootOK p.d p.m = true) : Core P c F E B M V a w o p := by
  simp only [stepO, ho, hd] at hs
  split at hs
  · cases hs
  · rename_i hg
    simp only [Bool.not_eq_true', Bool.not_eq_false] at hg
    split at hs
    · rename_i i hi
      split at hs
      · cases hs
      · rename_i hc0
        simp only [Bool.or_eq_true, Bool.not_eq_true', not_or, Bool.not_eq_false, Bool.or_eq_false_iff, beq_eq_false_iff_ne] at hc0
        obtain ⟨hdt, hag0⟩ := hc0
        have hag : i.k.agg = true ∨ i.sz = 1 := by
          cases hA : i.k.agg with
          | true => exact .inl rfl
          | false => exact .inr (Decidable.byContradiction fun h0 => hag0 ⟨hA, h0⟩)
        have hM : M' x = M x := sb_ne h.sb (fun h0 => by have h00 : asAd M' x = .no := by simp [asAd, h0]
                                                         rw [h00] at hs; simp at hs)
        have hMA : asAd M' x = asAd M x := by unfold asAd; rw [hM]
        rw [hMA] at hs
        rw [hM] at hg
        have hgq : ∀ q ∈ (M x).g, q ∈ G := fun q hq => by simpa using List.all_eq_true.1 hg q hq
        have hsl := (((h.rg.en x).sl (fun q hq => h.gl q (hgq q hq))).1 (fun q hq => h.gh q (hgq q hq))).asAd
        have fin_ty : ∀ {d' : Nat} {m : Md} {v' : PV} {xv : Value} {F' : Foot}, (X.flat t = true → scB v' = true) → Rep w v' xv F' → Dom F F' →
            (X.flat t = false → Fin c F E B M V (Act.x a) w w d m [] v' xv) → Fin c F E B M V (Act.x a) w w d (if X.flat t = true then .sc else m) [] v' xv := by
          intro d' m v' xv F' h1 h2 h3 h4
          cases hf : X.flat t with
          | true =>
            have : F' = [] := h2.sc (h1 hf)
            subst this; exact fin_sc h h2
          | false => exact h4 hf
        have viaSelf : ∀ {m : Md}, Rep w (V x) (Act.x a x) (F x) → (∀ {v' xv F'}, Rep w v' xv F' → F'.Sublist (F x) → Fin c F E B M V (Act.x a) w w d m [] v' xv) →
            Core P c F E B M V a w o ⟨d, if X.flat t = true then .sc else m, [], .set d (.ldB x 0 i.sz i.k.agg (X.flat t)), false⟩ := by
          intro m hrep hfin
          refine Core.of_pure fun hok => ?_
          obtain ⟨k0, k1, k2, k3⟩ := hok
          have : ∃ cs, V x = .ptr cs := by
            cases hv : V x <;> rw [hv] at k0 <;> simp [isPtrV] at k0
            exact ⟨_, rfl⟩
          obtain ⟨cs, hcs⟩ := this
          rw [hcs] at hrep k1
          obtain ⟨b', xs, G', q1, q2, q3, q4, q5⟩ := hrep.ptr_inv
          obtain ⟨xv, F', p1, p2, p3, p4⟩ := load_box h hi hdt hag (off := 0) (by rw [Addr.add_zero']; exact q1) q3.1 q4 q5 k1
          have hsub : F'.Sublist (F x) := by rw [q2]; exact p3.trans (List.sublist_cons_self _ _)
          refine ⟨xv, by simpa [execOp, ho] using run_v p1, ?_⟩
          rw [show (Ex.ldB x 0 i.sz i.k.agg (X.flat t)).val V = valOf i.k.agg (sub cs 0 i.sz) from by simp [Ex.val, hcs, PV.pcs]]
          rw [show (V x).pcs = cs from by rw [hcs]; rfl] at k3
          exact fin_ty (d' := d) k3 p2 (fun f hf => ⟨x, f, hsub.subset hf, rfl, Nat.le_refl _⟩) (fun _ => hfin p2 hsub)
        split at hs
        · rename_i r n off hm
          rw [hm] at hsl
          split at hs
          · cases hs
          · rename_i hc
            simp only [Bool.or_eq_true, bne_iff_ne, ne_eq, Bool.not_eq_true', not_or, Decidable.not_not, Bool.not_eq_false, beq_iff_eq] at hc
            have hMr : M' r = M r := sb_ne h.sb hc.2
            rw [hMr] at hs hc
            have hgr : ∀ q ∈ (M r).g, q ∈ G := fun q hq => by simpa using List.all_eq_true.1 hc.1.2 q hq
            have hrs := ((h.rg.en r).sl (fun q hq => h.gl q (hgr q hq))).1 (fun q hq => h.gh q (hgr q hq))
            obtain ⟨b, e1, e2, e3⟩ := hsl.2 hc.1.1
            have viaPtr : ∀ {m : Md}, Rep w (V r) (Act.x a r) (F r) → (∀ {v' xv F'}, Rep w v' xv F' → F'.Sublist (F r) → Fin c F E B M V (Act.x a) w w d m [] v' xv) →
                Core P c F E B M V a w o ⟨d, if X.flat t = true then .sc else m, [], .set d (.ldB r off i.sz i.k.agg (X.flat t)), false⟩ := by
              intro m hrep hfin
              refine Core.of_pure fun hok => ?_
              obtain ⟨k0, k1, k2, k3⟩ := hok
              have : ∃ cs, V r = .ptr cs := by
                cases hv : V r <;> rw [hv] at k0 <;> simp [isPtrV] at k0
                exact ⟨_, rfl⟩
              obtain ⟨cs, hcs⟩ := this
              rw [hcs] at hrep k1
              obtain ⟨b', xs, G', q1, q2, q3, q4, q5⟩ := hrep.ptr_inv
              rw [e1] at q1
              simp only [Value.pointer.injEq, Option.some.injEq] at q1
              subst q1
              obtain ⟨xv, F', p1, p2, p3, p4⟩ := load_box h hi hdt hag e3 e2 q4 q5 k1
              have hsub : F'.Sublist (F r) := by rw [q2]; exact p3.trans (List.sublist_cons_self _ _)
              refine ⟨xv, by simpa [execOp, ho] using run_v p1, ?_⟩
              rw [show (Ex.ldB r off i.sz i.k.agg (X.flat t)).val V = valOf i.k.agg (sub cs off i.sz) from by simp [Ex.val, hcs, PV.pcs]]
              rw [show (V r).pcs = cs from by rw [hcs]; rfl] at k3
              exact fin_ty (d' := d) k3 p2 (fun f hf => ⟨r, f, hsub.subset hf, rfl, Nat.le_refl _⟩) (fun _ => hfin p2 hsub)
            split at hs
            · rename_i dp ty hmr
              rw [hmr] at hrs
              obtain ⟨cs, arr, tyy, a1, a2, a3, a4, a5, a6⟩ := hrs
              have hb : b = ⟨B r, 0, none⟩ := by rw [e1] at a2; simpa using a2
              subst hb
              simp only [Option.some.injEq] at hs; subst hs
              refine Core.of_pure fun hok => ?_
              obtain ⟨k0, k1, k2, k3⟩ := hok
              have hmem : Mem w ⟨B r, 0, none⟩ arr.toList := by
                intro j v hv
                rw [addr_add_plain rfl]
                simp only [World.cell?, Nat.zero_add, a3]
                simpa using hv
              rw [a1] at k1 k3
              obtain ⟨xv, F', p1, p2, p3, p4⟩ := load_box h hi hdt hag e3 rfl hmem a5 k1
              refine ⟨xv, by simpa [execOp, ho] using run_v p1, ?_⟩
              rw [show (Ex.ldB r off i.sz i.k.agg (X.flat t)).val V = valOf i.k.agg (sub cs off i.sz) from by simp [Ex.val, a1, PV.pcs]]
              have hD : Dom F F' := fun f hf => ⟨r, f, p3.subset hf, rfl, Nat.le_refl _⟩
              refine fin_ty (d' := d) k3 p2 hD (fun hfl => ?_)
              cases dp
              · exact Fin.pure h.rg F' p2 rfl hD
              · have hrd : r ≠ d := by
                  have : rootOK d (.via r (M r).c (bxM i off)) = true := by simpa [hfl] using hr
                  unfold bxM at this
                  split at this <;> simpa [rootOK] using this
                refine Fin.pure h.rg F' ⟨hrd, p2, rfl, p3, (fun _ _ _ _ hh => by unfold bxM at hh; split at hh <;> cases hh), ?_⟩ rfl hD
                unfold bxM
                split
                · rename_i hcc
                  simp only [Bool.and_eq_true, beq_iff_eq] at hcc
                  obtain ⟨rfl, hag2⟩ := hcc
                  exact fun _ => ⟨arr, tyy, B r, a2, a3, by rw [p4, hag2]; simp [valOfX, subx]⟩
                · trivial
            · rename_i ty hmr
              rw [hmr] at hrs
              obtain ⟨⟨cs, arr, tyy, a1, a2, a3, a4, a5⟩, a6⟩ := hrs
              have hb : b = ⟨B r, 0, none⟩ := by rw [e1] at a2; simpa using a2
              subst hb
              simp only [Option.some.injEq] at hs; subst hs
              refine Core.of_pure fun hok => ?_
              obtain ⟨k0, k1, k2, k3⟩ := hok
              have hmem : Mem w ⟨B r, 0, none⟩ arr.toList := by
                intro j v hv
                rw [addr_add_plain rfl]
                simp only [World.cell?, Nat.zero_add, a3]
                simpa using hv
              rw [a1] at k1 k3
              obtain ⟨xv, F', p1, p2, p3, p4⟩ := load_box h hi hdt hag e3 rfl hmem a5 k1
              refine ⟨xv, by simpa [execOp, ho] using run_v p1, ?_⟩
              rw [show (Ex.ldB r off i.sz i.k.agg (X.flat t)).val V = valOf i.k.agg (sub cs off i.sz) from by simp [Ex.val, a1, PV.pcs]]
              have hD : Dom F F' := fun f hf => ⟨r, f, p3.subset hf, rfl, Nat.le_refl _⟩
              refine fin_ty (d' := d) k3 p2 hD (fun hfl => ?_)
              exact Fin.pure h.rg F' ⟨p2, fun f hf => a6 f (p3.subset hf)⟩ rfl hD
            · rename_i hmr
              rw [hmr] at hrs
              simp only [Option.some.injEq] at hs; subst hs
              exact viaPtr hrs.1 (fun h1 h2 => Fin.pure h.rg _ ⟨h1, fun f hf => hrs.2 f (h2.subset hf)⟩ rfl (fun f hf => ⟨r, f, h2.subset hf, rfl, Nat.le_refl _⟩))
            · rename_i hmr
              rw [hmr] at hrs
              simp only [Option.some.injEq] at hs; subst hs
              exact viaPtr hrs (fun h1 h2 => Fin.pure h.rg _ h1 rfl (fun f hf => ⟨r, f, h2.subset hf, rfl, Nat.le_refl _⟩))
            · cases hs
        · rename_i s n off sz hm
          rw [hm] at hsl
          split at hs
          · cases hs
          · rename_i hc
            simp only [Bool.or_eq_true, bne_iff_ne, ne_eq, Bool.not_eq_true', not_or, Decidable.not_not, Bool.not_eq_false, decide_eq_true_eq, Nat.not_lt] at hc
            have hMs : M' s = M s := sb_ne h.sb (fun h0 => by rw [h0] at hc; exact absurd hc.1.2 (by decide))
            rw [hMs] at hc
            have hgs : ∀ q ∈ (M s).g, q ∈ G := fun q hq => by simpa using List.all_eq_true.1 hc.1.1.2 q hq
            have hss := ((h.rg.en s).sl (fun q hq => h.gl q (hgs q hq))).1 (fun q hq => h.gh q (hgs q hq))
            simp only [Option.some.injEq] at hs; subst hs
            obtain ⟨b, len, cp, nn, k, e1, e0, e2, e3, e4⟩ := hsl.2 hc.1.1.1
            refine Core.of_pure fun hok => ?_
            obtain ⟨k1, k2, k3, k4⟩ := hok
            by_cases hho : ((i.sz == 1 && !i.k.agg) = true ∧ X.flat t = false)
            · obtain ⟨hho, hfl⟩ := hho
              simp only [hho, hfl, Bool.false_eq_true, if_true, if_false] at hr ⊢
              simp only [Bool.and_eq_true, beq_iff_eq, Bool.not_eq_true'] at hho
              obtain ⟨xv, F', p1, p2, p3, p4⟩ := load_hole h hi hdt hho.1 k2 k1 (hss.rep hc.1.2) ⟨b, len, cp, nn, k, e1, e2, e3, e4⟩ hho.2
              refine ⟨xv, by simpa [execOp, ho] using run_v p1, ?_⟩
              have hx : OpR c F E B M V (Act.x a) w (.t s) (Act.x a s) (F s) := ⟨hc.1.2, hss, rfl, rfl⟩
              have hD : Dom F F' := fun f hf => ⟨s, f, p3.subset hf, rfl, Nat.le_refl _⟩
              have part : rootOK d (partM M' (.t s)) = true → Fin c F E B M V (Act.x a) w w d (partM M' (.t s)) [] ((Ex.ldE s x off i.sz i.k.agg false sz).val V) xv := fun hr =>
                fin_part h hx (fun s' hs' => by simp only [Opd.t.injEq] at hs'; subst hs'; exact hMs) hr p2 p3
              unfold holM at hr ⊢
              rw [hMs, hM] at hr ⊢
              cases hms : (M s).m <;> simp only [hms] at hr ⊢ <;> try exact part hr
              case own dp =>
                cases dp
                · exact part hr
                · by_cases hg0 : ((M s).g == []) = true
                  · simp only [hg0, if_true] at hr ⊢
                    simp only [rootOK, Bool.and_eq_true, bne_iff_ne] at hr
                    exact Fin.pure h.rg F' ⟨hr.1, p2, rfl, p3, (fun _ _ _ _ hh => by simp only [Wh.hole.injEq] at hh; rw [← hh.1]; exact hr.2), Nat.le_refl _, fun _ => p4⟩ rfl hD
                  · simp only [hg0, if_false] at hr ⊢
                    exact part hr
              case via r n' wh =>
                cases wh <;> simp only at hr ⊢ <;> try exact part hr
                by_cases hcc : ((M' r).c == n' && (M' r).m == .own true && (M' r).g == [] && (M s).g == []) = true
                · simp only [hcc, if_true] at hr ⊢
                  simp only [Bool.and_eq_true, beq_iff_eq] at hcc
                  obtain ⟨⟨⟨c1, c2⟩, c3⟩, c4⟩ := hcc
                  have hMr : M' r = M r := sb_ne h.sb (by rw [c2]; simp)
                  rw [hMr] at c1
                  simp only [rootOK, Bool.and_eq_true, bne_iff_ne] at hr
                  rw [hms] at hss
                  obtain ⟨q1, q2, q3⟩ := (hss.2.2 c1).2
                  rw [q1, q2, q3] at p4
                  rw [q1] at p3
                  refine Fin.pure h.rg F' ⟨hr.1, p2, c1.symm, p3, (fun _ _ _ _ hh => by simp only [Wh.hole.injEq] at hh; rw [← hh.1]; exact hr.2), Nat.le_refl _, fun _ => ?_⟩ rfl hD
                  have e : ((Ex.ldE s x off i.sz i.k.agg false sz).val V) = valOf i.k.agg (sub (((V r).els[(V x).num.toNat]?).getD []) off i.sz) := by simp only [Ex.val, q2]
                  rw [e]; exact p4
                · simp only [hcc, if_false] at hr ⊢
                  exact part hr
            have hsame : (if X.flat t = true then Md.sc else if (i.sz == 1 && !i.k.agg) = true then holM M' s x off sz else partM M' (.t s)) = (if X.flat t = true then Md.sc else partM M' (.t s)) := by
              cases hfl : X.flat t with
              | true => rfl
              | false =>
                simp only [Bool.false_eq_true, if_false]
                rw [if_neg (fun hh => hho ⟨hh, hfl⟩)]
            rw [hsame] at hr ⊢
            obtain ⟨xv, F', p1, p2, p3⟩ := load_elem h hi hdt hag k2 k1 (hss.rep hc.1.2) ⟨b, len, cp, nn, k, e1, e2, e3, e4⟩
            refine ⟨xv, by simpa [execOp, ho] using run_v p1, ?_⟩
            have hx : OpR c F E B M V (Act.x a) w (.t s) (Act.x a s) (F s) := ⟨hc.1.2, hss, rfl, rfl⟩
            exact fin_flat h hx (fun s' hs' => by simp only [Opd.t.injEq] at hs'; subst hs'; exact hMs) hr p2 p3 k4
        · rename_i hm
          rw [hm] at hsl
          simp only [Option.some.injEq] at hs; subst hs
          exact viaSelf hsl.1 (fun h1 h2 => Fin.pure h.rg _ ⟨h1, fun f hf => hsl.2 f (h2.subset hf)⟩ rfl (fun f hf => ⟨x, f, h2.subset hf, rfl, Nat.le_refl _⟩))
        · rename_i hm
          rw [hm] at hsl
          simp only [Option.some.injEq] at hs; subst hs
          exact viaSelf hsl (fun h1 h2 => Fin.pure h.rg _ h1 rfl (fun f hf => ⟨x, f, h2.subset hf, rfl, Nat.le_refl _⟩))
        · cases hs
    · cases hs

end
end Go.Eng
namespace Go.Eng
open Go Go.RowKit
set_option linter.unusedSimpArgs false
set_option linter.unusedVariables false

section
variable {P : Program} {X : Cx} {c : Ctx} {F E : Nat → Foot} {B : Nat → Nat} {M M' : MF} {V : Env} {a : Act} {w w' : World} {G : GL} {o : Oper} {p : Plan}

/-! #### worlds that grow -/

theorem keeps_of_blocks (h : ∀ k, k < w.heap.size → w'.heap[k]? = w.heap[k]?) {F' : Foot} (hf : ∀ f ∈ F', f.1 < w.heap.size) : Keeps w w' F' := by
  intro e he
  have hb := h e.1 (hf e he)
  refine ⟨fun o _ => by simp [World.cell?, hb], fun arr ty fr hh => ⟨arr, fr, by rw [hb]; exact hh, rfl⟩⟩

theorem RG.grow (h : RG c F E B M V (Act.x a) w) (hsz : w.heap.size ≤ w'.heap.size) (hb : ∀ k, k < w.heap.size → w'.heap[k]? = w.heap[k]?) : Moves F E B M w w' := by
  refine ⟨hsz, fun t => keeps_of_blocks hb (fun f hf => h.f1 t f hf), fun t ht => hb _ (h.b1 t ht).2.1, fun t e he => ?_⟩
  obtain ⟨arr, ty, hu⟩ := (h.e3 t e he).2
  exact ⟨arr, ty, by rw [hb _ (h.f1 t e (h.e4 t e he))]; exact hu⟩

theorem alloc_blocks (w : World) (o : Obj) : ∀ k, k < w.heap.size → (w.alloc o).heap[k]? = w.heap[k]? := fun k hk => Below.heap_alloc w o k hk
theorem alloc_size (w : World) (o : Obj) : (w.alloc o).heap.size = w.heap.size + 1 := Array.size_push ..
theorem alloc_new (w : World) (o : Obj) : (w.alloc o).heap[w.heap.size]? = some o := by
  show (w.heap.push o)[w.heap.size]? = some o
  simp

theorem stp_alloc (hb : c.base ≤ w.heap.size) (o : Obj) : Stp c w (w.alloc o) := by
  refine ⟨rfl, rfl, rfl, by rw [alloc_size]; omega, fun k hk => ?_⟩
  refine alloc_blocks w o k ?_
  unfold Ctx.mine at hk
  rcases Nat.lt_or_ge k c.base with h | h
  · omega
  · exact absurd (.inl h) hk

/-! #### taking -/

theorem take_same (hs : ∀ t, M' t = M t ∨ M' t = {}) {x : Opd} {l : List (Nat × Md)} {dp : Bool} (h : take M' x = some (l, dp)) : take M x = some (l, dp) ∧ ∀ q ∈ l, M' q.1 = M q.1 := by
  cases x with
  | c v => simp only [take, Option.some.injEq, Prod.mk.injEq] at h ⊢; obtain ⟨rfl, rfl⟩ := h; simp
  | t s =>
    have hM : M' s = M s := sb_ne hs (fun h0 => by simp [take, h0] at h)
    simp only [take, hM] at h ⊢
    cases hm : (M s).m <;> rw [hm] at h <;> (try simp only [reduceCtorEq] at h ⊢)
    case sc => simp only [Option.some.injEq, Prod.mk.injEq] at h ⊢; obtain ⟨rfl, rfl⟩ := h; simp
    case own d => simp only [Option.some.injEq, Prod.mk.injEq] at h ⊢; obtain ⟨rfl, rfl⟩ := h; exact ⟨⟨rfl, rfl⟩, by simp [hM]⟩
    case via r n wh =>
      split at h
      · rename_i hc
        have hr : M' r = M r := sb_ne hs (fun h0 => by rw [h0] at h; simp at h)
        rw [hr] at h hc
        rw [if_pos hc]
        refine ⟨h, ?_⟩
        intro q hq
        cases hmr : (M r).m <;> rw [hmr] at h <;> (try simp only [reduceCtorEq] at h)
        case own d =>
          cases d
          · cases wh
            case part => simp at h
            case hole => simp at h
            case bx => simp at h
            case all =>
              simp only [if_true, Option.some.injEq, Prod.mk.injEq] at h
              obtain ⟨rfl, rfl⟩ := h
              simp at hq; subst hq; exact hr
          · simp only [Option.some.injEq, Prod.mk.injEq] at h
            obtain ⟨rfl, rfl⟩ := h
            simp at hq; subst hq; exact hr
        case box d ty =>
          cases d <;> simp only [reduceCtorEq] at h
          simp only [Option.some.injEq, Prod.mk.injEq] at h
          obtain ⟨rfl, rfl⟩ := h
          simp at hq; subst hq; exact hr
      · cases h

theorem mem_of_lookup {l : List (Nat × Md)} {t : Nat} {m : Md} (hh : l.lookup t = some m) : (t, m) ∈ l := by
  induction l with
  | nil => simp at hh
  | cons q l ih =>
    simp only [List.lookup] at hh
    split at hh
    · rename_i hq; simp at hq hh; subst hq; subst hh; exact List.mem_cons_self ..
    · exact List.mem_cons_of_mem _ (ih hh)

/-- who is taken from is 'ext' then, or a variable -/
theorem take_dem {x : Opd} {l : List (Nat × Md)} {dp : Bool} (h : take M x = some (l, dp)) : ∀ q ∈ l, q.2 = .ext ∨ isBox (M q.1).m = true := by
  cases x with
  | c v => simp only [take, Option.some.injEq, Prod.mk.injEq] at h; obtain ⟨rfl, rfl⟩ := h; simp
  | t s =>
    simp only [take] at h
    cases hm : (M s).m <;> rw [hm] at h <;> (try simp only [reduceCtorEq] at h)
    case sc => simp only [Option.some.injEq, Prod.mk.injEq] at h; obtain ⟨rfl, rfl⟩ := h; simp
    case own d => simp only [Option.some.injEq, Prod.mk.injEq] at h; obtain ⟨rfl, rfl⟩ := h; simp
    case via r n wh =>
      split at h
      · cases hmr : (M r).m <;> rw [hmr] at h <;> (try simp only [reduceCtorEq] at h)
        case own d =>
          cases d
          · cases wh
            case part => simp at h
            case hole => simp at h
            case bx => simp at h
            case all =>
              simp only [if_true, Option.some.injEq, Prod.mk.injEq] at h
              obtain ⟨rfl, rfl⟩ := h
              simp
          · simp only [Option.some.injEq, Prod.mk.injEq] at h
            obtain ⟨rfl, rfl⟩ := h
            simp
        case box d ty =>
          cases d <;> simp only [reduceCtorEq] at h
          simp only [Option.some.injEq, Prod.mk.injEq] at h
          obtain ⟨rfl, rfl⟩ := h
          intro q hq
          simp at hq; subst hq; right; rw [hmr]; rfl
      · cases h

theorem addDem_sub (hs : ∀ t, M' t = M t ∨ M' t = {}) {l : List (Nat × Md)} (hl : ∀ q ∈ l, M' q.1 = M q.1) : ∀ t, addDem l M' t = addDem l M t ∨ addDem l M' t = {} := by
  intro t
  unfold addDem
  cases hh : l.lookup t with
  | some m =>
    left
    have : (t, m) ∈ l := mem_of_lookup hh
    have h1 := hl _ this
    simp only at h1 ⊢; rw [h1]
  | none => exact hs t

/-- an operand, its guards gone by -/
def OpA (c : Ctx) (F E : Nat → Foot) (B : Nat → Nat) (M : MF) (V : Env) (x : Nat → Value) (w : World) (o : Opd) (xv : Value) (Fx : Foot) : Prop :=
  OpR c F E B M V x w o xv Fx ∧ ∀ s, o = .t s → (M s).g = []

theorem Pre.opA (h : Pre P X c F E B M M' V a w []) {o : Operand} {x' : Opd} (ho : opd M' [] o = some x') : ∃ Fx, OpA c F E B M V (Act.x a) w x' (a.eval o) Fx := by
  obtain ⟨Fx, hx⟩ := h.op_ ho
  refine ⟨Fx, hx, ?_⟩
  rintro s rfl
  have hM := opd_same h.sb ho
  cases o with
  | tmp t =>
    simp only [Go.Eng.opd] at ho
    split at ho
    · rename_i hc
      simp only [Option.some.injEq, Opd.t.injEq] at ho
      subst ho
      simp only [Bool.and_eq_true, gIn, hM] at hc
      apply List.eq_nil_iff_forall_not_mem.2
      intro q hq
      have := List.all_eq_true.1 hc.2 q hq
      simp at this
    · cases ho
  | const v => simp only [Go.Eng.opd] at ho; cases hc : cst v <;> rw [hc] at ho <;> simp at ho
  | global => simp [Go.Eng.opd] at ho
  | func => simp [Go.Eng.opd] at ho

theorem RG.slot (h : RG c F E B M V (Act.x a) w) {s : Nat} (hg : (M s).g = []) : SlotR c F E B M V (Act.x a) w s (M s).m :=
  ((h.en s).sl (by rw [hg]; simp)).1 (by rw [hg]; simp)

/-- the operand is one still behind a taking -/
theorem OpA.dem (hx : OpA c F E B M V (Act.x a) w o' xv Fx) {o'' : Opd} {l : List (Nat × Md)} {dp : Bool} (ht : take M o'' = some (l, dp)) {E1 : Nat → Foot} (h1 : RG c F E1 B (addDem l M) V (Act.x a) w)
    : OpA c F E1 B (addDem l M) V (Act.x a) w o' xv Fx := by
  cases o' with
  | c v => exact ⟨hx.1, by simp⟩
  | t s =>
    obtain ⟨⟨q1, q2, q3, q4⟩, hg⟩ := hx
    have hg0 := hg s rfl
    have hg1 : (addDem l M s).g = [] := by rw [(addDem_v l M s).2.2]; exact hg0
    refine ⟨⟨?_, h1.slot hg1, q3, q4⟩, fun s' hs' => by simp only [Opd.t.injEq] at hs'; subst hs'; exact hg1⟩
    unfold addDem
    cases hh : l.lookup s with
    | none => exact q1
    | some m =>
      simp only
      rcases take_dem ht _ (mem_of_lookup hh) with h2 | h2
      · simp only at h2; subst h2; rfl
      · simp only at h2; cases hm : (M s).m <;> rw [hm] at h2 q1 <;> simp [isBox, vlike] at h2 q1

/-- several operands -/
inductive OpsA (c : Ctx) (F E : Nat → Foot) (B : Nat → Nat) (M : MF) (V : Env) (x : Nat → Value) (w : World) : List Opd → List Value → List Foot → Prop
  | nil : OpsA c F E B M V x w [] [] []
  | cons {o v Fx os vs Fs} (h : OpA c F E B M V x w o v Fx) (t : OpsA c F E B M V x w os vs Fs) : OpsA c F E B M V x w (o :: os) (v :: vs) (Fx :: Fs)

theorem OpsA.dem {os : List Opd} {vs : List Value} {Fs : List Foot} (h : OpsA c F E B M V (Act.x a) w os vs Fs) {o'' : Opd} {l : List (Nat × Md)} {dp : Bool} (ht : take M o'' = some (l, dp)) {E1 : Nat → Foot}
    (h1 : RG c F E1 B (addDem l M) V (Act.x a) w) : OpsA c F E1 B (addDem l M) V (Act.x a) w os vs Fs := by
  induction h with
  | nil => exact .nil
  | cons h _ ih => exact .cons (h.dem ht h1) ih

theorem takeDeep_take {x : Opd} {l : List (Nat × Md)} (h : takeDeep M x = some l) : take M x = some (l, true) := by
  unfold takeDeep at h
  split at h
  · rename_i l' h'; simp only [Option.some.injEq] at h; subst h; exact h'
  · cases h

theorem RG.takes : ∀ (os : List Opd) {M M' : MF} {E : Nat → Foot} {L : Foot} {vs : List Value} {Fs : List Foot} {l : List (Nat × Md)}, RG c F E B M V (Act.x a) w → Free c F E w L →
    (∀ t, M' t = M t ∨ M' t = {}) → OpsA c F E B M V (Act.x a) w os vs Fs → takeAll M' os = some l →
    ∃ E1, RG c F E1 B (addDem l M) V (Act.x a) w ∧ Free c F E1 w (L ++ Fs.flatten) ∧ (∀ t e, e ∈ E1 t → e ∈ E t) ∧ ∀ q ∈ l, M' q.1 = M q.1
  | [], M, M', E, L, vs, Fs, l, h, hL, hs, ho, ht => by
    simp only [takeAll, Option.some.injEq] at ht
    subst ht
    cases ho
    exact ⟨E, by rw [addDem_nil]; exact h, by simpa using hL, fun _ _ h => h, by simp⟩
  | o :: os, M, M', E, L, vs, Fs, l, h, hL, hs, ho, ht => by
    simp only [takeAll] at ht
    split at ht
    · rename_i l1 h1
      split at ht
      · rename_i l2 h2
        simp only [Option.some.injEq] at ht
        subst ht
        cases ho with
        | cons ha hr =>
          obtain ⟨ht1, hd1⟩ := take_same hs (takeDeep_take h1)
          obtain ⟨E1, r1, f1, s1, _⟩ := h.take hL ha.1 ht1
          obtain ⟨E2, r2, f2, s2, hd2⟩ := RG.takes os r1 f1 (addDem_sub hs hd1) (hr.dem ht1 r1) h2
          refine ⟨E2, by rw [addDem_append]; exact r2, by simpa [topOf, List.append_assoc] using f2, fun t e he => s1 t e (s2 t e he), ?_⟩
          intro q hq
          rcases List.mem_append.1 hq with hq | hq
          · have h3 := hd2 q hq
            unfold addDem at h3
            cases hh : l1.lookup q.1 with
            | none => rw [hh] at h3; exact h3
            | some m => exact hd1 (q.1, m) (mem_of_lookup hh)
          · exact hd1 q hq
      · cases ht
    · cases ht

theorem OpsA.dom {os : List Opd} {vs : List Value} {Fs : List Foot} (h : OpsA c F E B M V (Act.x a) w os vs Fs) : Dom F Fs.flatten := by
  induction h with
  | nil => exact Dom.nil
  | cons h _ ih =>
    intro f hf
    rw [List.flatten_cons] at hf
    rcases List.mem_append.1 hf with hf | hf
    · exact h.1.dom f hf
    · exact ih f hf

/-- a value of what was taken: nothing new -/
theorem fin_taken {l : List (Nat × Md)} {E1 : Nat → Foot} {L : Foot} (h : RG c F E1 B (addDem l M) V (Act.x a) w) (hL : Free c F E1 w L) {d : Nat} {dp : Bool} {v' : PV} {xv : Value} {F' : Foot}
    (hrep : Rep w v' xv F') (hd : Dom F F') (hLF : L = topOf dp F') (hl : dp = false → True) :
    Fin c F E B M V (Act.x a) w w d (.own dp) l v' xv := by
  have hsub : ∀ e ∈ topOf dp F', e ∈ F' := by
    intro e he
    cases dp
    · exact List.mem_of_mem_take (by simpa [topOf] using he)
    · simpa [topOf] using he
  refine Fin0.fin ⟨E1, L, F', topOf dp F', 0, h, hL, h.still, ⟨hrep, ⟨fun e he => he, by rw [← hLF]; exact hL.l2⟩, hl⟩, by simp [mayOwn], ?_, ?_, by rw [← hLF]; exact hL.l2, by simp [isBox]⟩
  · intro f hf
    obtain ⟨u, f', h1, h2, h3⟩ := hd f hf
    exact ⟨.inl ⟨u, f', h1, h2, h3⟩, by rw [← h2]; exact h.f1 u f' h1⟩
  · intro e he
    have heL : e ∈ L := by rw [hLF]; exact he
    refine ⟨⟨hsub e he, hL.l3 e heL⟩, .inr ⟨e, heL, rfl, Nat.le_refl _⟩, ?_⟩
    intro f hf hfe
    obtain ⟨u, f', h1, h2, h3⟩ := hd f hf
    exact Nat.le_trans h3 (hL.l5 e heL u f' h1 (h2.trans hfe))


/-! #### tuples of results -/

theorem Reps.repl {vs : List PV} {xs : List Value} {Fs : List Foot} (h : Reps w vs xs Fs) : RepL w vs xs Fs.flatten := by
  induction h with
  | nil => exact .nil
  | cons h _ ih => exact .cons h ih
theorem keepIdx_sub (tk : List Nat) : ∀ (i : Nat) (Fs : List Foot), (keepIdx tk i Fs).flatten.Sublist Fs.flatten
  | _, [] => List.Sublist.refl _
  | i, F' :: r => by
    simp only [keepIdx, List.flatten_cons]
    refine List.Sublist.append ?_ (keepIdx_sub tk (i + 1) r)
    split
    · exact List.nil_sublist _
    · exact List.Sublist.refl _

theorem fin_tup (h : RG c F E B M V (Act.x a) w) {s d : Nat} {tk : List Nat} (hm : (M s).m = .tup tk) (hg : (M s).g = []) :
    Fin c F E B M V (Act.x a) w w d (.tup tk) [(s, .ext)] (V s) (Act.x a s) := by
  have hs := h.slot hg
  rw [hm] at hs
  obtain ⟨vs, xs, Fs, e1, e2, e3, e4, e5, e6⟩ := hs
  have hsub := keepIdx_sub tk 0 Fs
  rw [← e4] at hsub
  obtain ⟨r1, f1⟩ := h.float Free.nil s .ext (keepIdx tk 0 Fs).flatten e5 (e6.sublist (hsub.map _)) (by simp [isBox]) (fun _ => by
    show Rep w (V s) (Act.x a s) (F s)
    rw [e1, e2, e4]
    have := Rep.tup e3.repl
    simpa using this)
  refine Fin0.fin ⟨_, _, F s, (keepIdx tk 0 Fs).flatten, 0, r1, f1, r1.still, ⟨vs, xs, Fs, e1, e2, e3, e4, fun e he => he, e6⟩, by simp [mayOwn], ?_, ?_, e6.sublist (hsub.map _), by simp [isBox]⟩
  · exact fun f hf => ⟨.inl ⟨s, f, hf, rfl, Nat.le_refl _⟩, h.f1 s f hf⟩
  · intro e he
    have heL : e ∈ [] ++ (keepIdx tk 0 Fs).flatten := by simpa using he
    exact ⟨⟨hsub.subset he, f1.l3 e heL⟩, .inr ⟨e, heL, rfl, Nat.le_refl _⟩, fun f hf hfe => f1.l5 e heL s f hf hfe⟩

/-- what a move and an assignment have in common -/
theorem core_nil (h : Pre P X c F E B M M' V a w G) {x : Operand} {d : Nat} {asg : Bool} (run : (execOp a.eval o).run P w = .ok (.value (a.eval x)) w) (hs : stepM X M' G x d o.type asg = some p) (hn : isNilSl x = true) :
    Core P c F E B M V a w o p := by
  simp only [stepM, hn, if_true] at hs
  split at hs
  · rename_i z hz
    simp only [Option.some.injEq] at hs; subst hs
    intro e he hok
    simp only [POp.set.injEq, true_and] at he
    subst he
    refine ⟨_, w, run, Stp.refl _ _, ?_⟩
    have hx : x = .const (.slice none 0 0) := by
      unfold isNilSl at hn
      split at hn
      · rfl
      · cases hn
    subst hx
    obtain ⟨sz, rfl⟩ : ∃ sz, z = .lst sz true [] := by
      unfold nilLst at hz
      repeat' split at hz
      all_goals first | cases hz | skip
      exact ⟨_, rfl⟩
    exact fin_taken (E := E) (M := M) (E1 := E) (L := []) (l := []) (d := d) (dp := true) (v' := .lst sz true []) (xv := .slice none 0 0) (F' := []) (by rw [addDem_nil]; exact h.rg) Free.nil (.nil sz) Dom.nil rfl (by simp)
  · cases hs

theorem core_tup (h : Pre P X c F E B M M' V a w G) {s d : Nat} {asg : Bool} (run : (execOp a.eval o).run P w = .ok (.value (a.eval (.tmp s))) w) (hs : stepM X M' G (.tmp s) d o.type asg = some p) {tk : List Nat} (hm : (M' s).m = .tup tk) :
    Core P c F E B M V a w o p := by
  have hfr : frOf M' s = none := by simp [frOf, hm]
  simp only [stepM, isNilSl, Bool.false_eq_true, if_false, hfr, hm] at hs
  split at hs
  · rename_i hc
    simp only [Bool.and_eq_true, beq_iff_eq] at hc
    simp only [Option.some.injEq] at hs; subst hs
    intro e he hok
    simp only [POp.set.injEq, true_and] at he
    subst he
    have hM : M' s = M s := sb_ne h.sb (by rw [hm]; simp)
    rw [hM] at hm hc
    exact ⟨_, w, run, Stp.refl _ _, fin_tup h.rg hm hc.2⟩
  · cases hs

theorem stepF_m {s r d : Nat} {asg : Bool} (hs : stepF M G s r d asg = some p) (tk : List Nat) : p.m ≠ .tup tk := by
  unfold stepF at hs
  repeat' split at hs
  all_goals first
    | (cases hs; done)
    | (simp only [Option.some.injEq] at hs; subst hs; simp)

/-! #### assign -/

theorem core_assign (h : Pre P X c F E B M M' V a w G) (hs : stepO X M' G o = some p) {x : Operand} {d : Nat} (ho : o.op = .assign x) (hd : o.dst = some d)
    (hr : rootOK p.d p.m = true) (hG : p.m ≠ .ext ∧ p.m ≠ .sc ∧ p.m ≠ .par → G = []) : Core P c F E B M V a w o p := by
  have run : (execOp a.eval o).run P w = .ok (.value (a.eval x)) w := by simp [execOp, ho]
  simp only [stepO, ho, hd, stepM] at hs
  by_cases hnil : isNilSl x = true
  · exact core_nil h (asg := true) run (by simpa only [stepM] using hs) hnil
  · rw [if_neg hnil] at hs
    cases x with
    | tmp s =>
      simp only at hs
      have vl : ∀ {x' : Opd}, opd M' G (.tmp s) = some x' → x' = .t s ∧ M' s = M s := by
        intro x' hx
        have hx0 := hx
        simp only [Go.Eng.opd] at hx
        split at hx
        · simp only [Option.some.injEq] at hx; subst hx; exact ⟨rfl, opd_same h.sb hx0⟩
        · cases hx
      split at hs
      · rename_i r hfr
        exact core_stepF h run hfr hs hr
      rename_i hfr
      split at hs
      · rename_i tk hm
        exact core_tup h (asg := true) run (by simp only [stepM, isNilSl, Bool.false_eq_true, if_false, hfr, hm]; exact hs) hm
      · split at hs
        · rename_i x' hx
          obtain ⟨rfl, hM⟩ := vl hx
          obtain ⟨Fx, hxr⟩ := h.op_ hx
          simp only [if_true] at hs
          obtain ⟨q1, q2, q3, q4⟩ := hxr
          have hrep := q2.rep q1
          have hdom : Dom F (F s) := fun f hf => ⟨s, f, hf, rfl, Nat.le_refl _⟩
          split at hs
          · rename_i hm
            rw [hM] at hm; rw [hm] at q2
            simp only [Option.some.injEq] at hs; subst hs
            exact Core.of_pure fun _ => ⟨_, run, fin_sc h q2.1⟩
          · rename_i hm
            rw [hM] at hm; rw [hm] at q2
            simp only [Option.some.injEq] at hs; subst hs
            exact Core.of_pure fun _ => ⟨_, run, Fin.pure h.rg (F s) q2 rfl hdom⟩
          · rename_i hm
            simp only [Option.some.injEq] at hs; subst hs
            exact Core.of_pure fun _ => ⟨_, run, Fin.pure h.rg (F s) hrep rfl hdom⟩
          · rename_i hm
            simp only [Option.some.injEq] at hs; subst hs
            exact Core.of_pure fun _ => ⟨_, run, Fin.pure h.rg (F s) hrep rfl hdom⟩
          · rename_i hm
            simp only [Option.some.injEq] at hs; subst hs
            exact Core.of_pure fun _ => ⟨_, run, Fin.pure h.rg (F s) hrep rfl hdom⟩
          · split at hs
            · rename_i l dp ht
              simp only [Option.some.injEq] at hs; subst hs
              have hG0 := hG ⟨by simp, by simp, by simp⟩
              subst hG0
              obtain ⟨ht1, hd1⟩ := take_same h.sb ht
              obtain ⟨E1, r1, f1, _, hl⟩ := h.rg.take Free.nil (o := .t s) (xv := Act.x a s) (Fx := F s) ⟨q1, q2, rfl, rfl⟩ ht1
              intro e he hok
              simp only [POp.set.injEq, true_and] at he
              subst he
              exact ⟨_, w, run, Stp.refl _ _, fin_taken r1 f1 hrep hdom (by simp) hl⟩
            · simp only [Option.some.injEq] at hs; subst hs
              exact Core.of_pure fun _ => ⟨_, run, Fin.pure h.rg (F s) hrep rfl hdom⟩
        · cases hs
    | const v =>
      simp only at hs
      split at hs
      · rename_i x' hx
        simp only [Option.some.injEq] at hs; subst hs
        refine Core.of_pure fun _ => ⟨_, run, ?_⟩
        simp only [Go.Eng.opd] at hx
        cases hc : cst v with
        | none => rw [hc] at hx; simp at hx
        | some q => rw [hc] at hx; simp at hx; subst hx; exact fin_sc h (cst_rep hc)
      · split at hs
        · simp only [Option.some.injEq] at hs; subst hs
          exact Core.of_pure fun _ => ⟨_, run, Fin.pure h.rg [] trivial rfl Dom.nil⟩
        · cases hs
    | global g => simp [Go.Eng.opd, isNilMp] at hs
    | func f =>
      simp only [Go.Eng.opd, Option.some.injEq] at hs
      subst hs
      exact Core.of_pure fun _ => ⟨_, run, fin_sc h (.fn .nil)⟩


theorem core_mov (h : Pre P X c F E B M M' V a w G) (hs : stepO X M' G o = some p) {x : Operand} {d : Nat} (ho : o.op = .move x) (hd : o.dst = some d)
    (hr : rootOK p.d p.m = true) : Core P c F E B M V a w o p := by
  have run : (execOp a.eval o).run P w = .ok (.value (a.eval x)) w := by simp [execOp, ho]
  have hs' := hs
  simp only [stepO, ho, hd] at hs'
  by_cases hnil : isNilSl x = true
  · exact core_nil h run hs' hnil
  · by_cases ht : ∃ s tk, x = .tmp s ∧ (M' s).m = .tup tk
    · obtain ⟨s, tk, rfl, hm⟩ := ht
      exact core_tup h run hs' hm
    · refine core_move h hs ho hd hr (fun tk hp => ?_) (by simpa using hnil)
      simp only [stepM] at hs'
      rw [if_neg hnil] at hs'
      cases x with
      | tmp s =>
        simp only [Bool.false_eq_true, if_false] at hs'
        split at hs'
        · exact stepF_m hs' _ hp
        split at hs'
        · rename_i tk' hm; exact ht ⟨s, tk', rfl, hm⟩
        · split at hs'
          · rename_i x' hx
            simp only [Bool.false_eq_true, if_false, Option.some.injEq] at hs'
            subst hs'
            simp only at hp
            cases x' with
            | c v => simp [copyM] at hp
            | t s' =>
              simp only [copyM] at hp
              split at hp
              · cases hp
              · unfold viaM at hp; split at hp <;> cases hp
              · rename_i hmm _ _
                simp only [Go.Eng.opd] at hx
                split at hx
                · rename_i hc
                  simp only [Option.some.injEq, Opd.t.injEq] at hx
                  subst hx
                  rw [hp] at hc
                  simp [vlike] at hc
                · cases hx
          · cases hs'
      | const v =>
        simp only [Bool.false_eq_true, if_false] at hs'
        split at hs'
        · simp only [Option.some.injEq] at hs'; subst hs'; cases hp
        · split at hs'
          · simp only [Option.some.injEq] at hs'; subst hs'; cases hp
          · cases hs'
      | global g => simp [Go.Eng.opd, isNilMp] at hs'
      | func f =>
        simp only [Go.Eng.opd, Bool.false_eq_true, if_false, Option.some.injEq] at hs'
        subst hs'; cases hp

end
end Go.Eng
namespace Go.Eng
open Go Go.RowKit
set_option linter.unusedSimpArgs false
set_option linter.unusedVariables false

section
variable {P : Program} {X : Cx} {c : Ctx} {F E : Nat → Foot} {B : Nat → Nat} {M M' : MF} {V : Env} {a : Act} {w w' : World} {G : GL} {o : Oper} {p : Plan}

theorem Dom.lt (h : RG c F E B M V (Act.x a) w) {F' : Foot} (hd : Dom F F') : ∀ f ∈ F', f.1 < w.heap.size := by
  intro f hf
  obtain ⟨u, f', h1, h2, h3⟩ := hd f hf
  rw [← h2]; exact h.f1 u f' h1

theorem Free.grow (hL : Free c F E w L) (hb : ∀ k, k < w.heap.size → w'.heap[k]? = w.heap[k]?) (hlt : ∀ e ∈ L, e.1 < w.heap.size) : Free c F E w' L :=
  ⟨hL.l1, hL.l2, fun e he => ⟨(hL.l3 e he).1, by
    obtain ⟨arr, ty, hu⟩ := (hL.l3 e he).2
    exact ⟨arr, ty, by rw [hb _ (hlt e he)]; exact hu⟩⟩, hL.l4, hL.l5⟩

/-- a new variable -/
theorem fin_box (h : Pre P X c F E B M M' V a w G) {l : List (Nat × Md)} {E1 : Nat → Foot} {L : Foot} (r1 : RG c F E1 B (addDem l M) V (Act.x a) w) (hL : Free c F E1 w L) {d ty : Nat} {dp : Bool}
    {cs : List PV} {xs : List Value} {F' : Foot} (hrep : RepL w cs xs F') (hd : Dom F F') (hLF : dp = true → L = F') (t : TypeId) :
    Fin c F E B M V (Act.x a) w (w.alloc (.cells xs.toArray t)) d (.box dp ty) l (.ptr cs) (.pointer (some ⟨w.heap.size, 0, none⟩)) := by
  have hlt := Dom.lt r1 hd
  have hmv : Moves F E1 B (addDem l M) w (w.alloc (.cells xs.toArray t)) := r1.grow (by rw [alloc_size]; omega) (alloc_blocks w _)
  have hL' : dp = true → ∀ e ∈ F', e ∈ L := fun hdp e he => by rw [hLF hdp]; exact he
  refine Fin0.fin ⟨E1, if dp = true then L else [], F', if dp = true then F' else [], w.heap.size, r1, ?_, hmv, ?_, ?_, ?_, ?_, ?_, ?_⟩
  · cases dp
    · simpa using Free.nil
    · simpa using hL
  · refine ⟨cs, xs.toArray, t, rfl, rfl, alloc_new w _, by simp [hrep.length], hrep.keep (keeps_of_blocks (alloc_blocks w _) hlt), ?_⟩
    intro hdp
    rw [if_pos hdp]
    exact ⟨fun e he => he, by rw [topOf, if_pos rfl, ← hLF hdp]; exact hL.l2⟩
  · intro hmo
    cases dp
    · rfl
    · simp [mayOwn] at hmo
  · intro f hf
    obtain ⟨u, f', h1, h2, h3⟩ := hd f hf
    exact ⟨.inl ⟨u, f', h1, h2, h3⟩, by rw [alloc_size]; have := hlt f hf; omega⟩
  · intro e he
    cases dp
    · simp at he
    · simp only [if_true] at he ⊢
      have heL := hL' rfl e he
      refine ⟨⟨he, (hL.l3 e heL).1, ?_⟩, .inr ⟨e, heL, rfl, Nat.le_refl _⟩, ?_⟩
      · obtain ⟨arr, ty', hu⟩ := (hL.l3 e heL).2
        exact ⟨arr, ty', by rw [alloc_blocks w _ _ (hlt e he)]; exact hu⟩
      · intro f hf hfe
        obtain ⟨u, f', h1, h2, h3⟩ := hd f hf
        exact Nat.le_trans h3 (hL.l5 e heL u f' h1 (h2.trans hfe))
  · cases dp
    · simp
    · simp only [if_true]; rw [← hLF rfl]; exact hL.l2
  · intro _
    refine ⟨h.bs, Nat.le_refl _, .inl h.bs, by rw [alloc_size]; omega, fun f hf => ?_⟩
    have := hlt f hf; omega

/-- a new variable that holds what is the caller's -/
theorem fin_boxP (h : Pre P X c F E B M M' V a w G) {E1 : Nat → Foot} (r1 : RG c F E1 B (addDem [] M) V (Act.x a) w) {d ty : Nat}
    {cs : List PV} {xs : List Value} {F' : Foot} (hrep : RepL w cs xs F') (hd : Dom F F') (hpf : ∀ f ∈ F', f.1 < c.base ∧ f.1 ∉ c.ms) (t : TypeId) :
    Fin c F E B M V (Act.x a) w (w.alloc (.cells xs.toArray t)) d (.boxP ty) [] (.ptr cs) (.pointer (some ⟨w.heap.size, 0, none⟩)) := by
  have hlt := Dom.lt r1 hd
  have hmv : Moves F E1 B (addDem [] M) w (w.alloc (.cells xs.toArray t)) := r1.grow (by rw [alloc_size]; omega) (alloc_blocks w _)
  refine Fin0.fin ⟨E1, [], F', [], w.heap.size, r1, Free.nil, hmv, ?_, fun _ => rfl, ?_, by simp, by simp, ?_⟩
  · exact ⟨⟨cs, xs.toArray, t, rfl, rfl, alloc_new w _, by simp [hrep.length], hrep.keep (keeps_of_blocks (alloc_blocks w _) hlt)⟩, hpf⟩
  · intro f hf
    obtain ⟨u, f', h1, h2, h3⟩ := hd f hf
    exact ⟨.inl ⟨u, f', h1, h2, h3⟩, by rw [alloc_size]; have := hlt f hf; omega⟩
  · intro _
    refine ⟨h.bs, Nat.le_refl _, .inl h.bs, by rw [alloc_size]; omega, fun f hf => ?_⟩
    have := hlt f hf; omega

theorem run_zeroValue {t : Nat} {j : TypeInfo} {z : Value} (hj : P.info? t = some j) (hz : j.zero = some z) : (zeroValue t).run P w = .ok z w := by
  simp [zeroValue, typeInfo, hj, hz]

theorem core_alloc (h : Pre P X c F E B M M' V a w G) (hs : stepO X M' G o = some p) {t d : Nat} (ho : o.op = .alloc t) (hd : o.dst = some d) : Core P c F E B M V a w o p := by
  simp only [stepO, ho, hd] at hs
  split at hs
  · rename_i i hi
    split at hs
    · rename_i hc
      simp only [Bool.and_eq_true] at hc
      simp only [Option.some.injEq] at hs; subst hs
      intro e he hok
      simp only [POp.set.injEq, true_and] at he
      subst he
      obtain ⟨j, hj, _, _, hz⟩ := tiB.info (h.tb _ _ hi) hc.1.2
      obtain ⟨z, hz1, hz2, _⟩ := hz hc.1.1
      have hrep := zOK.rep (w := w) hz2
      have := fin_box (M' := M') (d := d) (ty := t) (dp := true) (l := []) (E1 := E) (L := []) h (by rw [addDem_nil]; exact h.rg) Free.nil hrep Dom.nil (fun _ => rfl) t
      refine ⟨_, _, ?_, stp_alloc h.bs _, this⟩
      have hr : (Instr.alloc t true (.tuple #[])).run P w = .ok (.pointer (some ⟨w.heap.size, 0, none⟩)) (w.alloc (.cells z.cells.toList.toArray t)) := by
        simp [Instr.alloc, Sem.run_bind, run_zeroValue hj hz1, Result.andThen, newVar, newRow]
      simpa [execOp, ho] using run_v hr
    · cases hs
  · cases hs

theorem core_box (h : Pre P X c F E B M M' V a w G) (hs : stepO X M' G o = some p) {t d : Nat} {x : Operand} (ho : o.op = .box t x) (hd : o.dst = some d) : Core P c F E B M V a w o p := by
  simp only [stepO, ho, hd] at hs
  split at hs
  · rename_i x' i hx hi
    split at hs
    · cases hs
    · rename_i hc
      simp only [Bool.or_eq_true, bne_iff_ne, ne_eq, Bool.not_eq_true', not_or, Decidable.not_not, Bool.not_eq_false] at hc
      have hG := hc.1
      subst hG
      obtain ⟨Fx, hxA⟩ := h.opA hx
      have hrun : (execOp a.eval o).run P w = .ok (.value (.pointer (some ⟨w.heap.size, 0, none⟩))) (w.alloc (.cells (a.eval x).cells.toList.toArray t)) := by
        have hr : (Instr.box t (a.eval x)).run P w = .ok (.pointer (some ⟨w.heap.size, 0, none⟩)) (w.alloc (.cells (a.eval x).cells.toList.toArray t)) := by
          simp [Instr.box, Sem.run_bind, Result.andThen, newVar, newRow]
        simpa [execOp, ho] using run_v hr
      split at hs
      · rename_i l hl
        simp only [Option.some.injEq] at hs; subst hs
        obtain ⟨ht1, hd1⟩ := take_same h.sb (takeDeep_take hl)
        obtain ⟨E1, r1, f1, _, _⟩ := h.rg.take Free.nil hxA.1 ht1
        intro e he hok
        simp only [POp.set.injEq, true_and] at he
        subst he
        exact ⟨_, _, hrun, stp_alloc h.bs _, fin_box h r1 f1 (hxA.1.rep.cells hok.2) hxA.1.dom (fun _ => by simp [topOf]) t⟩
      · split at hs
        · rename_i hpar
          simp only [Option.some.injEq] at hs; subst hs
          intro e he hok
          simp only [POp.set.injEq, true_and] at he
          subst he
          have hpf : ∀ f ∈ Fx, f.1 < c.base ∧ f.1 ∉ c.ms := by
            cases x' with
            | c v => simp [Opd.md] at hpar
            | t s =>
              have hM := opd_same h.sb hx
              simp only [Opd.md, beq_iff_eq, hM] at hpar
              obtain ⟨⟨q1, q2, q3, q4⟩, _⟩ := hxA
              rw [hpar] at q2
              rw [q4]; exact q2.2
          exact ⟨_, _, hrun, stp_alloc h.bs _, fin_boxP (E1 := E) h (by rw [addDem_nil]; exact h.rg) (hxA.1.rep.cells hok.2) hxA.1.dom hpf t⟩
        · simp only [Option.some.injEq] at hs; subst hs
          intro e he hok
          simp only [POp.set.injEq, true_and] at he
          subst he
          exact ⟨_, _, hrun, stp_alloc h.bs _, fin_box (l := []) (E1 := E) (L := []) h (by rw [addDem_nil]; exact h.rg) Free.nil (hxA.1.rep.cells hok.2) hxA.1.dom (by simp) t⟩
  · cases hs

theorem keepIdx_mono (q : Nat) (tk : List Nat) : ∀ (k : Nat) (Fs : List Foot), ∀ e ∈ (keepIdx (q :: tk) k Fs).flatten, e ∈ (keepIdx tk k Fs).flatten
  | _, [], e, he => he
  | k, F' :: r, e, he => by
    simp only [keepIdx, List.flatten_cons, List.mem_append] at he ⊢
    rcases he with he | he
    · left
      split at he
      · cases he
      · rename_i hc
        rw [if_neg (by intro hh; apply hc; simp at hh ⊢; exact .inr hh)]; exact he
    · exact .inr (keepIdx_mono q tk (k + 1) r e he)

theorem part_own (tk : List Nat) : ∀ (k : Nat) {vs : List PV} {xs : List Value} {Fs : List Foot}, Reps w vs xs Fs → ∀ (j : Nat) {xv : Value}, j < vs.length → xs[j]? = some xv → tk.contains (k + j) = false →
    ∃ Fi, Rep w ((vs[j]?).getD .junk) xv Fi ∧ Fi.Sublist Fs.flatten ∧ (∀ e ∈ Fi, e ∈ (keepIdx tk k Fs).flatten) ∧ (∀ e ∈ (keepIdx ((k + j) :: tk) k Fs).flatten, e ∈ (keepIdx tk k Fs).flatten) ∧
      ((Fs.flatten.map (·.1)).Nodup → ∀ e ∈ Fi, ∀ f ∈ (keepIdx ((k + j) :: tk) k Fs).flatten, e.1 ≠ f.1)
  | k, _, _, _, .nil, j, xv, hj, _, _ => by simp at hj
  | k, _, _, _, .cons (F := F0) (Fs := Fr) h t, 0, xv, _, hx, hc => by
    simp at hx; subst hx
    refine ⟨F0, by simpa using h, by simp, ?_, keepIdx_mono _ tk k _, ?_⟩
    · intro e he
      simp only [keepIdx, List.flatten_cons, List.mem_append]
      left; rw [if_neg (by simpa using hc)]; exact he
    · intro hnd e he f hf
      simp only [List.flatten_cons, List.map_append, List.nodup_append] at hnd
      simp only [keepIdx, List.flatten_cons, List.mem_append] at hf
      rcases hf with hf | hf
      · rw [if_pos (by simp)] at hf; cases hf
      · have := (keepIdx_sub ((k + 0) :: tk) (k + 1) Fr).subset hf
        exact hnd.2.2 _ (List.mem_map.2 ⟨e, he, rfl⟩) _ (List.mem_map.2 ⟨f, this, rfl⟩)
  | k, _, _, _, .cons (F := F0) (Fs := Fr) h t, j + 1, xv, hj, hx, hc => by
    obtain ⟨Fi, p1, p2, p3, p4, p5⟩ := part_own tk (k + 1) t j (by simpa using hj) (by simpa using hx) (by rw [show k + 1 + j = k + (j + 1) by omega]; exact hc)
    refine ⟨Fi, by simpa using p1, p2.trans (by simp), fun e he => ?_, keepIdx_mono _ tk k _, ?_⟩
    · simp only [keepIdx, List.flatten_cons, List.mem_append]; exact .inr (p3 e he)
    · intro hnd e he f hf
      simp only [List.flatten_cons, List.map_append, List.nodup_append] at hnd
      simp only [keepIdx, List.flatten_cons, List.mem_append] at hf
      rcases hf with hf | hf
      · split at hf
        · cases hf
        · exact fun hh => hnd.2.2 _ (List.mem_map.2 ⟨f, hf, rfl⟩) _ (List.mem_map.2 ⟨e, p2.subset he, rfl⟩) hh.symm
      · rw [show k + (j + 1) = k + 1 + j by omega] at hf
        exact p5 hnd.2.1 e he f hf

theorem core_extract (h : Pre P X c F E B M M' V a w G) (hs : stepO X M' G o = some p) {t i d : Nat} (ho : o.op = .extract (.tmp t) i) (hd : o.dst = some d) : Core P c F E B M V a w o p := by
  simp only [stepO, ho, hd] at hs
  split at hs
  · cases hs
  · rename_i hg
    simp only [Bool.not_eq_true', Bool.not_eq_false] at hg
    have hM : M' t = M t := sb_ne h.sb (fun h0 => by rw [h0] at hs; simp at hs)
    rw [hM] at hs hg
    have hgq : ∀ q ∈ (M t).g, q ∈ G := fun q hq => by simpa using List.all_eq_true.1 hg q hq
    have hsl := ((h.rg.en t).sl (fun q hq => h.gl q (hgq q hq))).1 (fun q hq => h.gh q (hgq q hq))
    have run : ∀ {vs : List PV} {xs : List Value} {F' : Foot}, Act.x a t = .tuple xs.toArray → RepL w vs xs F' → i < vs.length → ∃ xv, xs[i]? = some xv ∧ (execOp a.eval o).run P w = .ok (.value xv) w := by
      intro vs xs F' h1 h2 h3
      have hl := h2.length
      refine ⟨xs[i]'(by omega), by simp [show i < xs.length by omega], ?_⟩
      have he : a.eval (.tmp t) = .tuple xs.toArray := h1
      simp [execOp, ho, he, Instr.extract, show i < xs.length by omega]
    have part : ∀ {vs : List PV} {xs : List Value} {F' : Foot} {xv : Value}, RepL w vs xs F' → i < vs.length → xs[i]? = some xv → ∃ F2, Rep w ((vs[i]?).getD .junk) xv F2 ∧ F2.Sublist F' := by
      intro vs xs F' xv h1 h2 h3
      obtain ⟨F2, h4, h5⟩ := h1.sub i 1
      have e1 : sub vs i 1 = [(vs[i]?).getD .junk] := by
        simp only [sub]; rw [List.drop_eq_getElem_cons h2, List.take_succ_cons, List.take_zero, List.getElem?_eq_getElem h2]; rfl
      have hl := h1.length
      have e2 : subx xs i 1 = [xv] := by
        have hlt : i < xs.length := by omega
        simp only [subx]; rw [List.drop_eq_getElem_cons hlt, List.take_succ_cons, List.take_zero]
        rw [List.getElem?_eq_getElem hlt] at h3
        simp at h3; rw [h3]
      rw [e1, e2] at h4
      obtain ⟨x, xs', G1, G2, hx, rfl, h6, h7⟩ := h4.cons_inv
      simp at hx
      obtain ⟨rfl, rfl⟩ := hx
      obtain ⟨_, rfl⟩ := h7.nil_inv
      exact ⟨G1, h6, by simpa using h5⟩
    have plain : ∀ {m : Md} {sc : Bool}, Rep w (V t) (Act.x a t) (F t) → (∀ {v' xv F'}, Rep w v' xv F' → F'.Sublist (F t) → (sc = true → scB v' = true) → Fin c F E B M V (Act.x a) w w d m [] v' xv) → (∃ vs, V t = .tup vs) ∨ True →
        Core P c F E B M V a w o ⟨d, m, [], .set d (.ext t i sc), false⟩ := by
      intro m sc hrep hfin _
      refine Core.of_pure fun hok => ?_
      obtain ⟨k1, k2⟩ := hok
      cases hv : V t <;> rw [hv] at k1 hrep <;> simp only [PV.parts, List.length_nil, Nat.not_lt_zero] at k1
      rename_i vs
      cases hrep' : Act.x a t <;> rw [hrep'] at hrep <;> first | (exfalso; cases hrep; done) | skip
      rename_i xs
      have hrl : RepL w vs xs.toList (F t) := by
        generalize hX : Value.tuple xs = Y at hrep
        generalize hF : F t = Z at hrep ⊢
        cases hrep with
        | tup t => simp at hX; subst hX; simpa using t
      obtain ⟨xv, e1, e2⟩ := run (vs := vs) (xs := xs.toList) (by rw [hrep']) hrl k1
      obtain ⟨F2, e3, e4⟩ := part hrl k1 e1
      refine ⟨xv, e2, ?_⟩
      have hval : (Ex.ext t i sc).val V = (vs[i]?).getD .junk := by simp [Ex.val, hv, PV.parts]
      rw [hval]
      exact hfin e3 e4 (fun hh => by have := k2 hh; rwa [hv] at this)
    split at hs
    · rename_i tk hm
      rw [hm] at hsl
      split at hs
      · cases hs
      · rename_i hc
        simp only [Bool.or_eq_true, bne_iff_ne, ne_eq, not_or, Decidable.not_not] at hc
        obtain ⟨vs, xs, Fs, e1, e2, e3, e4, e5, e6⟩ := hsl
        have hrl := e3.repl
        rw [← e4] at hrl
        have hrepT : Rep w (V t) (Act.x a t) (F t) := by rw [e1, e2]; have := Rep.tup hrl; simpa using this
        split at hs
        · simp only [Option.some.injEq] at hs; subst hs
          exact plain hrepT (fun h1 h2 h3 => by
            have h4 := h1.sc (h3 rfl)
            subst h4; exact fin_sc h h1) (.inr trivial)
        · split at hs
          · simp only [Option.some.injEq] at hs; subst hs
            exact plain hrepT (fun h1 h2 h3 => Fin.pure h.rg _ h1 rfl (fun f hf => ⟨t, f, h2.subset hf, rfl, Nat.le_refl _⟩)) (.inr trivial)
          · rename_i htk
            simp only [Option.some.injEq] at hs; subst hs
            intro e he hok
            simp only [POp.set.injEq, true_and] at he
            subst he
            obtain ⟨k1, k2⟩ := hok
            rw [e1] at k1
            simp only [PV.parts] at k1
            obtain ⟨xv, q1, q2⟩ := run (vs := vs) (xs := xs.toList) (by rw [e2]) hrl k1
            refine ⟨xv, w, q2, Stp.refl _ _, ?_⟩
            have hval : (Ex.ext t i false).val V = (vs[i]?).getD .junk := by simp [Ex.val, e1, PV.parts]
            rw [hval]
            obtain ⟨Fi, p1, p2, p3, p4, p5⟩ := part_own tk 0 e3 i k1 q1 (by simpa using htk)
            rw [Nat.zero_add] at p4 p5
            rw [← e4] at p2 p5
            have hFt : ∀ e ∈ Fi, e ∈ E t := fun e he => e5 e (p3 e he)
            have hks := keepIdx_sub (i :: tk) 0 Fs
            rw [← e4] at hks
            have r1 := h.rg.demote t (.tup (i :: tk)) (keepIdx (i :: tk) 0 Fs).flatten (fun e he => e5 e (p4 e he)) (e6.sublist (hks.map _)) (by simp [isBox]) (by simp [mayOwn]) (fun _ =>
              ⟨vs, xs, Fs, e1, e2, e3, e4, by rw [setF_same]; exact fun e he => he, e6⟩)
            have hL : Free c F (setF E t (keepIdx (i :: tk) 0 Fs).flatten) w Fi := by
              refine ⟨fun e he t' f hf => ?_, e6.sublist (p2.map _), fun e he => h.rg.e3 t e (hFt e he), fun e he => ⟨t, h.rg.e4 t e (hFt e he)⟩, fun e he => h.rg.e5 t e (hFt e he)⟩
              by_cases ht : t' = t
              · subst ht; rw [setF_same] at hf; exact p5 e6 e he f hf
              · rw [setF_ne _ _ ht] at hf
                exact fun hh => ht (h.rg.e1 t t' e f (hFt e he) hf hh).symm
            exact fin_taken (E := E) (dp := true) r1 hL p1 (fun f hf => ⟨t, f, p2.subset hf, rfl, Nat.le_refl _⟩) (by simp [topOf]) (by simp)
    · rename_i hm
      rw [hm] at hsl
      simp only [Option.some.injEq] at hs; subst hs
      exact plain (by rw [hsl.2]; exact hsl.1) (fun h1 h2 h3 => by
        have h4 := h1.sc (h3 rfl)
        subst h4; exact fin_sc h h1) (.inr trivial)
    · rename_i hm
      rw [hm] at hsl
      simp only [Option.some.injEq] at hs; subst hs
      refine plain hsl.1 (fun h1 h2 h3 => ?_) (.inr trivial)
      cases hfl : X.flat o.type with
      | true =>
        have h4 := h1.sc (h3 hfl)
        subst h4; simpa [hfl] using fin_sc h h1
      | false => simpa [hfl, hm] using Fin.pure (m := .par) (d := d) h.rg _ ⟨h1, fun f hf => hsl.2 f (h2.subset hf)⟩ rfl (fun f hf => ⟨t, f, h2.subset hf, rfl, Nat.le_refl _⟩)
    · rename_i hm
      rw [hm] at hsl
      simp only [Option.some.injEq] at hs; subst hs
      refine plain hsl (fun h1 h2 h3 => ?_) (.inr trivial)
      cases hfl : X.flat o.type with
      | true =>
        have h4 := h1.sc (h3 hfl)
        subst h4; simpa [hfl] using fin_sc h h1
      | false => simpa [hfl, hm] using Fin.pure (m := .ext) (d := d) h.rg _ h1 rfl (fun f hf => ⟨t, f, h2.subset hf, rfl, Nat.le_refl _⟩)
    · cases hs


/-! #### make -/

theorem madeCells_toList (z : Array Value) (n : Nat) : (madeCells z (n * z.size)).toList = (List.replicate n z.toList).flatten := by
  simp only [madeCells, Array.toList_map, Array.toList_range]
  induction n with
  | zero => simp
  | succ n ih =>
    rw [Nat.succ_mul, List.range_add, List.map_append, ih, List.replicate_succ', List.flatten_append]
    congr 1
    simp only [List.map_map, List.flatten_cons, List.flatten_nil, List.append_nil]
    apply List.ext_getElem
    · simp
    · intro j h1 h2
      have hj : j < z.size := by simpa using h1
      have : (n * z.size + j) % z.size = j := by rw [Nat.add_comm, Nat.add_mul_mod_self_right]; exact Nat.mod_eq_of_lt hj
      simp [this, hj]

theorem rep_made {w : World} {z : List PV} {zs : List Value} (h : RepL w z zs []) : ∀ n, RepL w (List.replicate n z).flatten (List.replicate n zs).flatten []
  | 0 => .nil
  | n + 1 => by
    have := h.append (rep_made h n)
    simpa [List.replicate_succ] using this

theorem plainZ_one {v : PV} (h : plainZ v = true) : oneB v = true := by cases v <;> simp_all [plainZ, oneB]

theorem core_makeSlice (h : Pre P X c F E B M M' V a w G) (hs : stepO X M' G o = some p) {t d x y : Nat} (ho : o.op = .makeSlice t (.tmp x) (.tmp y)) (hd : o.dst = some d) : Core P c F E B M V a w o p := by
  simp only [stepO, ho, hd] at hs
  split at hs
  · cases hs
  · rename_i hc
    simp only [Bool.or_eq_true, bne_iff_ne, ne_eq, not_or, Decidable.not_not] at hc
    obtain ⟨_, rfl⟩ := hc
    split at hs
    · rename_i n it hn hit
      obtain ⟨F1, h1⟩ := h.op_ hn
      split at hs
      · rename_i e hk
        split at hs
        · rename_i j hj
          split at hs
          · cases hs
          · rename_i hdt
            simp only [Bool.or_eq_true, Bool.not_eq_true', not_or, Bool.not_eq_false] at hdt
            simp only [Option.some.injEq] at hs; subst hs
            intro ex he hok
            simp only [POp.set.injEq, true_and] at he
            subst he
            obtain ⟨k1, k2, k3, k4⟩ := hok
            have hrep := h1.rep
            obtain ⟨jj, hjj, hj1, hj2, hz⟩ := tiB.info (h.tb _ _ hj) hdt.1
            obtain ⟨z, hz1, hz2, hz3⟩ := hz hdt.2
            have hzr := zOK.rep (w := w) hz2
            have hu := kindOK.slice (h.tb _ _ hit) hk
            obtain ⟨kk, nn, hv⟩ : ∃ kk nn, n.val V = .int kk nn := by
              cases hv : n.val V <;> rw [hv] at k1 <;> simp [isInt] at k1
              exact ⟨_, _, rfl⟩
            rw [hv] at hrep k2 k3 k4
            simp only [PV.num] at k2 k3 k4
            have hx := hrep.int_inv.1
            have hb : (jj.bytes : Int) * nn ≤ 281474976710656 := by rw [hj2, Int.mul_comm]; omega
            have hr := run_make (P := P) w t e jj z hu hjj hz1 kk kk nn nn k2 (Int.le_refl _) hb (by omega)
            rw [← hx] at hr
            refine ⟨_, _, by simpa [execOp, ho] using run_v hr, stp_alloc h.bs _, ?_⟩
            have hval : (Ex.mks j.sz j.b j.z n).val V = .lst j.sz false (List.replicate nn.toNat j.z) := by simp [Ex.val, hv, PV.num]
            rw [hval]
            have hzl : j.z.length = j.sz := by rw [← hzr.length]; simpa using hz3
            have hmade : (madeCells z.cells (nn.toNat * jj.size)).toList = (List.replicate nn.toNat z.cells.toList).flatten := by
              rw [hj1, ← hz3]; exact madeCells_toList _ _
            have hfl := rep_made hzr nn.toNat
            rw [← hmade] at hfl
            have hmv : Moves F E B (addDem [] M) w (w.alloc (.cells (madeCells z.cells (nn.toNat * jj.size)) e)) := by
              rw [addDem_nil]; exact h.rg.grow (by rw [alloc_size]; omega) (alloc_blocks w _)
            refine Fin0.fin ⟨E, [], [], [], w.heap.size, by rw [addDem_nil]; exact h.rg, Free.nil, hmv,
              ⟨List.replicate nn.toNat j.z, _, e, rfl, by simp, alloc_new w _, by rw [size_madeCells, hj1]; simp, ?_, ?_, hfl.keep (fun e he => by cases he), ⟨by simp [topOf], by simp [topOf]⟩⟩, by simp, by simp, by simp, by simp, fun _ => ⟨h.bs, Nat.le_refl _, .inl h.bs, by rw [alloc_size]; omega, by simp⟩⟩
            · intro cs hcs
              rw [List.eq_of_mem_replicate hcs]; exact hzl
            · intro cs hcs v hv
              rw [List.eq_of_mem_replicate hcs] at hv
              exact plainZ_one (List.all_eq_true.1 hdt.2 v hv)
        · cases hs
      · cases hs
    · cases hs

end
end Go.Eng
