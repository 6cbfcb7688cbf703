/- A part of the proof of a law's statement: for every input the law returns true and leaves its arguments as they were. No condition beyond the statement's own. What each function computes. -/
import Derived.Shelf.LaysM
import Derived.Shelf.Strconv.Itoa3
import Derived.Lib.AppendIntMem
import Derived.WalkKit
import Derived.Deep.QuietTactic
import Derived.BigQuiet
import Derived.Laws.BitsLemmas
import Derived.Test.YtpbkimkjofngmaaDoorBi1
set_option linter.unusedVariables false
set_option linter.unusedSimpArgs false
set_option linter.unusedSectionVars false
set_option autoImplicit true
set_option relaxedAutoImplicit true
namespace Go.Eng
open Go
set_option linter.unusedSimpArgs false
set_option linter.unusedVariables false

structure Pt where
  f0 : Int
  f1 : Int
structure Sg where
  f0 : Pt
  f1 : Pt
/-! plain laws on numbers and lists -/
theorem wrap_id {x : Int} (h0 : -9223372036854775808 ≤ x) (h1 : x ≤ 9223372036854775807) : wr .i64 x = x := wr_in h0 h1
theorem wrap_up (i : Nat) (h : i + 1 ≤ 9223372036854775807) : wr .i64 ((i : Int) + 1) = ((i + 1 : Nat) : Int) := by rw [wr_in (by omega) (by omega)]; rfl
theorem wrap_down (i : Nat) (h : 0 < i) (hi : i ≤ 9223372036854775807) : wr .i64 ((i : Int) - 1) = ((i - 1 : Nat) : Int) := by rw [wr_in (by omega) (by omega)]; omega
theorem drop_at {α : Type} {l : List α} {i : Nat} (h : i < l.length) : ∃ x, l[i]? = some x ∧ l.drop i = x :: l.drop (i + 1) := ⟨l[i], List.getElem?_eq_getElem h, by rw [List.drop_eq_getElem_cons h]⟩
namespace Geo
/-- the product that tells the side of p from a to b -/
def crs (ax ay bx by' px py : Int) : Int := (bx - ax) * (py - ay) - (by' - ay) * (px - ax)
theorem mul_pos_neg {a b : Int} (h : a * b < 0) : (0 < a ∧ b < 0) ∨ (a < 0 ∧ 0 < b) := by
  rcases Int.lt_trichotomy a 0 with ha | ha | ha
  · rcases Int.lt_trichotomy b 0 with hb | hb | hb
    · have := Int.mul_pos_of_neg_of_neg ha hb; omega
    · rw [hb] at h; omega
    · exact .inr ⟨ha, hb⟩
  · rw [ha] at h; omega
  · rcases Int.lt_trichotomy b 0 with hb | hb | hb
    · exact .inl ⟨ha, hb⟩
    · rw [hb] at h; omega
    · have := Int.mul_pos ha hb; omega
/-- weights: p, q positive; what lies at or below m is below what lies at or above M, if m < M -/
theorem weigh {p q r s x y z w m M : Int} (hp : 0 < p) (hq : 0 < q) (hr : 0 < r) (hs : 0 < s) (ht : p + q = r + s) (hx : x ≤ m) (hy : y ≤ m) (hz : M ≤ z) (hw : M ≤ w) (hm : m < M) : p * x + q * y < r * z + s * w := by
  have h1 : p * x ≤ p * m := Int.mul_le_mul_of_nonneg_left hx (by omega)
  have h2 : q * y ≤ q * m := Int.mul_le_mul_of_nonneg_left hy (by omega)
  have h3 : r * M ≤ r * z := Int.mul_le_mul_of_nonneg_left hz (by omega)
  have h4 : s * M ≤ s * w := Int.mul_le_mul_of_nonneg_left hw (by omega)
  have h5 : (p + q) * m < (p + q) * M := Int.mul_lt_mul_of_pos_left hm (by omega)
  have h6 : (p + q) * m = p * m + q * m := Int.add_mul ..
  have h7 : (p + q) * M = r * M + s * M := by rw [ht, Int.add_mul]
  omega
/-- Two segments of which each parts the ends of the other one: their X (or Y) are not apart. c, d: the sides of s's ends from t; a, b: those of t's ends from s. -/
theorem not_apart {a b c d x0 x1 z0 z1 : Int} (hab : a * b < 0) (hcd : c * d < 0) (hD : c - d = b - a) (hid : c * x1 - d * x0 = b * z0 - a * z1) {m M : Int} (h0 : x0 ≤ m) (h1 : x1 ≤ m) (h2 : M ≤ z0) (h3 : M ≤ z1) (hm : m < M) : False := by
  rcases mul_pos_neg hcd with ⟨hc, hd⟩ | ⟨hc, hd⟩
  · have ha : a < 0 ∧ 0 < b := by rcases mul_pos_neg hab with ⟨h, h'⟩ | ⟨h, h'⟩ <;> omega
    have := weigh (p := c) (q := -d) (r := b) (s := -a) hc (by omega) ha.2 (by omega) (by omega) h1 h0 h2 h3 hm
    have e1 : -d * x0 = -(d * x0) := Int.neg_mul ..
    have e2 : -a * z1 = -(a * z1) := Int.neg_mul ..
    omega
  · have ha : 0 < a ∧ b < 0 := by rcases mul_pos_neg hab with ⟨h, h'⟩ | ⟨h, h'⟩ <;> omega
    have := weigh (p := -c) (q := d) (r := -b) (s := a) (by omega) hd (by omega) ha.1 (by omega) h1 h0 h2 h3 hm
    have e1 : -c * x1 = -(c * x1) := Int.neg_mul ..
    have e2 : -b * z0 = -(b * z0) := Int.neg_mul ..
    omega
theorem not_apart' {a b c d x0 x1 z0 z1 : Int} (hab : a * b < 0) (hcd : c * d < 0) (hD : c - d = b - a) (hid : c * x1 - d * x0 = b * z0 - a * z1) {m M : Int} (h0 : z0 ≤ m) (h1 : z1 ≤ m) (h2 : M ≤ x0) (h3 : M ≤ x1) (hm : m < M) : False :=
  not_apart (a := c) (b := d) (c := a) (d := b) (x0 := z0) (x1 := z1) (z0 := x0) (z1 := x1) hcd hab (by omega) (by omega) h0 h1 h2 h3 hm
section
variable (ax ay bx by' cx cy dx dy : Int)
theorem id_D : crs cx cy dx dy ax ay - crs cx cy dx dy bx by' = crs ax ay bx by' dx dy - crs ax ay bx by' cx cy := by
  unfold crs
  simp only [Int.sub_mul, Int.mul_sub]
  simp only [Int.mul_comm]
  omega
theorem id_X : crs cx cy dx dy ax ay * bx - crs cx cy dx dy bx by' * ax = crs ax ay bx by' dx dy * cx - crs ax ay bx by' cx cy * dx := by
  unfold crs
  simp only [Int.sub_mul, Int.mul_sub]
  simp only [Int.mul_comm, Int.mul_left_comm, Int.mul_assoc]
  omega
theorem id_Y : crs cx cy dx dy ax ay * by' - crs cx cy dx dy bx by' * ay = crs ax ay bx by' dx dy * cy - crs ax ay bx by' cx cy * dy := by
  unfold crs
  simp only [Int.sub_mul, Int.mul_sub]
  simp only [Int.mul_comm, Int.mul_left_comm, Int.mul_assoc]
  omega
end
/-- two directions along a third one that is not null are along each other -/
theorem along {ux uy vx vy wx wy : Int} (hw : ¬ (wx = 0 ∧ wy = 0)) (hu : ux * wy = uy * wx) (hv : vx * wy = vy * wx) : ux * vy = uy * vx := by
  by_cases h : wx = 0
  · have hy : wy ≠ 0 := fun e => hw ⟨h, e⟩
    rw [h, Int.mul_zero] at hu hv
    have hu0 : ux = 0 := (Int.mul_eq_zero.1 hu).resolve_right hy
    have hv0 : vx = 0 := (Int.mul_eq_zero.1 hv).resolve_right hy
    rw [hu0, hv0]; omega
  · refine Int.eq_of_mul_eq_mul_right h ?_
    calc ux * vy * wx = ux * (vy * wx) := by rw [Int.mul_assoc]
      _ = ux * (vx * wy) := by rw [hv]
      _ = vx * (ux * wy) := by rw [Int.mul_left_comm]
      _ = vx * (uy * wx) := by rw [hu]
      _ = uy * vx * wx := by rw [Int.mul_left_comm, Int.mul_assoc]
end Geo
namespace Geo
def Btw (u w : Int) : Prop := (0 ≤ w ∧ w ≤ u) ∨ (u ≤ w ∧ w ≤ 0)
theorem btw_of {o k u w : Int} (hk : k ≠ 0) (hu : u ≠ 0) (h : o * u = w * k) (hb : Btw u w) : Btw k o := by
  rcases Int.lt_or_gt_of_ne hu with hu | hu <;> rcases Int.lt_or_gt_of_ne hk with hk | hk
  · -- u < 0, k < 0
    have hw : u ≤ w ∧ w ≤ 0 := by rcases hb with h | h <;> omega
    have h1 : 0 ≤ w * k := Int.mul_nonneg_of_nonpos_of_nonpos hw.2 (by omega)
    have h2 : w * k ≤ u * k := Int.mul_le_mul_of_nonpos_right hw.1 (by omega)
    right
    constructor
    · apply Int.not_lt.1
      intro hc
      have : k * u < o * u := Int.mul_lt_mul_of_neg_right hc hu
      have e : k * u = u * k := Int.mul_comm ..
      omega
    · apply Int.not_lt.1
      intro hc
      have : o * u < 0 := Int.mul_neg_of_pos_of_neg hc hu
      omega
  · -- u < 0, 0 < k
    have hw : u ≤ w ∧ w ≤ 0 := by rcases hb with h | h <;> omega
    have h1 : w * k ≤ 0 := Int.mul_nonpos_of_nonpos_of_nonneg hw.2 (by omega)
    have h2 : u * k ≤ w * k := Int.mul_le_mul_of_nonneg_right hw.1 (by omega)
    left
    constructor
    · apply Int.not_lt.1
      intro hc
      have : 0 < o * u := Int.mul_pos_of_neg_of_neg hc hu
      omega
    · apply Int.not_lt.1
      intro hc
      have : o * u < k * u := Int.mul_lt_mul_of_neg_right hc hu
      have e : k * u = u * k := Int.mul_comm ..
      omega
  · -- 0 < u, k < 0
    have hw : 0 ≤ w ∧ w ≤ u := by rcases hb with h | h <;> omega
    have h1 : w * k ≤ 0 := Int.mul_nonpos_of_nonneg_of_nonpos hw.1 (by omega)
    have h2 : u * k ≤ w * k := Int.mul_le_mul_of_nonpos_right hw.2 (by omega)
    right
    constructor
    · apply Int.not_lt.1
      intro hc
      have : o * u < k * u := Int.mul_lt_mul_of_pos_right hc hu
      have e : k * u = u * k := Int.mul_comm ..
      omega
    · apply Int.not_lt.1
      intro hc
      have : 0 < o * u := Int.mul_pos hc hu
      omega
  · -- 0 < u, 0 < k
    have hw : 0 ≤ w ∧ w ≤ u := by rcases hb with h | h <;> omega
    have h1 : 0 ≤ w * k := Int.mul_nonneg hw.1 (by omega)
    have h2 : w * k ≤ u * k := Int.mul_le_mul_of_nonneg_right hw.2 (by omega)
    left
    constructor
    · apply Int.not_lt.1
      intro hc
      have : o * u < 0 := Int.mul_neg_of_neg_of_pos hc hu
      omega
    · apply Int.not_lt.1
      intro hc
      have : k * u < o * u := Int.mul_lt_mul_of_pos_right hc hu
      have e : k * u = u * k := Int.mul_comm ..
      omega
theorem btw_iff {o k u w : Int} (hk : k ≠ 0) (hu : u ≠ 0) (h : o * u = w * k) : Btw u w ↔ Btw k o := ⟨btw_of hk hu h, btw_of hu hk h.symm⟩
/-- p lies in the box of a and b -/
def Inb (ax ay bx by' px py : Int) : Prop := (min ax bx ≤ px ∧ px ≤ max ax bx) ∧ (min ay by' ≤ py ∧ py ≤ max ay by')
/-- the place of a point in the order by Y and then by X -/
def K (x y : Int) : Int := 201 * y + x
def Vl (x : Int) : Prop := 0 ≤ x ∧ x ≤ 200
theorem kx {ux uy wx wy : Int} (e : ux * wy = uy * wx) : (201 * wy + wx) * ux = wx * (201 * uy + ux) := by
  have h1 : (201 * wy + wx) * ux = 201 * (ux * wy) + wx * ux := by rw [Int.add_mul, Int.mul_assoc, Int.mul_comm wy ux]
  have h2 : wx * (201 * uy + ux) = 201 * (uy * wx) + wx * ux := by rw [Int.mul_add, Int.mul_left_comm, Int.mul_comm wx uy]
  rw [h1, h2, e]
theorem ky {ux uy wx wy : Int} (e : ux * wy = uy * wx) : (201 * wy + wx) * uy = wy * (201 * uy + ux) := by
  have h1 : (201 * wy + wx) * uy = 201 * (wy * uy) + uy * wx := by rw [Int.add_mul, Int.mul_assoc, Int.mul_comm wx uy]
  have h2 : wy * (201 * uy + ux) = 201 * (wy * uy) + ux * wy := by rw [Int.mul_add, Int.mul_left_comm, Int.mul_comm wy ux]
  rw [h1, h2, e]
theorem lin {ux uy px py qx qy : Int} (h : ux * py - uy * px = 0) (h' : ux * qy - uy * qx = 0) : ux * (qy - py) = uy * (qx - px) := by
  rw [Int.mul_sub, Int.mul_sub]; omega
theorem lin2 {px py qx qy : Int} (h : px * qy = py * qx) : (qx - px) * (-py) - (qy - py) * (-px) = 0 := by
  rw [Int.mul_neg, Int.mul_neg, Int.sub_mul, Int.sub_mul, Int.mul_comm qx py, Int.mul_comm qy px, Int.mul_comm px py]; omega
theorem K_box {ax ay bx by' px py : Int} (v0 : Vl ax) (v1 : Vl ay) (v2 : Vl bx) (v3 : Vl by') (v4 : Vl px) (v5 : Vl py) (hne : ¬ (ax = bx ∧ ay = by')) (h : crs ax ay bx by' px py = 0) :
    Inb ax ay bx by' px py ↔ (min (K ax ay) (K bx by') ≤ K px py ∧ K px py ≤ max (K ax ay) (K bx by')) := by
  unfold Vl at *
  have hk : K bx by' - K ax ay ≠ 0 := by unfold K; omega
  have e : (bx - ax) * (py - ay) = (by' - ay) * (px - ax) := by unfold crs at h; omega
  have a1 : K px py - K ax ay = 201 * (py - ay) + (px - ax) := by unfold K; omega
  have a2 : K bx by' - K ax ay = 201 * (by' - ay) + (bx - ax) := by unfold K; omega
  have e1 : (K px py - K ax ay) * (bx - ax) = (px - ax) * (K bx by' - K ax ay) := by rw [a1, a2]; exact kx e
  have e2 : (K px py - K ax ay) * (by' - ay) = (py - ay) * (K bx by' - K ax ay) := by rw [a1, a2]; exact ky e
  have b0 : Inb ax ay bx by' px py ↔ Btw (bx - ax) (px - ax) ∧ Btw (by' - ay) (py - ay) := by unfold Inb Btw; omega
  have b1 : (min (K ax ay) (K bx by') ≤ K px py ∧ K px py ≤ max (K ax ay) (K bx by')) ↔ Btw (K bx by' - K ax ay) (K px py - K ax ay) := by unfold Btw; omega
  rw [b0, b1]
  have z : ∀ {o k u w : Int}, k ≠ 0 → o * u = w * k → u = 0 → w = 0 := by
    intro o k u w hk h hu
    rw [hu, Int.mul_zero] at h
    exact (Int.mul_eq_zero.1 h.symm).resolve_right hk
  by_cases cx : bx - ax = 0
  · have wx := z hk e1 cx
    have cy : by' - ay ≠ 0 := by omega
    rw [btw_iff hk cy e2, cx, wx]
    unfold Btw
    omega
  · rw [btw_iff hk cx e1]
    by_cases cy : by' - ay = 0
    · have wy := z hk e2 cy
      rw [cy, wy]
      unfold Btw
      omega
    · rw [btw_iff hk cy e2]
      exact ⟨fun h => h.1, fun h => ⟨h, h⟩⟩
theorem K_inj {ax ay bx by' : Int} (v0 : Vl ax) (v2 : Vl bx) : K ax ay = K bx by' ↔ ax = bx ∧ ay = by' := by unfold K Vl at *; omega
/-- four points on one line: the other two sides are null, too -/
theorem col_back {ax ay bx by' cx cy dx dy : Int} (hne : ¬ (ax = bx ∧ ay = by')) (h0 : crs ax ay bx by' cx cy = 0) (h1 : crs ax ay bx by' dx dy = 0) : crs cx cy dx dy ax ay = 0 ∧ crs cx cy dx dy bx by' = 0 := by
  have u0 : ¬ (bx - ax = 0 ∧ by' - ay = 0) := by omega
  have g0 : (cx - ax) * (by' - ay) = (cy - ay) * (bx - ax) := by unfold crs at h0; rw [Int.mul_comm (cy - ay), Int.mul_comm (cx - ax)]; omega
  have g1 : (dx - ax) * (by' - ay) = (dy - ay) * (bx - ax) := by unfold crs at h1; rw [Int.mul_comm (dy - ay), Int.mul_comm (dx - ax)]; omega
  have k0 := along u0 g0 g1
  have hD := id_D ax ay bx by' cx cy dx dy
  have e : crs cx cy dx dy ax ay = 0 := by
    unfold crs
    have a1 : dx - cx = (dx - ax) - (cx - ax) := by omega
    have a2 : dy - cy = (dy - ay) - (cy - ay) := by omega
    have a3 : ay - cy = -(cy - ay) := by omega
    have a4 : ax - cx = -(cx - ax) := by omega
    rw [a1, a2, a3, a4]
    exact lin2 k0
  exact ⟨e, by omega⟩
/-- two segments that are not on one line share at most one point -/
theorem one_shared {ax ay bx by' cx cy dx dy px py qx qy : Int} (ht : ¬ (cx = dx ∧ cy = dy)) (hn : ¬ (crs ax ay bx by' cx cy = 0 ∧ crs ax ay bx by' dx dy = 0)) (p0 : crs ax ay bx by' px py = 0) (p1 : crs cx cy dx dy px py = 0) (q0 : crs ax ay bx by' qx qy = 0) (q1 : crs cx cy dx dy qx qy = 0) : px = qx ∧ py = qy := by
  apply Classical.byContradiction
  intro hne
  apply hn
  have w0 : ¬ (qx - px = 0 ∧ qy - py = 0) := by omega
  have dif : ∀ {ax ay bx by' : Int}, crs ax ay bx by' px py = 0 → crs ax ay bx by' qx qy = 0 → (bx - ax) * (qy - py) = (by' - ay) * (qx - px) := by
    intro ax ay bx by' h h'
    have a1 : qy - py = (qy - ay) - (py - ay) := by omega
    have a2 : qx - px = (qx - ax) - (px - ax) := by omega
    rw [a1, a2]
    exact lin h h'
  have hu := dif p0 q0
  have hv := dif p1 q1
  have huv := along w0 hu hv
  have v0 : ¬ (dx - cx = 0 ∧ dy - cy = 0) := by omega
  -- from any point r on t's line: r - p is along v, so along u
  have onl : ∀ {rx ry : Int}, crs cx cy dx dy rx ry = 0 → crs ax ay bx by' rx ry = 0 := by
    intro rx ry hr
    have g : (rx - px) * (dy - cy) = (ry - py) * (dx - cx) := by
      have a1 : ry - py = (ry - cy) - (py - cy) := by omega
      have a2 : rx - px = (rx - cx) - (px - cx) := by omega
      rw [a1, a2, Int.mul_comm _ (dy - cy), Int.mul_comm _ (dx - cx)]
      exact (lin p1 hr).symm
    have g2 := along v0 huv g
    unfold crs at p0 ⊢
    have a1 : ry - ay = (ry - py) + (py - ay) := by omega
    have a2 : rx - ax = (rx - px) + (px - ax) := by omega
    rw [a1, a2, Int.mul_add, Int.mul_add]
    omega
  refine ⟨onl (rx := cx) (ry := cy) ?_, onl (rx := dx) (ry := dy) ?_⟩
  · unfold crs
    rw [Int.sub_self, Int.sub_self]
    omega
  · unfold crs
    rw [Int.mul_comm]
    omega
end Geo
open Geo
def M_IsPoint (x y : Int) : Bool := decide (0 ≤ x ∧ x ≤ 200) && decide (0 ≤ y ∧ y ≤ 200)
theorem M_IsPoint_iff (x y : Int) : M_IsPoint x y = true ↔ Vl x ∧ Vl y := by
  unfold M_IsPoint Vl
  rw [Bool.and_eq_true, decide_eq_true_iff, decide_eq_true_iff]
def M_IsSegment (ax ay bx by' : Int) : Bool := M_IsPoint ax ay && (M_IsPoint bx by' && !(decide (ax = bx ∧ ay = by')))
theorem M_IsSegment_iff (ax ay bx by' : Int) : M_IsSegment ax ay bx by' = true ↔ (Vl ax ∧ Vl ay) ∧ (Vl bx ∧ Vl by') ∧ ¬ (ax = bx ∧ ay = by') := by
  unfold M_IsSegment
  rw [Bool.and_eq_true, Bool.and_eq_true, M_IsPoint_iff, M_IsPoint_iff, Bool.not_eq_true', decide_eq_false_iff_not]
def sgn (z : Int) : Int := if z > 0 then 1 else if z < 0 then -1 else 0
theorem sgn_zero (z : Int) : sgn z = 0 ↔ z = 0 := by unfold sgn; split <;> (try split) <;> omega
theorem sgn_pos (z : Int) : 0 < sgn z ↔ 0 < z := by unfold sgn; split <;> (try split) <;> omega
theorem sgn_neg (z : Int) : sgn z < 0 ↔ z < 0 := by unfold sgn; split <;> (try split) <;> omega
theorem sgn_le (z : Int) : -1 ≤ sgn z ∧ sgn z ≤ 1 := by unfold sgn; split <;> (try split) <;> omega
theorem sgn_mul (x y : Int) : sgn x * sgn y < 0 ↔ x * y < 0 := by
  constructor
  · intro h
    rcases mul_pos_neg h with ⟨a, b⟩ | ⟨a, b⟩
    · exact Int.mul_neg_of_pos_of_neg ((sgn_pos x).1 a) ((sgn_neg y).1 b)
    · exact Int.mul_neg_of_neg_of_pos ((sgn_neg x).1 a) ((sgn_pos y).1 b)
  · intro h
    rcases mul_pos_neg h with ⟨a, b⟩ | ⟨a, b⟩
    · exact Int.mul_neg_of_pos_of_neg ((sgn_pos x).2 a) ((sgn_neg y).2 b)
    · exact Int.mul_neg_of_neg_of_pos ((sgn_neg x).2 a) ((sgn_pos y).2 b)
theorem mul_bound {x y : Int} (h0 : -200 ≤ x) (h1 : x ≤ 200) (h2 : -200 ≤ y) (h3 : y ≤ 200) : -40000 ≤ x * y ∧ x * y ≤ 40000 := by
  have a : (x + 200) * (y + 200) ≥ 0 := Int.mul_nonneg (by omega) (by omega)
  have b : (200 - x) * (200 - y) ≥ 0 := Int.mul_nonneg (by omega) (by omega)
  have c : (x + 200) * (200 - y) ≥ 0 := Int.mul_nonneg (by omega) (by omega)
  have d : (200 - x) * (y + 200) ≥ 0 := Int.mul_nonneg (by omega) (by omega)
  simp only [Int.add_mul, Int.mul_add, Int.sub_mul, Int.mul_sub] at a b c d
  omega
theorem crs_bound {ax ay bx by' px py : Int} (v0 : Vl ax) (v1 : Vl ay) (v2 : Vl bx) (v3 : Vl by') (v4 : Vl px) (v5 : Vl py) : -80000 ≤ crs ax ay bx by' px py ∧ crs ax ay bx by' px py ≤ 80000 := by
  unfold Vl at *
  unfold crs
  have h1 := mul_bound (x := bx - ax) (y := py - ay) (by omega) (by omega) (by omega) (by omega)
  have h2 := mul_bound (x := by' - ay) (y := px - ax) (by omega) (by omega) (by omega) (by omega)
  omega
theorem crs_wrap {ax ay bx by' px py : Int} (v0 : Vl ax) (v1 : Vl ay) (v2 : Vl bx) (v3 : Vl by') (v4 : Vl px) (v5 : Vl py) :
    wr .i64 ((wr .i64 ((wr .i64 (bx - ax)) * (wr .i64 (py - ay)))) - (wr .i64 ((wr .i64 (by' - ay)) * (wr .i64 (px - ax))))) = crs ax ay bx by' px py := by
  have h := crs_bound v0 v1 v2 v3 v4 v5
  unfold Vl at *
  have h1 := mul_bound (x := bx - ax) (y := py - ay) (by omega) (by omega) (by omega) (by omega)
  have h2 := mul_bound (x := by' - ay) (y := px - ax) (by omega) (by omega) (by omega) (by omega)
  rw [wrap_id (x := bx - ax) (by omega) (by omega), wrap_id (x := py - ay) (by omega) (by omega), wrap_id (x := by' - ay) (by omega) (by omega), wrap_id (x := px - ax) (by omega) (by omega), wrap_id (x := (bx - ax) * (py - ay)) (by omega) (by omega), wrap_id (x := (by' - ay) * (px - ax)) (by omega) (by omega)]
  unfold crs at h
  rw [wrap_id (by omega) (by omega)]
  rfl
def M_SideOf (ax ay bx by' px py : Int) : Int := if M_IsPoint ax ay && (M_IsPoint bx by' && M_IsPoint px py) then sgn (crs ax ay bx by' px py) else 0
instance (ax ay bx by' px py : Int) : Decidable (Inb ax ay bx by' px py) := by unfold Inb; infer_instance
def On (ax ay bx by' px py : Int) : Prop := crs ax ay bx by' px py = 0 ∧ Inb ax ay bx by' px py
instance (ax ay bx by' px py : Int) : Decidable (On ax ay bx by' px py) := by unfold On; infer_instance
def M_IsOn (ax ay bx by' px py : Int) : Bool := M_IsSegment ax ay bx by' && (M_IsPoint px py && decide (On ax ay bx by' px py))
def M_HowMeet (ax ay bx by' cx cy dx dy : Int) : Int :=
  if M_IsSegment ax ay bx by' = true ∧ M_IsSegment cx cy dx dy = true then
    if crs ax ay bx by' cx cy = 0 ∧ crs ax ay bx by' dx dy = 0 then
      if min (max (K ax ay) (K bx by')) (max (K cx cy) (K dx dy)) < max (min (K ax ay) (K bx by')) (min (K cx cy) (K dx dy)) then 0
      else if max (min (K ax ay) (K bx by')) (min (K cx cy) (K dx dy)) = min (max (K ax ay) (K bx by')) (max (K cx cy) (K dx dy)) then 1 else 3
    else if crs ax ay bx by' cx cy * crs ax ay bx by' dx dy < 0 ∧ crs cx cy dx dy ax ay * crs cx cy dx dy bx by' < 0 then 2
    else if On ax ay bx by' cx cy ∨ On ax ay bx by' dx dy ∨ On cx cy dx dy ax ay ∨ On cx cy dx dy bx by' then 1 else 0
  else 0
/-- the boxes of two segments are apart -/
def Apart (ax ay bx by' cx cy dx dy : Int) : Prop := max ax bx < min cx dx ∨ max cx dx < min ax bx ∨ max ay by' < min cy dy ∨ max cy dy < min ay by'
instance (ax ay bx by' cx cy dx dy : Int) : Decidable (Apart ax ay bx by' cx cy dx dy) := by unfold Apart; infer_instance
theorem apart_no {ax ay bx by' cx cy dx dy : Int} (h : Apart ax ay bx by' cx cy dx dy) : ¬ On ax ay bx by' cx cy ∧ ¬ On ax ay bx by' dx dy ∧ ¬ On cx cy dx dy ax ay ∧ ¬ On cx cy dx dy bx by' := by
  unfold On Inb
  unfold Apart at h
  refine ⟨?_, ?_, ?_, ?_⟩ <;> (rintro ⟨_, h1⟩; omega)
theorem apart_cross {ax ay bx by' cx cy dx dy : Int} (h : Apart ax ay bx by' cx cy dx dy) : ¬ (crs ax ay bx by' cx cy * crs ax ay bx by' dx dy < 0 ∧ crs cx cy dx dy ax ay * crs cx cy dx dy bx by' < 0) := by
  rintro ⟨hab, hcd⟩
  have hD := id_D ax ay bx by' cx cy dx dy
  have hX := id_X ax ay bx by' cx cy dx dy
  have hY := id_Y ax ay bx by' cx cy dx dy
  rcases h with h | h | h | h
  · exact not_apart hab hcd hD hX (m := max ax bx) (M := min cx dx) (by omega) (by omega) (by omega) (by omega) h
  · exact not_apart' hab hcd hD hX (m := max cx dx) (M := min ax bx) (by omega) (by omega) (by omega) (by omega) h
  · exact not_apart hab hcd hD hY (m := max ay by') (M := min cy dy) (by omega) (by omega) (by omega) (by omega) h
  · exact not_apart' hab hcd hD hY (m := max cy dy) (M := min ay by') (by omega) (by omega) (by omega) (by omega) h
theorem crs_self0 (ax ay bx by' : Int) : crs ax ay bx by' ax ay = 0 := by unfold crs; rw [Int.sub_self, Int.sub_self]; omega
theorem crs_self1 (ax ay bx by' : Int) : crs ax ay bx by' bx by' = 0 := by unfold crs; rw [Int.mul_comm]; omega
/-- how many different ends of both lie on the other one, as the reference counts them -/
def M_Shared (ax ay bx by' cx cy dx dy : Int) : Int :=
  (if On cx cy dx dy ax ay then 1 else 0) + (if On cx cy dx dy bx by' then 1 else 0)
    + (if On ax ay bx by' cx cy ∧ ¬ (On cx cy dx dy ax ay ∧ ax = cx ∧ ay = cy) ∧ ¬ (On cx cy dx dy bx by' ∧ bx = cx ∧ by' = cy) then 1 else 0)
    + (if On ax ay bx by' dx dy ∧ ¬ (On cx cy dx dy ax ay ∧ ax = dx ∧ ay = dy) ∧ ¬ (On cx cy dx dy bx by' ∧ bx = dx ∧ by' = dy) then 1 else 0)
theorem ifc {p q : Prop} [Decidable p] [Decidable q] {α : Type} (h : p ↔ q) (a b : α) : (if p then a else b) = if q then a else b := by
  by_cases hp : p
  · rw [if_pos hp, if_pos (h.1 hp)]
  · rw [if_neg hp, if_neg (fun hq => hp (h.2 hq))]
theorem M_HowMeet_spec {ax ay bx by' cx cy dx dy : Int} (v0 : Vl ax) (v1 : Vl ay) (v2 : Vl bx) (v3 : Vl by') (hs : ¬ (ax = bx ∧ ay = by')) (w0 : Vl cx) (w1 : Vl cy) (w2 : Vl dx) (w3 : Vl dy) (ht : ¬ (cx = dx ∧ cy = dy)) :
    M_HowMeet ax ay bx by' cx cy dx dy =
      if Apart ax ay bx by' cx cy dx dy then 0
      else if M_Shared ax ay bx by' cx cy dx dy = 0 then (if crs ax ay bx by' cx cy * crs ax ay bx by' dx dy < 0 ∧ crs cx cy dx dy ax ay * crs cx cy dx dy bx by' < 0 then 2 else 0)
      else if M_Shared ax ay bx by' cx cy dx dy = 1 then 1 else 3 := by
  unfold M_HowMeet
  rw [if_pos ⟨(M_IsSegment_iff ..).2 ⟨⟨v0, v1⟩, ⟨v2, v3⟩, hs⟩, (M_IsSegment_iff ..).2 ⟨⟨w0, w1⟩, ⟨w2, w3⟩, ht⟩⟩]
  by_cases col : crs ax ay bx by' cx cy = 0 ∧ crs ax ay bx by' dx dy = 0
  · -- on one line
    rw [if_pos col]
    have back := col_back hs col.1 col.2
    have o0 : On cx cy dx dy ax ay ↔ _ := ⟨fun h => (K_box w0 w1 w2 w3 v0 v1 ht back.1).1 h.2, fun h => ⟨back.1, (K_box w0 w1 w2 w3 v0 v1 ht back.1).2 h⟩⟩
    have o1 : On cx cy dx dy bx by' ↔ _ := ⟨fun h => (K_box w0 w1 w2 w3 v2 v3 ht back.2).1 h.2, fun h => ⟨back.2, (K_box w0 w1 w2 w3 v2 v3 ht back.2).2 h⟩⟩
    have o2 : On ax ay bx by' cx cy ↔ _ := ⟨fun h => (K_box v0 v1 v2 v3 w0 w1 hs col.1).1 h.2, fun h => ⟨col.1, (K_box v0 v1 v2 v3 w0 w1 hs col.1).2 h⟩⟩
    have o3 : On ax ay bx by' dx dy ↔ _ := ⟨fun h => (K_box v0 v1 v2 v3 w2 w3 hs col.2).1 h.2, fun h => ⟨col.2, (K_box v0 v1 v2 v3 w2 w3 hs col.2).2 h⟩⟩
    have ap : Apart ax ay bx by' cx cy dx dy → ¬ On cx cy dx dy ax ay ∧ ¬ On cx cy dx dy bx by' ∧ ¬ On ax ay bx by' cx cy ∧ ¬ On ax ay bx by' dx dy := fun h => ⟨(apart_no h).2.2.1, (apart_no h).2.2.2, (apart_no h).1, (apart_no h).2.1⟩
    rw [o0, o1, o2, o3] at ap
    have ks : K ax ay ≠ K bx by' := fun e => hs ((K_inj v0 v2).1 e)
    have kt : K cx cy ≠ K dx dy := fun e => ht ((K_inj w0 w2).1 e)
    have nc : ¬ (crs ax ay bx by' cx cy * crs ax ay bx by' dx dy < 0 ∧ crs cx cy dx dy ax ay * crs cx cy dx dy bx by' < 0) := by rw [col.1, Int.zero_mul]; omega
    have sh : M_Shared ax ay bx by' cx cy dx dy =
        (if min (K cx cy) (K dx dy) ≤ K ax ay ∧ K ax ay ≤ max (K cx cy) (K dx dy) then 1 else 0) + (if min (K cx cy) (K dx dy) ≤ K bx by' ∧ K bx by' ≤ max (K cx cy) (K dx dy) then 1 else 0)
          + (if (min (K ax ay) (K bx by') ≤ K cx cy ∧ K cx cy ≤ max (K ax ay) (K bx by')) ∧ ¬ K ax ay = K cx cy ∧ ¬ K bx by' = K cx cy then 1 else 0)
          + (if (min (K ax ay) (K bx by') ≤ K dx dy ∧ K dx dy ≤ max (K ax ay) (K bx by')) ∧ ¬ K ax ay = K dx dy ∧ ¬ K bx by' = K dx dy then 1 else 0) := by
      unfold M_Shared
      rw [ifc o0, ifc o1]
      congr 1
      · congr 1
        refine ifc ?_ _ _
        rw [o0, o1, o2, ← K_inj v0 w0 (ay := ay) (by' := cy), ← K_inj v2 w0 (ay := by') (by' := cy)]
        omega
      · refine ifc ?_ _ _
        rw [o0, o1, o3, ← K_inj v0 w2 (ay := ay) (by' := dy), ← K_inj v2 w2 (ay := by') (by' := dy)]
        omega
    rw [if_neg nc, sh]
    generalize K ax ay = a at *
    generalize K bx by' = b at *
    generalize K cx cy = c at *
    generalize K dx dy = d at *
    clear o0 o1 o2 o3 sh nc
    by_cases hap : Apart ax ay bx by' cx cy dx dy
    · have := ap hap
      rw [if_pos hap, if_pos (by omega)]
    · rw [if_neg hap]
      clear ap
      split <;> split <;> split <;> split <;> (repeat' split) <;> omega
  · rw [if_neg col]
    have one : ∀ {px py qx qy : Int}, crs ax ay bx by' px py = 0 → crs cx cy dx dy px py = 0 → crs ax ay bx by' qx qy = 0 → crs cx cy dx dy qx qy = 0 → px = qx ∧ py = qy := fun p0 p1 q0 q1 => one_shared ht col p0 p1 q0 q1
    have s0 := crs_self0 ax ay bx by'
    have s1 := crs_self1 ax ay bx by'
    have t0 := crs_self0 cx cy dx dy
    have t1 := crs_self1 cx cy dx dy
    have e01 : ¬ (On cx cy dx dy ax ay ∧ On cx cy dx dy bx by') := fun ⟨h, h'⟩ => hs (one s0 h.1 s1 h'.1)
    have e23 : ¬ (On ax ay bx by' cx cy ∧ On ax ay bx by' dx dy) := fun ⟨h, h'⟩ => ht (one h.1 t0 h'.1 t1)
    have e02 : On cx cy dx dy ax ay → On ax ay bx by' cx cy → ax = cx ∧ ay = cy := fun h h' => one s0 h.1 h'.1 t0
    have e03 : On cx cy dx dy ax ay → On ax ay bx by' dx dy → ax = dx ∧ ay = dy := fun h h' => one s0 h.1 h'.1 t1
    have e12 : On cx cy dx dy bx by' → On ax ay bx by' cx cy → bx = cx ∧ by' = cy := fun h h' => one s1 h.1 h'.1 t0
    have e13 : On cx cy dx dy bx by' → On ax ay bx by' dx dy → bx = dx ∧ by' = dy := fun h h' => one s1 h.1 h'.1 t1
    have sh : M_Shared ax ay bx by' cx cy dx dy = if On ax ay bx by' cx cy ∨ On ax ay bx by' dx dy ∨ On cx cy dx dy ax ay ∨ On cx cy dx dy bx by' then 1 else 0 := by
      unfold M_Shared
      by_cases h0 : On cx cy dx dy ax ay <;> by_cases h1 : On cx cy dx dy bx by' <;> by_cases h2 : On ax ay bx by' cx cy <;> by_cases h3 : On ax ay bx by' dx dy
      all_goals first
        | exact absurd (And.intro h0 h1) e01
        | exact absurd (And.intro h2 h3) e23
        | (have t := eq_true (e02 h0 h2); simp only [h0, h1, h2, h3, t, if_true, if_false, and_true, true_and, false_and, and_false, not_true, not_false_eq_true, or_true, true_or, or_false, false_or]; first | done | rfl)
        | (have t := eq_true (e03 h0 h3); simp only [h0, h1, h2, h3, t, if_true, if_false, and_true, true_and, false_and, and_false, not_true, not_false_eq_true, or_true, true_or, or_false, false_or]; first | done | rfl)
        | (have t := eq_true (e12 h1 h2); simp only [h0, h1, h2, h3, t, if_true, if_false, and_true, true_and, false_and, and_false, not_true, not_false_eq_true, or_true, true_or, or_false, false_or]; first | done | rfl)
        | (have t := eq_true (e13 h1 h3); simp only [h0, h1, h2, h3, t, if_true, if_false, and_true, true_and, false_and, and_false, not_true, not_false_eq_true, or_true, true_or, or_false, false_or]; first | done | rfl)
        | (simp only [h0, h1, h2, h3, if_true, if_false, and_true, true_and, false_and, and_false, not_true, not_false_eq_true, or_true, true_or, or_false, false_or]; first | done | rfl)
        | (simp only [h0, h1, h2, h3, if_true, if_false, and_true, true_and, false_and, and_false, not_true, not_false_eq_true, or_true, true_or, or_false, false_or]; first | done | rfl)
    rw [sh]
    have cz : crs ax ay bx by' cx cy * crs ax ay bx by' dx dy < 0 ∧ crs cx cy dx dy ax ay * crs cx cy dx dy bx by' < 0 → ¬ (On ax ay bx by' cx cy ∨ On ax ay bx by' dx dy ∨ On cx cy dx dy ax ay ∨ On cx cy dx dy bx by') := by
      rintro ⟨g, g'⟩ (h | h | h | h)
      · rw [h.1, Int.zero_mul] at g; omega
      · rw [h.1, Int.mul_zero] at g; omega
      · rw [h.1, Int.zero_mul] at g'; omega
      · rw [h.1, Int.mul_zero] at g'; omega
    by_cases hap : Apart ax ay bx by' cx cy dx dy
    · have n := apart_no hap
      rw [if_pos hap, if_neg (apart_cross hap), if_neg (by simp [n.1, n.2.1, n.2.2.1, n.2.2.2])]
    · rw [if_neg hap]
      by_cases any : On ax ay bx by' cx cy ∨ On ax ay bx by' dx dy ∨ On cx cy dx dy ax ay ∨ On cx cy dx dy bx by'
      · rw [if_pos any, if_neg (fun h => cz h any), if_neg (by decide), if_pos rfl]
      · rw [if_neg any, if_pos rfl]
def M_LineFrom : List Pt → Pt → Bool
  | [], _ => true
  | x :: r, a => M_IsPoint x.f0 x.f1 && (!(decide (a.f0 = x.f0 ∧ a.f1 = x.f1)) && M_LineFrom r x)
theorem M_LineFrom_cons (x : Pt) (r : List Pt) (a : Pt) : M_LineFrom (x :: r) a = (M_IsPoint x.f0 x.f1 && (!(decide (a.f0 = x.f0 ∧ a.f1 = x.f1)) && M_LineFrom r x)) := rfl
def M_LineOk : List Pt → Bool
  | [] => true
  | x :: r => M_IsPoint x.f0 x.f1 && M_LineFrom r x
def M_IsLine (l : List Pt) : Bool := decide (2 ≤ (l.length : Int) ∧ (l.length : Int) ≤ 10) && M_LineOk l
theorem M_IsLine_len {l : List Pt} (h : M_IsLine l = true) : 2 ≤ l.length ∧ l.length ≤ 10 := by
  unfold M_IsLine at h
  rw [Bool.and_eq_true] at h
  have := of_decide_eq_true h.1
  omega
/-- the segments from each point to the next one -/
def M_Segs : List Pt → List Sg
  | a :: b :: r => ⟨a, b⟩ :: M_Segs (b :: r)
  | _ => []
theorem M_Segs_cons (a b : Pt) (r : List Pt) : M_Segs (a :: b :: r) = ⟨a, b⟩ :: M_Segs (b :: r) := rfl
theorem M_Segs_len : ∀ l : List Pt, (M_Segs l).length = l.length - 1
  | [] => rfl
  | [_] => rfl
  | a :: b :: r => by rw [M_Segs_cons, List.length_cons, M_Segs_len (b :: r)]; simp
def M_SegmentsOf (l : List Pt) : List Sg := if M_IsLine l = true then M_Segs l else []
theorem M_SegmentsOf_len (l : List Pt) : (M_SegmentsOf l).length ≤ 9 := by
  unfold M_SegmentsOf
  split
  · rename_i h
    have := M_IsLine_len h
    rw [M_Segs_len]
    omega
  · simp
def segAt (s : List Sg) (i : Nat) : Sg := s.getD i (⟨⟨0, 0⟩, ⟨0, 0⟩⟩ : Sg)
def M_Meet (s t : Sg) : Int := M_HowMeet s.f0.f0 s.f0.f1 s.f1.f0 s.f1.f1 t.f0.f0 t.f0.f1 t.f1.f0 t.f1.f1
/-- d segments from j on meet the one at i as is wanted -/
def M_row (s : List Sg) (want : Nat → Nat → Int) (i : Nat) : Nat → Nat → Bool
  | 0, _ => true
  | d + 1, j => decide (M_Meet (segAt s i) (segAt s j) = want i j) && M_row s want i d (j + 1)
theorem M_row_succ (s : List Sg) (want : Nat → Nat → Int) (i d j : Nat) : M_row s want i (d + 1) j = (decide (M_Meet (segAt s i) (segAt s j) = want i j) && M_row s want i d (j + 1)) := rfl
def M_rows (s : List Sg) (ok : Sg → Bool) (want : Nat → Nat → Int) : Nat → Nat → Bool
  | 0, _ => true
  | d + 1, i => ok (segAt s i) && (M_row s want i i 0 && M_rows s ok want d (i + 1))
theorem M_rows_succ (s : List Sg) (ok : Sg → Bool) (want : Nat → Nat → Int) (d i : Nat) : M_rows s ok want (d + 1) i = (ok (segAt s i) && (M_row s want i i 0 && M_rows s ok want d (i + 1))) := rfl
def lineWant (i j : Nat) : Int := if j + 1 = i then 1 else 0
def M_IsSimple (l : List Pt) : Bool := M_IsLine l && M_rows (M_Segs l) (fun _ => true) lineWant (M_Segs l).length 0
/-- the segments of a ring -/
def M_around (l : List Pt) : List Sg := (List.range l.length).map fun i => ⟨l.getD i (⟨0, 0⟩ : Pt), l.getD ((i + 1) % l.length) (⟨0, 0⟩ : Pt)⟩
def ringWant (n i j : Nat) : Int := if j + 1 = i ∨ (j = 0 ∧ i + 1 = n) then 1 else 0
def M_segOk (s : Sg) : Bool := M_IsSegment s.f0.f0 s.f0.f1 s.f1.f0 s.f1.f1
def M_IsRing (l : List Pt) : Bool := decide (3 ≤ (l.length : Int) ∧ (l.length : Int) ≤ 10) && M_rows (M_around l) M_segOk (ringWant l.length) l.length 0
end Go.Eng
namespace Go.Eng
open Go Go.Proofs Geo
set_option linter.unusedSimpArgs false
set_option linter.unusedVariables false
set_option maxRecDepth 20000

def inR (x l m : Int) : Bool := decide (l ≤ x ∧ x ≤ m)
theorem f25 (x l m : Int) : Fn Tryd.prog 25 false [i x, i l, i m] (.bool (inR x l m)) := by
  refine Fn.by_sx hX (by kernel_rfl) c25 (by kernel_rfl) (by rfl) ?_
  simp [i25, sxa, isPtrN, PV.pcs, elAt, setEl, inAt, elIn, setIn, isLst, cellsOf, Ex.ok, Ex.val, Opd.val, POp.dst, bin_int, binOK_int, bin_str, binOK_str, resOK, resV, RB.val, sub, putc, scB, scL, oneB, conf, Ex.val.eqP, Ex.val.eqL, negV, mxV, mnV, ← wr_eq, wr_zero, wr_one, wr_m1, bst_lst, byteC, partsOK, putAll, appV, nilV, slV, sslV, optB, optNum, and_assoc, exists_and_left, exists_eq_left']
  repeat' (first | intro _ | (simp [sxa, isPtrN, PV.pcs, elAt, setEl, inAt, elIn, setIn, isLst, cellsOf, Ex.ok, Ex.val, Opd.val, POp.dst, bin_int, binOK_int, bin_str, binOK_str, resOK, resV, RB.val, sub, putc, scB, scL, oneB, conf, Ex.val.eqP, Ex.val.eqL, negV, mxV, mnV, ← wr_eq, wr_zero, wr_one, wr_m1, bst_lst, byteC, partsOK, putAll, appV, nilV, slV, sslV, optB, optNum, and_assoc, exists_and_left, exists_eq_left', *]) | refine CondS_d (fun h => ?_) (fun h => ?_) | refine CondS_b (fun h => ?_) (fun h => ?_) | refine GrdS_d (fun h => ?_) (fun h => ?_) | refine GrdS_b (fun h => ?_) (fun h => ?_) | refine OkS_i (by omega) ?_ | fail)
  all_goals simp_all [inR]; try omega
def crw (ax ay bx by' px py : Int) : Int := wr .i64 (wr .i64 (wr .i64 (bx - ax) * wr .i64 (py - ay)) - wr .i64 (wr .i64 (by' - ay) * wr .i64 (px - ax)))
theorem crw_crs {ax ay bx by' px py : Int} (h1 : M_IsPoint ax ay = true) (h2 : M_IsPoint bx by' = true) (h3 : M_IsPoint px py = true) : crw ax ay bx by' px py = crs ax ay bx by' px py := by
  have h1 := (M_IsPoint_iff _ _).1 h1
  have h2 := (M_IsPoint_iff _ _).1 h2
  have h3 := (M_IsPoint_iff _ _).1 h3
  exact crs_wrap h1.1 h1.2 h2.1 h2.2 h3.1 h3.2
def wSide (ax ay bx by' px py : Int) : Int := if M_IsPoint ax ay && (M_IsPoint bx by' && M_IsPoint px py) then sgn (crw ax ay bx by' px py) else 0
theorem wSide_eq (ax ay bx by' px py : Int) : wSide ax ay bx by' px py = M_SideOf ax ay bx by' px py := by
  unfold wSide M_SideOf
  split
  · rename_i h
    simp only [Bool.and_eq_true] at h
    rw [crw_crs h.1 h.2.1 h.2.2]
  · rfl
def wOn (ax ay bx by' px py : Int) : Bool := M_IsSegment ax ay bx by' && (M_IsPoint px py && (decide (crw ax ay bx by' px py = 0) && (inR px (min ax bx) (max ax bx) && inR py (min ay by') (max ay by'))))
theorem wOn_eq (ax ay bx by' px py : Int) : wOn ax ay bx by' px py = M_IsOn ax ay bx by' px py := by
  unfold wOn M_IsOn
  by_cases h1 : M_IsSegment ax ay bx by' = true
  · by_cases h2 : M_IsPoint px py = true
    · have h3 := (M_IsSegment_iff _ _ _ _).1 h1
      have h4 := (M_IsPoint_iff _ _).1 h2
      rw [crw_crs ((M_IsPoint_iff _ _).2 h3.1) ((M_IsPoint_iff _ _).2 h3.2.1) h2, h1, h2]
      rw [Bool.eq_iff_iff]; simp [On, Inb, inR, and_assoc]
    · simp [h2]
  · simp [h1]
def wOn2 (ax ay bx by' px py : Int) : Bool := M_IsSegment ax ay bx by' && (M_IsPoint px py && (decide (M_SideOf ax ay bx by' px py = 0) && (inR px (if bx < ax then bx else ax) (if ax < bx then bx else ax) && inR py (if by' < ay then by' else ay) (if ay < by' then by' else ay))))
theorem side_sgn {ax ay bx by' px py : Int} (h1 : M_IsPoint ax ay = true) (h2 : M_IsPoint bx by' = true) (h3 : M_IsPoint px py = true) : M_SideOf ax ay bx by' px py = sgn (crs ax ay bx by' px py) := by
  unfold M_SideOf
  rw [if_pos (by rw [h1, h2, h3]; rfl)]
theorem wOn2_eq (ax ay bx by' px py : Int) : wOn2 ax ay bx by' px py = M_IsOn ax ay bx by' px py := by
  unfold wOn2 M_IsOn
  by_cases h1 : M_IsSegment ax ay bx by' = true
  · by_cases h2 : M_IsPoint px py = true
    · have h3 := (M_IsSegment_iff _ _ _ _).1 h1
      rw [side_sgn ((M_IsPoint_iff _ _).2 h3.1) ((M_IsPoint_iff _ _).2 h3.2.1) h2, h1, h2]
      have e : ∀ x y : Int, (if y < x then y else x) = min x y := by intro x y; omega
      have e' : ∀ x y : Int, (if x < y then y else x) = max x y := by intro x y; omega
      rw [e, e', e, e', Bool.eq_iff_iff]; simp [On, Inb, inR, and_assoc, sgn_zero]
    · simp [h2]
  · simp [h1]
def before (ax ay bx by' : Int) : Bool := decide (ay < by') || (decide (ay = by') && decide (ax < bx))
end Go.Eng
namespace Go.Eng
open Go Go.Proofs Geo
set_option linter.unusedSimpArgs false
set_option linter.unusedVariables false
set_option maxRecDepth 20000

def cp (p : Pt) : List PV := [i p.f0, i p.f1]
theorem at_getD {g : Pt → List PV} {l : List Pt} {n : Nat} (h : n < l.length) : (l.map g)[n]?.getD [] = g (l.getD n ⟨0, 0⟩) := by simp [h]
theorem at_map {α : Type} {g : α → List PV} {l : List α} {n : Nat} (h : n < l.length) : (l.map g)[n]?.getD [] = g l[n] := by simp [h]
theorem all_take {α : Type} {l : List α} {f : α → Bool} {k : Nat} (h : k < l.length) : (l.take (k + 1)).all f = ((l.take k).all f && f l[k]) := by
  rw [List.take_add_one, List.getElem?_eq_getElem h, List.all_append]
  simp only [Option.toList_some, List.all_cons, List.all_nil, Bool.and_true]
def eqb (q p : Pt) : Bool := decide (q.f0 = p.f0 ∧ q.f1 = p.f1)
def maybe (c : Bool) (p : Pt) : List Pt := if c = true then [p] else []
/-- the different ends of both that lie on the other one -/
def shl (S T : Sg) (e : List Pt) : Nat → List Pt
  | 0 => []
  | n + 1 => shl S T e n ++ maybe ((if n < 2 then M_IsOn T.f0.f0 T.f0.f1 T.f1.f0 T.f1.f1 (e.getD n ⟨0, 0⟩).f0 (e.getD n ⟨0, 0⟩).f1 else M_IsOn S.f0.f0 S.f0.f1 S.f1.f0 S.f1.f1 (e.getD n ⟨0, 0⟩).f0 (e.getD n ⟨0, 0⟩).f1) && (shl S T e n).all fun q => !(eqb q (e.getD n ⟨0, 0⟩))) (e.getD n ⟨0, 0⟩)
theorem shl_len (S T : Sg) (e : List Pt) : ∀ n, (shl S T e n).length ≤ n
  | 0 => Nat.le_refl _
  | n + 1 => by
    have := shl_len S T e n
    have hm : ∀ c p, (maybe c p).length ≤ 1 := by intro c p; unfold maybe; split <;> simp
    unfold shl
    rw [List.length_append]
    exact Nat.add_le_add this (hm _ _)
def cs (s : Sg) : List PV := [i s.f0.f0, i s.f0.f1, i s.f1.f0, i s.f1.f1]
def ends (S T : Sg) : List Pt := [S.f0, S.f1, T.f0, T.f1]
end Go.Eng
namespace Go.Eng
open Go Go.Proofs Geo
set_option linter.unusedSimpArgs false
set_option linter.unusedVariables false
set_option maxRecDepth 20000

theorem maybe_all (c : Bool) (p : Pt) (f : Pt → Bool) : (maybe c p).all f = (!c || f p) := by cases c <;> simp [maybe]
theorem maybe_len (c : Bool) (p : Pt) : (maybe c p).length = if c = true then 1 else 0 := by cases c <;> simp [maybe]
theorem shl_eq {ax ay bx by' cx cy dx dy : Int} (h1 : M_IsSegment ax ay bx by' = true) (h2 : M_IsSegment cx cy dx dy = true) :
    ((shl ⟨⟨ax, ay⟩, ⟨bx, by'⟩⟩ ⟨⟨cx, cy⟩, ⟨dx, dy⟩⟩ (ends ⟨⟨ax, ay⟩, ⟨bx, by'⟩⟩ ⟨⟨cx, cy⟩, ⟨dx, dy⟩⟩) 4).length : Int) = M_Shared ax ay bx by' cx cy dx dy := by
  obtain ⟨pa, pb, hs⟩ := (M_IsSegment_iff _ _ _ _).1 h1
  obtain ⟨pc, pd, ht⟩ := (M_IsSegment_iff _ _ _ _).1 h2
  have e4 : ∀ {ax ay bx by' px py : Int}, M_IsSegment ax ay bx by' = true → Vl px ∧ Vl py → M_IsOn ax ay bx by' px py = decide (On ax ay bx by' px py) := by
    intro ax ay bx by' px py g1 g2
    unfold M_IsOn
    rw [g1, (M_IsPoint_iff _ _).2 g2, Bool.true_and, Bool.true_and]
  have n01 : eqb ⟨ax, ay⟩ ⟨bx, by'⟩ = false := decide_eq_false hs
  have n23 : eqb ⟨cx, cy⟩ ⟨dx, dy⟩ = false := decide_eq_false ht
  have E0 : (ends ⟨⟨ax, ay⟩, ⟨bx, by'⟩⟩ ⟨⟨cx, cy⟩, ⟨dx, dy⟩⟩).getD 0 ⟨0, 0⟩ = ⟨ax, ay⟩ := rfl
  have E1 : (ends ⟨⟨ax, ay⟩, ⟨bx, by'⟩⟩ ⟨⟨cx, cy⟩, ⟨dx, dy⟩⟩).getD 1 ⟨0, 0⟩ = ⟨bx, by'⟩ := rfl
  have E2 : (ends ⟨⟨ax, ay⟩, ⟨bx, by'⟩⟩ ⟨⟨cx, cy⟩, ⟨dx, dy⟩⟩).getD 2 ⟨0, 0⟩ = ⟨cx, cy⟩ := rfl
  have E3 : (ends ⟨⟨ax, ay⟩, ⟨bx, by'⟩⟩ ⟨⟨cx, cy⟩, ⟨dx, dy⟩⟩).getD 3 ⟨0, 0⟩ = ⟨dx, dy⟩ := rfl
  simp only [shl, E0, E1, E2, E3, e4 h1 pc, e4 h1 pd, e4 h2 pa, e4 h2 pb, Nat.reduceLT, if_true, if_false, List.nil_append, List.all_nil, Bool.and_true, Nat.reduceAdd, List.all_append, maybe_all, n01, n23, Bool.not_false, Bool.or_true]
  generalize hc0 : decide (On cx cy dx dy ax ay) = c0
  generalize hc1 : decide (On cx cy dx dy bx by') = c1
  generalize hc2 : (decide (On ax ay bx by' cx cy) && ((!c0 || !eqb ⟨ax, ay⟩ ⟨cx, cy⟩) && (!c1 || !eqb ⟨bx, by'⟩ ⟨cx, cy⟩))) = c2
  generalize hc3 : (decide (On ax ay bx by' dx dy) && ((!c0 || !eqb ⟨ax, ay⟩ ⟨dx, dy⟩) && (!c1 || !eqb ⟨bx, by'⟩ ⟨dx, dy⟩))) = c3
  rw [List.length_append, List.length_append, List.length_append, maybe_len, maybe_len, maybe_len, maybe_len]
  unfold M_Shared
  have q0 : c0 = true ↔ On cx cy dx dy ax ay := by rw [← hc0, decide_eq_true_iff]
  have q1 : c1 = true ↔ On cx cy dx dy bx by' := by rw [← hc1, decide_eq_true_iff]
  have nn : ∀ (c : Bool) (p q : Pt), (!c || !eqb p q) = true ↔ ¬ (c = true ∧ p.f0 = q.f0 ∧ p.f1 = q.f1) := by
    intro c p q
    unfold eqb
    by_cases h : p.f0 = q.f0 ∧ p.f1 = q.f1
    · rw [decide_eq_true h]; cases c <;> simp [h.1, h.2]
    · rw [decide_eq_false h]
      exact ⟨fun _ k => h k.2, fun _ => by cases c <;> rfl⟩
  have q2 : c2 = true ↔ On ax ay bx by' cx cy ∧ ¬ (On cx cy dx dy ax ay ∧ ax = cx ∧ ay = cy) ∧ ¬ (On cx cy dx dy bx by' ∧ bx = cx ∧ by' = cy) := by
    rw [← hc2, Bool.and_eq_true, Bool.and_eq_true, decide_eq_true_iff, nn, nn, q0, q1]
  have q3 : c3 = true ↔ On ax ay bx by' dx dy ∧ ¬ (On cx cy dx dy ax ay ∧ ax = dx ∧ ay = dy) ∧ ¬ (On cx cy dx dy bx by' ∧ bx = dx ∧ by' = dy) := by
    rw [← hc3, Bool.and_eq_true, Bool.and_eq_true, decide_eq_true_iff, nn, nn, q0, q1]
  rw [← ifc q0, ← ifc q1, ← ifc q2, ← ifc q3]
  cases c0 <;> cases c1 <;> cases c2 <;> cases c3 <;> rfl
def wHowS (ax ay bx by' cx cy dx dy sh : Int) : Int :=
  if M_IsSegment ax ay bx by' = true ∧ M_IsSegment cx cy dx dy = true then
    if max ax bx < min cx dx ∨ max cx dx < min ax bx ∨ max ay by' < min cy dy ∨ max cy dy < min ay by' then 0
    else if sh = 0 then (if wr .i64 (M_SideOf ax ay bx by' cx cy * M_SideOf ax ay bx by' dx dy) < 0 ∧ wr .i64 (M_SideOf cx cy dx dy ax ay * M_SideOf cx cy dx dy bx by') < 0 then 2 else 0)
    else if sh = 1 then 1 else 3
  else 0
theorem wr_sgn (x y : Int) : wr .i64 (sgn x * sgn y) = sgn x * sgn y := by
  have hx := sgn_le x
  have hy := sgn_le y
  have hb := mul_bound (x := sgn x) (y := sgn y) (by omega) (by omega) (by omega) (by omega)
  exact wrap_id (by omega) (by omega)
theorem wHowS_eq (ax ay bx by' cx cy dx dy : Int) : wHowS ax ay bx by' cx cy dx dy ((shl ⟨⟨ax, ay⟩, ⟨bx, by'⟩⟩ ⟨⟨cx, cy⟩, ⟨dx, dy⟩⟩ (ends ⟨⟨ax, ay⟩, ⟨bx, by'⟩⟩ ⟨⟨cx, cy⟩, ⟨dx, dy⟩⟩) 4).length : Int) = M_HowMeet ax ay bx by' cx cy dx dy := by
  unfold wHowS
  by_cases h : M_IsSegment ax ay bx by' = true ∧ M_IsSegment cx cy dx dy = true
  · rw [if_pos h, shl_eq h.1 h.2]
    obtain ⟨pa, pb, hs⟩ := (M_IsSegment_iff _ _ _ _).1 h.1
    obtain ⟨pc, pd, ht⟩ := (M_IsSegment_iff _ _ _ _).1 h.2
    have qa := (M_IsPoint_iff ax ay).2 pa
    have qb := (M_IsPoint_iff bx by').2 pb
    have qc := (M_IsPoint_iff cx cy).2 pc
    have qd := (M_IsPoint_iff dx dy).2 pd
    rw [M_HowMeet_spec pa.1 pa.2 pb.1 pb.2 hs pc.1 pc.2 pd.1 pd.2 ht, side_sgn qa qb qc, side_sgn qa qb qd, side_sgn qc qd qa, side_sgn qc qd qb, wr_sgn, wr_sgn]
    simp only [sgn_mul]
    rfl
  · rw [if_neg h]; unfold M_HowMeet; rw [if_neg h]
end Go.Eng
namespace Go.Eng
open Go Go.Proofs Geo
set_option linter.unusedSimpArgs false
set_option linter.unusedVariables false
set_option maxRecDepth 20000

theorem before_K {ax ay bx by' : Int} (v0 : Vl ax) (v1 : Vl bx) : before ax ay bx by' = decide (K ax ay < K bx by') := by
  unfold before Vl K at *
  rw [Bool.eq_iff_iff]
  simp
  omega
def wM (lx ly hx hy mx my nx ny : Int) : Int :=
  if before (if before nx ny hx hy then nx else hx) (if before nx ny hx hy then ny else hy) (if before lx ly mx my then mx else lx) (if before lx ly mx my then my else ly) then 0
  else if (if before lx ly mx my then mx else lx) = (if before nx ny hx hy then nx else hx) ∧ (if before lx ly mx my then my else ly) = (if before nx ny hx hy then ny else hy) then 1 else 3
theorem wM_eq {lx ly hx hy mx my nx ny : Int} (u0 : Vl lx) (u1 : Vl hx) (u2 : Vl mx) (u3 : Vl nx) :
    wM lx ly hx hy mx my nx ny = if min (K hx hy) (K nx ny) < max (K lx ly) (K mx my) then 0 else if max (K lx ly) (K mx my) = min (K hx hy) (K nx ny) then 1 else 3 := by
  unfold wM
  rw [before_K u3 u1, before_K u0 u2]
  by_cases d1 : K lx ly < K mx my <;> by_cases d2 : K nx ny < K hx hy <;> simp only [d1, d2, decide_true, decide_false, if_true, if_false, Bool.false_eq_true]
  · rw [before_K u3 u2]
    have ki := K_inj (ay := my) (by' := ny) u2 u3
    simp only [decide_eq_true_eq]
    split <;> split <;> (try split) <;> (try split) <;> omega
  · rw [before_K u1 u2]
    have ki := K_inj (ay := my) (by' := hy) u2 u1
    simp only [decide_eq_true_eq]
    split <;> split <;> (try split) <;> (try split) <;> omega
  · rw [before_K u3 u0]
    have ki := K_inj (ay := ly) (by' := ny) u0 u3
    simp only [decide_eq_true_eq]
    split <;> split <;> (try split) <;> (try split) <;> omega
  · rw [before_K u1 u0]
    have ki := K_inj (ay := ly) (by' := hy) u0 u1
    simp only [decide_eq_true_eq]
    split <;> split <;> (try split) <;> (try split) <;> omega
def wHowI (ax ay bx by' cx cy dx dy : Int) : Int :=
  if M_IsSegment ax ay bx by' = true ∧ M_IsSegment cx cy dx dy = true then
    if M_SideOf ax ay bx by' cx cy = 0 ∧ M_SideOf ax ay bx by' dx dy = 0 then
      wM (if before bx by' ax ay then bx else ax) (if before bx by' ax ay then by' else ay) (if before bx by' ax ay then ax else bx) (if before bx by' ax ay then ay else by')
         (if before dx dy cx cy then dx else cx) (if before dx dy cx cy then dy else cy) (if before dx dy cx cy then cx else dx) (if before dx dy cx cy then cy else dy)
    else if wr .i64 (M_SideOf ax ay bx by' cx cy * M_SideOf ax ay bx by' dx dy) < 0 ∧ wr .i64 (M_SideOf cx cy dx dy ax ay * M_SideOf cx cy dx dy bx by') < 0 then 2
    else if M_IsOn ax ay bx by' cx cy = true ∨ M_IsOn ax ay bx by' dx dy = true ∨ M_IsOn cx cy dx dy ax ay = true ∨ M_IsOn cx cy dx dy bx by' = true then 1 else 0
  else 0
theorem wHowI_eq (ax ay bx by' cx cy dx dy : Int) : wHowI ax ay bx by' cx cy dx dy = M_HowMeet ax ay bx by' cx cy dx dy := by
  unfold wHowI M_HowMeet
  by_cases h : M_IsSegment ax ay bx by' = true ∧ M_IsSegment cx cy dx dy = true
  · rw [if_pos h, if_pos h]
    obtain ⟨pa, pb, hs⟩ := (M_IsSegment_iff _ _ _ _).1 h.1
    obtain ⟨pc, pd, ht⟩ := (M_IsSegment_iff _ _ _ _).1 h.2
    have qa := (M_IsPoint_iff ax ay).2 pa
    have qb := (M_IsPoint_iff bx by').2 pb
    have qc := (M_IsPoint_iff cx cy).2 pc
    have qd := (M_IsPoint_iff dx dy).2 pd
    have e4 : ∀ {ax ay bx by' px py : Int}, M_IsSegment ax ay bx by' = true → M_IsPoint px py = true → (M_IsOn ax ay bx by' px py = true ↔ On ax ay bx by' px py) := by
      intro ax ay bx by' px py g1 g2
      unfold M_IsOn
      rw [g1, g2, Bool.true_and, Bool.true_and, decide_eq_true_iff]
    rw [side_sgn qa qb qc, side_sgn qa qb qd, side_sgn qc qd qa, side_sgn qc qd qb, wr_sgn, wr_sgn, before_K pb.1 pa.1, before_K pd.1 pc.1]
    simp only [sgn_mul, sgn_zero, e4 h.1 qc, e4 h.1 qd, e4 h.2 qa, e4 h.2 qb]
    congr 1
    have mm : ∀ a b : Int, a < b → min b a = a ∧ max b a = b ∧ min a b = a ∧ max a b = b := by intro a b h; omega
    have mn' : ∀ a b : Int, ¬ a < b → min b a = b ∧ max b a = a := by intro a b h; omega
    by_cases s1 : K bx by' < K ax ay <;> by_cases s2 : K dx dy < K cx cy <;> simp only [s1, s2, decide_true, decide_false, if_true, if_false, Bool.false_eq_true]
    · rw [wM_eq pb.1 pa.1 pd.1 pc.1, (mm _ _ s1).1, (mm _ _ s1).2.1, (mm _ _ s2).1, (mm _ _ s2).2.1]
    · rw [wM_eq pb.1 pa.1 pc.1 pd.1, (mm _ _ s1).1, (mm _ _ s1).2.1, (mn' _ _ s2).1, (mn' _ _ s2).2]
    · rw [wM_eq pa.1 pb.1 pd.1 pc.1, (mn' _ _ s1).1, (mn' _ _ s1).2, (mm _ _ s2).1, (mm _ _ s2).2.1]
    · rw [wM_eq pa.1 pb.1 pc.1 pd.1, (mn' _ _ s1).1, (mn' _ _ s1).2, (mn' _ _ s2).1, (mn' _ _ s2).2]
  · rw [if_neg h, if_neg h]
end Go.Eng
namespace Go.Eng
open Go Go.Proofs Geo
set_option linter.unusedSimpArgs false
set_option linter.unusedVariables false
set_option maxRecDepth 20000

def allTo (ok : Nat → Bool) (n : Nat) : Bool := (List.range n).all ok
theorem allTo_bad {ok : Nat → Bool} {n N : Nat} (h : n < N) (hb : ok n = false) : allTo ok N = false := by
  unfold allTo; rw [List.all_eq_false]; exact ⟨n, List.mem_range.2 h, by simp [hb]⟩
theorem allTo_zero {ok : Nat → Bool} : allTo ok 0 = true := rfl
theorem allTo_succ {ok : Nat → Bool} {n : Nat} : allTo ok (n + 1) = (allTo ok n && ok n) := by
  unfold allTo; rw [List.range_succ, List.all_append]; simp
def okAt (l : List Pt) (n : Nat) : Bool := M_IsPoint (l.getD n ⟨0, 0⟩).f0 (l.getD n ⟨0, 0⟩).f1 && !(decide (0 < n) && eqb (l.getD (n - 1) ⟨0, 0⟩) (l.getD n ⟨0, 0⟩))
def wLine (l : List Pt) : Bool := inR l.length 2 10 && allTo (okAt l) l.length
theorem wLine_len {l : List Pt} (h : wLine l = true) : 2 ≤ l.length ∧ l.length ≤ 10 := by
  unfold wLine inR at h
  simp at h
  omega
end Go.Eng
namespace Go.Eng
open Go Go.Proofs Geo
set_option linter.unusedSimpArgs false
set_option linter.unusedVariables false
set_option maxRecDepth 20000

/-- a list that is built index by index -/
def upTo {α : Type} (f : Nat → α) (n : Nat) : List α := (List.range n).map f
theorem upTo_zero {α : Type} {f : Nat → α} : upTo f 0 = [] := rfl
theorem upTo_succ {α : Type} {f : Nat → α} {n : Nat} : upTo f (n + 1) = upTo f n ++ [f n] := by simp [upTo, List.range_succ]
theorem upTo_length {α : Type} {f : Nat → α} {n : Nat} : (upTo f n).length = n := by simp [upTo]
theorem upTo_get {α : Type} {f : Nat → α} {n k : Nat} (h : k < n) : (upTo f n)[k]? = some (f k) := by simp [upTo, h]
theorem tmod_nat (a b : Nat) : ((a : Int) + 1).tmod (b : Int) = (((a + 1) % b : Nat) : Int) := by
  have : ((a : Int) + 1) = ((a + 1 : Nat) : Int) := rfl
  rw [this, Int.ofNat_tmod]
def sgAt (l : List Pt) (k : Nat) : Sg := ⟨l.getD k ⟨0, 0⟩, l.getD (k + 1) ⟨0, 0⟩⟩
def rgAt (l : List Pt) (k : Nat) : Sg := ⟨l.getD k ⟨0, 0⟩, l.getD ((k + 1) % l.length) ⟨0, 0⟩⟩
def wSegs (l : List Pt) : List Sg := if wLine l = true then upTo (sgAt l) (l.length - 1) else []
end Go.Eng
namespace Go.Eng
open Go Go.Proofs Geo
set_option linter.unusedSimpArgs false
set_option linter.unusedVariables false
set_option maxRecDepth 20000
set_option maxHeartbeats 1000000

def sMeet (a b : Sg) : Int := M_HowMeet a.f0.f0 a.f0.f1 a.f1.f0 a.f1.f1 b.f0.f0 b.f0.f1 b.f1.f0 b.f1.f1
def sgD (S : List Sg) (n : Nat) : Sg := S.getD n ⟨⟨0, 0⟩, ⟨0, 0⟩⟩
def rowS (S : List Sg) (n k : Nat) : Bool := decide (sMeet (sgD S n) (sgD S k) = if k + 1 = n then 1 else 0)
def wSimple (l : List Pt) : Bool := wLine l && allTo (fun n => allTo (rowS (wSegs l) n) n) (wSegs l).length
theorem wSegs_len (l : List Pt) : (wSegs l).length ≤ 9 := by
  unfold wSegs
  split
  · rename_i h
    have := wLine_len h
    rw [upTo_length]; omega
  · simp
end Go.Eng
namespace Go.Eng
open Go Go.Proofs Geo
set_option linter.unusedSimpArgs false
set_option linter.unusedVariables false
set_option maxRecDepth 20000
set_option maxHeartbeats 1000000

def rowR (S : List Sg) (n k : Nat) : Bool := decide (sMeet (sgD S n) (sgD S k) = if k + 1 = n ∨ (k = 0 ∧ n + 1 = S.length) then 1 else 0)
def sSeg (a : Sg) : Bool := M_IsSegment a.f0.f0 a.f0.f1 a.f1.f0 a.f1.f1
def ringAt (S : List Sg) (n : Nat) : Bool := sSeg (sgD S n) && allTo (rowR S n) n
def wRing (l : List Pt) : Bool := inR l.length 3 10 && allTo (ringAt (upTo (rgAt l) l.length)) l.length
end Go.Eng
namespace Go.Eng
open Go Go.Proofs Geo
set_option linter.unusedSimpArgs false
set_option linter.unusedVariables false
set_option maxRecDepth 20000
set_option maxHeartbeats 1000000

def lowAt (s : ByteArray) (n : Nat) : Bool := decide (¬ ((s.data[n]?.getD 0).toNat : Int) < 97 ∧ ¬ (122 : Int) < ((s.data[n]?.getD 0).toNat : Int))
def isNm (s : ByteArray) : Bool := allTo (lowAt s) s.size && inR s.size 1 8
structure Ft where
  f0 : Int
  f1 : Int
  f2 : Int
  f3 : ByteArray
  f4 : List Pt
  nl : Bool
def ft (x : Ft) : List PV := [i x.f0, i x.f1, i x.f2, .str x.f3, .lst 2 x.nl (x.f4.map cp)]
def wShape (x : Ft) : Bool := if x.f1 = 1 then decide (x.f4.length = 1) && M_IsPoint (x.f4.getD 0 ⟨0, 0⟩).f0 (x.f4.getD 0 ⟨0, 0⟩).f1 else if x.f1 = 2 then wSimple x.f4 else if x.f1 = 3 then wRing x.f4 else false
def wFeat (x : Ft) : Bool := (inR x.f0 1 99 && (inR x.f2 0 9 && (decide (x.f3 = bs []) || isNm x.f3))) && wShape x
def Ft.okay (x : Ft) : Prop := x.f3.size ≤ 4611686018427387904 ∧ x.f4.length ≤ 1000000000000
end Go.Eng
namespace Go.Eng
open Go Go.Proofs Geo
set_option linter.unusedSimpArgs false
set_option linter.unusedVariables false
set_option maxRecDepth 20000
set_option maxHeartbeats 1000000

structure En where
  f0 : Ft
  f1 : Int
  f2 : Int
  f3 : Bool
def en (x : En) : List PV := [i x.f0.f0, i x.f0.f1, i x.f0.f2, .str x.f0.f3, .lst 2 x.f0.nl (x.f0.f4.map cp), i x.f1, i x.f2, .bool x.f3]
def enD : En := ⟨⟨0, 0, 0, ⟨#[]⟩, [], true⟩, 0, 0, false⟩
def entAt (l : List En) (n : Nat) : Bool := (wFeat (l.getD n enD).f0 && (inR (l.getD n enD).f1 0 100000 && inR (l.getD n enD).f2 1 99)) && !(decide (0 < n) && decide ((l.getD n enD).f0.f0 ≤ (l.getD (n - 1) enD).f0.f0))
def wLog (l : List En) : Bool := decide (l.length ≤ 16) && allTo (entAt l) l.length
/-! sizes -/
def szr (left n : Int) : Int := if left - n < 0 then -1 else left - n
def wtF (x : Ft) : Nat := x.f3.size + x.f4.length
def Ft.fits (x : Ft) : Prop := x.f3.size ≤ 9223372036854775807 ∧ x.f4.length ≤ 9223372036854775807
def wtTo (l : List En) (n : Nat) : Nat := ((l.take n).map fun x => wtF x.f0).sum
theorem wtTo_zero (l : List En) : wtTo l 0 = 0 := rfl
theorem wtTo_succ {l : List En} {n : Nat} (h : n < l.length) : wtTo l (n + 1) = wtTo l n + wtF l[n].f0 := by
  unfold wtTo
  rw [List.take_add_one, List.getElem?_eq_getElem h, List.map_append, List.sum_append]
  simp
theorem wtTo_le {l : List En} {n m : Nat} (h : n ≤ m) : wtTo l n ≤ wtTo l m := by
  unfold wtTo
  have : l.take m = l.take n ++ (l.take m).drop n := by
    have := List.take_append_drop n (l.take m)
    rw [List.take_take, Nat.min_eq_left h] at this
    exact this.symm
  rw [this, List.map_append, List.sum_append]
  omega
def wtL (l : List En) : Nat := l.length + wtTo l l.length
end Go.Eng
namespace Go.Eng
open Go Go.Proofs Geo
set_option linter.unusedSimpArgs false
set_option linter.unusedVariables false
set_option maxRecDepth 20000
set_option maxHeartbeats 1000000

/-! copies -/
/-- a made slice that is filled as far as n -/
def fillTo {α : Type} (g : α → List PV) (z : List PV) (l : List α) (n : Nat) : List (List PV) := (l.map g).take n ++ List.replicate (l.length - n) z
theorem fillTo_zero {α : Type} {g : α → List PV} {z : List PV} {l : List α} : fillTo g z l 0 = List.replicate l.length z := rfl
theorem fillTo_full {α : Type} {g : α → List PV} {z : List PV} {l : List α} : fillTo g z l l.length = l.map g := by
  unfold fillTo; rw [Nat.sub_self, List.take_of_length_le (by simp)]; simp
theorem fillTo_len {α : Type} {g : α → List PV} {z : List PV} {l : List α} {n : Nat} (h : n ≤ l.length) : (fillTo g z l n).length = l.length := by
  unfold fillTo; simp; omega
theorem fillTo_set {α : Type} {g : α → List PV} {z : List PV} {l : List α} {n : Nat} (h : n < l.length) : (fillTo g z l n).set n (g l[n]) = fillTo g z l (n + 1) := by
  unfold fillTo
  have e : l.length - n = (l.length - (n + 1)) + 1 := by omega
  rw [e, List.replicate_succ, List.set_append_right _ _ (by simp; omega)]
  have e2 : n - ((l.map g).take n).length = 0 := by simp; omega
  rw [e2, List.set_cons_zero, List.take_add_one, List.getElem?_map, List.getElem?_eq_getElem h]
  simp
def Ft.fr (x : Ft) : Ft := { x with nl := false }
def En.fr (x : En) : En := { x with f0 := x.f0.fr }
def enz : List PV := [i 0, i 0, i 0, .str (bs []), .lst 2 true [], i 0, i 0, .bool false]
def enf (x : En) : List PV := [i x.f0.f0, i x.f0.f1, i x.f0.f2, .str x.f0.f3, .lst 2 false (x.f0.f4.map cp), i x.f1, i x.f2, .bool x.f3]
theorem wtL_len (l : List En) : l.length ≤ wtL l := Nat.le_add_right ..
theorem wtL_mem {l : List En} {x : En} (h : x ∈ l) : x.f0.f3.size + x.f0.f4.length ≤ wtL l := by
  unfold wtL wtTo
  rw [List.take_of_length_le (Nat.le_refl _)]
  have : ∀ (l : List En), x ∈ l → wtF x.f0 ≤ (l.map fun x => wtF x.f0).sum := by
    intro l
    induction l with
    | nil => intro h; cases h
    | cons y r ih =>
      intro h
      rw [List.map_cons, List.sum_cons]
      rcases List.mem_cons.1 h with rfl | h
      · exact Nat.le_add_right ..
      · have := ih h; omega
  have := this l h
  have e : wtF x.f0 = x.f0.f3.size + x.f0.f4.length := rfl
  omega
end Go.Eng
namespace Go.Eng
open Go Go.Proofs
set_option linter.unusedSimpArgs false
set_option linter.unusedVariables false
set_option maxRecDepth 20000
set_option maxHeartbeats 1000000

/-! numerals, bars, references of tiles -/
def rho_laysM171 : Go.Shelf.Ren := ⟨fun | 171 => 38 | 243 => 51 | 246 => 69 | 283 => 88 | 284 => 89 | 285 => 90 | 286 => 91 | 129 => 102 | 317 => 101 | 318 => 103 | 319 => 104 | 320 => 105 | 337 => 109 | 338 => 110 | n => n, fun | 3 => 3 | 9 => 9 | 2 => 2 | 4 => 4 | 171 => 93 | 0 => 0 | 53 => 94 | 37 => 22 | 5 => 5 | 173 => 97 | 212 => 103 | 51 => 104 | 20 => 20 | 213 => 105 | 46 => 86 | 232 => 109 | 233 => 110 | n => n, fun | 17 => 0 | 18 => 1 | 19 => 2 | n => n⟩
theorem L_laysM171 : Go.Proofs.LaysM.n171 Tryd.prog rho_laysM171 := {
  mixed := by kernel_rfl
  f129 := Tryd.func102.trans (congrArg some (by kernel_rfl))
  f171 := Tryd.func38.trans (congrArg some (by kernel_rfl))
  f243 := Tryd.func51.trans (congrArg some (by kernel_rfl))
  f246 := Tryd.func69.trans (congrArg some (by kernel_rfl))
  f283 := Tryd.func88.trans (congrArg some (by kernel_rfl))
  f284 := Tryd.func89.trans (congrArg some (by kernel_rfl))
  f285 := Tryd.func90.trans (congrArg some (by kernel_rfl))
  f286 := Tryd.func91.trans (congrArg some (by kernel_rfl))
  f317 := Tryd.func101.trans (congrArg some (by kernel_rfl))
  f318 := Tryd.func103.trans (congrArg some (by kernel_rfl))
  f319 := Tryd.func104.trans (congrArg some (by kernel_rfl))
  f320 := Tryd.func105.trans (congrArg some (by kernel_rfl))
  f337 := Tryd.func109.trans (congrArg some (by kernel_rfl))
  f338 := Tryd.func110.trans (congrArg some (by kernel_rfl))
  t0 := Tryd.underlying0
  a0 := Tryd.isAgg0
  z0 := Tryd.sizeOf0
  v0 := Tryd.zeroValue0
  t2 := Tryd.underlying2
  a2 := Tryd.isAgg2
  z2 := Tryd.sizeOf2
  v2 := Tryd.zeroValue2
  t3 := Tryd.underlying3
  a3 := Tryd.isAgg3
  z3 := Tryd.sizeOf3
  v3 := Tryd.zeroValue3
  t4 := Tryd.underlying4
  a4 := Tryd.isAgg4
  z4 := Tryd.sizeOf4
  v4 := Tryd.zeroValue4
  t5 := Tryd.underlying5
  a5 := Tryd.isAgg5
  z5 := Tryd.sizeOf5
  v5 := Tryd.zeroValue5
  t9 := Tryd.underlying9
  a9 := Tryd.isAgg9
  z9 := Tryd.sizeOf9
  v9 := Tryd.zeroValue9
  t20 := Tryd.underlying20
  a20 := Tryd.isAgg20
  z20 := Tryd.sizeOf20
  v20 := Tryd.zeroValue20
  t37 := Tryd.underlying22
  a37 := Tryd.isAgg22
  z37 := Tryd.sizeOf22
  v37 := Tryd.zeroValue22
  t46 := Tryd.underlying86
  a46 := Tryd.isAgg86
  z46 := Tryd.sizeOf86
  v46 := Tryd.zeroValue86
  t51 := Tryd.underlying104
  a51 := Tryd.isAgg104
  z51 := Tryd.sizeOf104
  v51 := Tryd.zeroValue104
  t53 := Tryd.underlying94
  a53 := Tryd.isAgg94
  z53 := Tryd.sizeOf94
  v53 := Tryd.zeroValue94
  t171 := Tryd.underlying93
  a171 := Tryd.isAgg93
  z171 := Tryd.sizeOf93
  v171 := Tryd.zeroValue93
  t173 := Tryd.underlying97
  a173 := Tryd.isAgg97
  z173 := Tryd.sizeOf97
  v173 := Tryd.zeroValue97
  t212 := Tryd.underlying103
  a212 := Tryd.isAgg103
  z212 := Tryd.sizeOf103
  v212 := Tryd.zeroValue103
  t213 := Tryd.underlying105
  a213 := Tryd.isAgg105
  z213 := Tryd.sizeOf105
  t232 := Tryd.underlying109
  a232 := Tryd.isAgg109
  z232 := Tryd.sizeOf109
  v232 := Tryd.zeroValue109
  t233 := Tryd.underlying110
  a233 := Tryd.isAgg110
  z233 := Tryd.sizeOf110
  v233 := Tryd.zeroValue110
  g17 := by kernel_rfl
  g18 := by kernel_rfl
  g19 := by kernel_rfl
  i0 := by kernel_rfl
  i2 := by kernel_rfl
  i3 := by kernel_rfl
  i4 := by kernel_rfl
  i5 := by kernel_rfl
  i9 := by kernel_rfl
  i20 := by kernel_rfl
  i37 := by kernel_rfl
  i46 := by kernel_rfl
  i51 := by kernel_rfl
  i53 := by kernel_rfl
  i171 := by kernel_rfl
  i173 := by kernel_rfl
  i212 := by kernel_rfl
  i232 := by kernel_rfl
  i233 := by kernel_rfl
  m17 := by kernel_rfl
  m18 := by kernel_rfl
  m19 := by kernel_rfl }
def dec (n : Int) : ByteArray := ⟨(Lib.itoa n).toArray⟩
theorem f38 (n : Int) (h0 : -9223372036854775808 ≤ n) (h1 : n ≤ 9223372036854775807) : Fn Tryd.prog 38 false [i n] (.str (dec n)) := by
  refine ⟨by kernel_rfl, fun w xs Fs hi hr hlt => ?_⟩
  obtain ⟨x, xs', F1, F2, rfl, rfl, hx, hr'⟩ := RepL.cons_inv hr
  obtain ⟨rfl, rfl⟩ := hr'.nil_inv
  obtain ⟨rfl, rfl⟩ := hx.int_inv
  have hn : (Tryd.prog.globalNamed pow10N).isNone = false := by kernel_rfl
  have htab : Lib.TabIs Tryd.prog w "internal/strconv.uint64pow10" .u64 Lib.pow10Tab := hi.resolve_left (fun h => by rw [h] at hn; cases hn)
  refine (Any.strconv_Itoa L_laysM171 n h0 h1 w htab).mono ?_
  rintro e w' ⟨rfl, k, os, rfl⟩
  exact ⟨_, [], rfl, .str _, Lib.below_grow _ _ (Nat.le_refl _) _ _, by simp, by simp⟩
theorem f27 (n : Int) (h0 : -9223372036854775808 ≤ n) (h1 : n ≤ 9223372036854775807) : Fn Tryd.prog 27 false [i n] (.str (dec n)) := by
  refine Fn.by_sx hX (by kernel_rfl) c27 (by kernel_rfl) (by rfl) ?_
  simp [i27, sxa, isPtrN, PV.pcs, elAt, setEl, inAt, elIn, setIn, isLst, cellsOf, Ex.ok, Ex.val, Opd.val, POp.dst, bin_int, binOK_int, bin_str, binOK_str, resOK, resV, RB.val, sub, putc, scB, scL, oneB, conf, Ex.val.eqP, Ex.val.eqL, negV, mxV, mnV, ← wr_eq, wr_zero, wr_one, wr_m1, bst_lst, byteC, partsOK, putAll, appV, nilV, slV, sslV, optB, optNum, and_assoc, exists_and_left, exists_eq_left']
  repeat' (first | intro _ | (simp [sxa, isPtrN, PV.pcs, elAt, setEl, inAt, elIn, setIn, isLst, cellsOf, Ex.ok, Ex.val, Opd.val, POp.dst, bin_int, binOK_int, bin_str, binOK_str, resOK, resV, RB.val, sub, putc, scB, scL, oneB, conf, Ex.val.eqP, Ex.val.eqL, negV, mxV, mnV, ← wr_eq, wr_zero, wr_one, wr_m1, bst_lst, byteC, partsOK, putAll, appV, nilV, slV, sslV, optB, optNum, and_assoc, exists_and_left, exists_eq_left', *]) | refine CallS_i (f38 n h0 h1) ?_ | refine CondS_d (fun h => ?_) (fun h => ?_) | refine CondS_b (fun h => ?_) (fun h => ?_) | refine GrdS_d (fun h => ?_) (fun h => ?_) | refine GrdS_b (fun h => ?_) (fun h => ?_) | refine OkS_i (by omega) ?_ | fail)
/-! the first digit -/
def leadF : Nat → Nat → Nat
  | 0, u => u
  | f + 1, u => if u < 10 then u else leadF f (u / 10)
def lead (u : Nat) : Nat := leadF 20 u
theorem leadF_le : ∀ f u, u < 10 ^ f → leadF f u ≤ 9
  | 0, u, h => by simp at h; simp [leadF, h]
  | f + 1, u, h => by
    unfold leadF
    split
    · omega
    · exact leadF_le f _ (by rw [Nat.pow_succ] at h; omega)
theorem leadF_more : ∀ f u, u < 10 ^ f → leadF (f + 1) u = leadF f u
  | 0, u, h => by simp at h; simp [leadF, h]
  | f + 1, u, h => by
    unfold leadF
    split
    · rfl
    · exact leadF_more f _ (by rw [Nat.pow_succ] at h; omega)
theorem lead_div {u : Nat} (h : 10 ≤ u) (h2 : u < 10 ^ 19) : lead u = lead (u / 10) := by
  have e : lead u = leadF 19 (u / 10) := by
    show (if u < 10 then u else leadF 19 (u / 10)) = _
    rw [if_neg (by omega)]
  rw [e]
  exact (leadF_more 19 (u / 10) (by omega)).symm
theorem lead_small {u : Nat} (h : u < 10) : lead u = u := by
  show (if u < 10 then u else leadF 19 (u / 10)) = _
  rw [if_pos h]
theorem head_dec : ∀ f u, u < 10 ^ f → (Lib.decDigits u)[0]? = some (UInt8.ofNat (48 + leadF f u))
  | 0, u, h => by
    simp at h
    subst h
    rw [Lib.decDigits]; simp [leadF]
  | f + 1, u, h => by
    rw [Lib.decDigits]
    unfold leadF
    split
    · simp
    · have ih := head_dec f (u / 10) (by rw [Nat.pow_succ] at h; omega)
      have : 0 < (Lib.decDigits (u / 10)).length := by
        rcases Nat.eq_zero_or_pos (Lib.decDigits (u / 10)).length with h0 | h0
        · rw [List.getElem?_eq_none (by omega)] at ih; cases ih
        · exact h0
      rw [List.getElem?_append_left this]; exact ih
theorem dec_head {n : Int} (h : 1 ≤ n) (h2 : n ≤ 9223372036854775807) : sixV (.str (dec n)) 0 = .int .u8 (48 + lead n.toNat : Nat) ∧ 0 < (dec n).size := by
  have hn : Lib.itoa n = Lib.decDigits n.toNat := by unfold Lib.itoa; rw [if_neg (by omega)]
  have hd := head_dec 20 n.toNat (by omega)
  have hl := leadF_le 20 n.toNat (by omega)
  have hs : (dec n).data[0]? = some (UInt8.ofNat (48 + lead n.toNat)) := by
    show (Lib.itoa n).toArray[0]? = _
    rw [hn, List.getElem?_toArray]; exact hd
  constructor
  · show PV.int .u8 (((dec n).data[(0 : Int).toNat]?).getD 0).toNat = _
    rw [show (0 : Int).toNat = 0 from rfl, hs, Option.getD_some]
    congr 1
    have : (UInt8.ofNat (48 + lead n.toNat)).toNat = 48 + lead n.toNat := by
      rw [UInt8.toNat_ofNat']; show (48 + leadF 20 n.toNat) % 2 ^ 8 = _; unfold lead; omega
    rw [this]
  · show 0 < (dec n).data.size
    rcases Nat.eq_zero_or_pos (dec n).data.size with h0 | h0
    · rw [Array.getElem?_eq_none (by omega)] at hs; cases hs
    · exact h0
/-! BarParts -/
def wBar (n : Int) : Int := if n < 1 then 0 else if lead n.toNat = 2 then 4 else 5
theorem f8 (n : Int) (h1 : n ≤ 9223372036854775807) : Fn Tryd.prog 8 false [i n] (i (wBar n)) := by
  refine Fn.by_sx hX (by kernel_rfl) c8 (by kernel_rfl) (by rfl) ?_
  simp [i8, sxa, isPtrN, PV.pcs, elAt, setEl, inAt, elIn, setIn, isLst, cellsOf, Ex.ok, Ex.val, Opd.val, POp.dst, bin_int, binOK_int, bin_str, binOK_str, resOK, resV, RB.val, sub, putc, scB, scL, oneB, conf, Ex.val.eqP, Ex.val.eqL, negV, mxV, mnV, ← wr_eq, wr_zero, wr_one, wr_m1, bst_lst, byteC, partsOK, putAll, appV, nilV, slV, sslV, optB, optNum, and_assoc, exists_and_left, exists_eq_left']
  by_cases h : n < 1
  · repeat' (first | intro _ | (simp [sxa, isPtrN, PV.pcs, elAt, setEl, inAt, elIn, setIn, isLst, cellsOf, Ex.ok, Ex.val, Opd.val, POp.dst, bin_int, binOK_int, bin_str, binOK_str, resOK, resV, RB.val, sub, putc, scB, scL, oneB, conf, Ex.val.eqP, Ex.val.eqL, negV, mxV, mnV, ← wr_eq, wr_zero, wr_one, wr_m1, bst_lst, byteC, partsOK, putAll, appV, nilV, slV, sslV, optB, optNum, and_assoc, exists_and_left, exists_eq_left', *]) | refine CondS_d (fun h => ?_) (fun h => ?_) | refine CondS_b (fun h => ?_) (fun h => ?_) | refine GrdS_d (fun h => ?_) (fun h => ?_) | refine GrdS_b (fun h => ?_) (fun h => ?_) | refine OkS_i (by omega) ?_ | fail)
    all_goals simp_all [wBar]
  · obtain ⟨h6, hsz⟩ := dec_head (n := n) (by omega) h1
    repeat' (first | intro _ | (simp [sxa, isPtrN, PV.pcs, elAt, setEl, inAt, elIn, setIn, isLst, cellsOf, Ex.ok, Ex.val, Opd.val, POp.dst, bin_int, binOK_int, bin_str, binOK_str, resOK, resV, RB.val, sub, putc, scB, scL, oneB, conf, Ex.val.eqP, Ex.val.eqL, negV, mxV, mnV, ← wr_eq, wr_zero, wr_one, wr_m1, bst_lst, byteC, partsOK, putAll, appV, nilV, slV, sslV, optB, optNum, and_assoc, exists_and_left, exists_eq_left', *]) | refine CallS_i (f27 n (by omega) h1) ?_ | refine CondS_d (fun h => ?_) (fun h => ?_) | refine CondS_b (fun h => ?_) (fun h => ?_) | refine GrdS_d (fun h => ?_) (fun h => ?_) | refine GrdS_b (fun h => ?_) (fun h => ?_) | refine OkS_i (by omega) ?_ | fail)
    all_goals (unfold wBar; split <;> (try split) <;> omega)
/-! RoundLength, ScaleStep -/
def rs (k : Nat) : Nat := [1, 2, 5].getD (k % 3) 0 * 10 ^ (k / 3)
def ra (u : Nat) : Nat := if lead u = 2 then u / 2 * 5 else 2 * u
theorem ra_rs : ∀ k : _root_.Fin 30, ra (rs k.val) = rs (k.val + 1) := by decide +kernel
theorem rs_lt : ∀ k : _root_.Fin 30, rs k.val < rs (k.val + 1) := by decide +kernel
theorem rs_f : ∀ q : _root_.Fin 11, rs (3 * q.val) = 10 ^ q.val ∧ rs (3 * q.val + 1) = 2 * 10 ^ q.val ∧ rs (3 * q.val + 2) = 5 * 10 ^ q.val := by decide +kernel
theorem rs_pos : ∀ k : _root_.Fin 31, 1 ≤ rs k.val := by decide +kernel
theorem rs_top : rs 28 = 2000000000 := by decide +kernel
theorem rs_mono {k m : Nat} (h : k ≤ m) (hm : m ≤ 30) : rs k ≤ rs m := by
  induction m with
  | zero => rw [show k = 0 by omega]; exact Nat.le_refl _
  | succ m ih =>
    rcases Nat.lt_or_ge m k with h' | h'
    · rw [show k = m + 1 by omega]; exact Nat.le_refl _
    · exact Nat.le_trans (ih h' (by omega)) (Nat.le_of_lt (rs_lt ⟨m, by omega⟩))
/-- the greatest of the first m that is at most n -/
def rlTo (n : Int) : Nat → Int
  | 0 => 0
  | m + 1 => if (rs m : Int) ≤ n then rs m else rlTo n m
theorem rlTo_eq {n : Int} {k : Nat} (hk : (rs k : Int) ≤ n) (hk2 : n < rs (k + 1)) : ∀ m, k + 1 ≤ m → m ≤ 30 → rlTo n m = rs k := by
  intro m
  induction m with
  | zero => intro h; omega
  | succ m ih =>
    intro h h30
    unfold rlTo
    rcases Nat.lt_or_ge k m with h' | h'
    · have := rs_mono (k := k + 1) (m := m) h' (by omega)
      rw [if_neg (by omega)]
      exact ih h' (by omega)
    · rw [show m = k by omega, if_pos hk]
def rl (n : Int) : Int := if 1 ≤ n ∧ n ≤ 1000000000 then rlTo n 30 else 0
theorem rl_has {n : Int} (h : 1 ≤ n) (h2 : n ≤ 1000000000) : ∃ k, k < 28 ∧ (rs k : Int) ≤ n ∧ n < rs (k + 1) := by
  have : ∀ m, n < rs m → m ≤ 28 → ∃ k, k < m ∧ (rs k : Int) ≤ n ∧ n < rs (k + 1) := by
    intro m
    induction m with
    | zero => intro h0; have : rs 0 = 1 := rfl; omega
    | succ m ih =>
      intro h0 hm
      rcases Int.lt_or_le n (rs m) with h' | h'
      · obtain ⟨k, k1, k2⟩ := ih h' (by omega); exact ⟨k, by omega, k2⟩
      · exact ⟨m, by omega, h', h0⟩
  exact this 28 (by rw [rs_top]; omega) (Nat.le_refl _)
theorem rl_eq {n : Int} {k : Nat} (h : 1 ≤ n) (h2 : n ≤ 1000000000) (hk : k < 30) (h3 : (rs k : Int) ≤ n) (h4 : n < rs (k + 1)) : rl n = rs k := by
  unfold rl; rw [if_pos ⟨h, h2⟩]; exact rlTo_eq h3 h4 30 (by omega) (Nat.le_refl _)
theorem f26 (u : Nat) (h : 1 ≤ u) (h2 : u ≤ 1000000000000) : Fn Tryd.prog 26 false [i u] (i (ra u : Nat)) := by
  refine Fn.by_sx hX (by kernel_rfl) c26 (by kernel_rfl) (by rfl) ?_
  simp [i26, sxa, isPtrN, PV.pcs, elAt, setEl, inAt, elIn, setIn, isLst, cellsOf, Ex.ok, Ex.val, Opd.val, POp.dst, bin_int, binOK_int, bin_str, binOK_str, resOK, resV, RB.val, sub, putc, scB, scL, oneB, conf, Ex.val.eqP, Ex.val.eqL, negV, mxV, mnV, ← wr_eq, wr_zero, wr_one, wr_m1, bst_lst, byteC, partsOK, putAll, appV, nilV, slV, sslV, optB, optNum, and_assoc, exists_and_left, exists_eq_left']
  obtain ⟨h6, hsz⟩ := dec_head (n := u) (by omega) (by omega)
  rw [Int.toNat_natCast] at h6
  have hq : ((u : Int)) / 2 = ((u / 2 : Nat) : Int) := rfl
  obtain ⟨q, hqq⟩ : ∃ q, u / 2 = q := ⟨_, rfl⟩
  rw [hqq] at hq
  have hw1 : wr .i64 (q : Int) = q := wr_in (by omega) (by omega)
  have hw2 : wr .i64 ((q : Int) * 5) = q * 5 := wr_in (by omega) (by omega)
  have hw3 : wr .i64 (2 * (u : Int)) = 2 * u := wr_in (by omega) (by omega)
  repeat' (first | intro _ | (simp [sxa, isPtrN, PV.pcs, elAt, setEl, inAt, elIn, setIn, isLst, cellsOf, Ex.ok, Ex.val, Opd.val, POp.dst, bin_int, binOK_int, bin_str, binOK_str, resOK, resV, RB.val, sub, putc, scB, scL, oneB, conf, Ex.val.eqP, Ex.val.eqL, negV, mxV, mnV, ← wr_eq, wr_zero, wr_one, wr_m1, bst_lst, byteC, partsOK, putAll, appV, nilV, slV, sslV, optB, optNum, and_assoc, exists_and_left, exists_eq_left', *]) | refine CallS_i (f27 u (by omega) (by omega)) ?_ | refine CondS_d (fun h => ?_) (fun h => ?_) | refine CondS_b (fun h => ?_) (fun h => ?_) | refine GrdS_d (fun h => ?_) (fun h => ?_) | refine GrdS_b (fun h => ?_) (fun h => ?_) | refine OkS_i (by omega) ?_ | fail)
  · unfold ra; rw [if_pos (by omega), hqq]; omega
  · unfold ra; rw [if_neg (by omega)]; omega
theorem f7 (n : Int) (h1 : n ≤ 9223372036854775807) : Fn Tryd.prog 7 false [i n] (i (rl n)) := by
  refine Fn.by_sx hX (by kernel_rfl) c7 (by kernel_rfl) (by rfl) ?_
  simp [i7, sxa, isPtrN, PV.pcs, elAt, setEl, inAt, elIn, setIn, isLst, cellsOf, Ex.ok, Ex.val, Opd.val, POp.dst, bin_int, binOK_int, bin_str, binOK_str, resOK, resV, RB.val, sub, putc, scB, scL, oneB, conf, Ex.val.eqP, Ex.val.eqL, negV, mxV, mnV, ← wr_eq, wr_zero, wr_one, wr_m1, bst_lst, byteC, partsOK, putAll, appV, nilV, slV, sslV, optB, optNum, and_assoc, exists_and_left, exists_eq_left']
  refine CallS_b (f25 _ _ _) (fun h => ?_) (fun h => ?_)
  · have hr : 1 ≤ n ∧ n ≤ 1000000000 := by simpa [inR] using h
    repeat' (first | intro _ | (simp [sxa, isPtrN, PV.pcs, elAt, setEl, inAt, elIn, setIn, isLst, cellsOf, Ex.ok, Ex.val, Opd.val, POp.dst, bin_int, binOK_int, bin_str, binOK_str, resOK, resV, RB.val, sub, putc, scB, scL, oneB, conf, Ex.val.eqP, Ex.val.eqL, negV, mxV, mnV, ← wr_eq, wr_zero, wr_one, wr_m1, bst_lst, byteC, partsOK, putAll, appV, nilV, slV, sslV, optB, optNum, and_assoc, exists_and_left, exists_eq_left', *]) | refine CondS_d (fun h => ?_) (fun h => ?_) | refine CondS_b (fun h => ?_) (fun h => ?_) | refine GrdS_d (fun h => ?_) (fun h => ?_) | refine GrdS_b (fun h => ?_) (fun h => ?_) | refine OkS_i (by omega) ?_ | fail)
    refine sx_count 29 (fun k V => V 0 = i n ∧ V 3 = i (rs k : Nat) ∧ (rs k : Int) ≤ n) 0 (by omega) (by simp [sxa, isPtrN, PV.pcs, elAt, setEl, inAt, elIn, setIn, isLst, cellsOf, Ex.ok, Ex.val, Opd.val, POp.dst, bin_int, binOK_int, bin_str, binOK_str, resOK, resV, RB.val, sub, putc, scB, scL, oneB, conf, Ex.val.eqP, Ex.val.eqL, negV, mxV, mnV, ← wr_eq, wr_zero, wr_one, wr_m1, bst_lst, byteC, partsOK, putAll, appV, nilV, slV, sslV, optB, optNum, and_assoc, exists_and_left, exists_eq_left']; exact ⟨rfl, hr.1⟩) ?_
    rintro k V hk ⟨h0, h3, hle⟩
    simp [sxa, isPtrN, PV.pcs, elAt, setEl, inAt, elIn, setIn, isLst, cellsOf, Ex.ok, Ex.val, Opd.val, POp.dst, bin_int, binOK_int, bin_str, binOK_str, resOK, resV, RB.val, sub, putc, scB, scL, oneB, conf, Ex.val.eqP, Ex.val.eqL, negV, mxV, mnV, ← wr_eq, wr_zero, wr_one, wr_m1, bst_lst, byteC, partsOK, putAll, appV, nilV, slV, sslV, optB, optNum, and_assoc, exists_and_left, exists_eq_left', h0, h3]
    have hk28 : k < 28 := by
      rcases Nat.lt_or_ge k 28 with h | h
      · exact h
      · have := rs_mono h (by omega); rw [rs_top] at this; omega
    have c32 := f26 (rs k) (rs_pos ⟨k, by omega⟩) (by omega)
    rw [ra_rs ⟨k, by omega⟩] at c32
    repeat' (first | intro _ | (simp [sxa, isPtrN, PV.pcs, elAt, setEl, inAt, elIn, setIn, isLst, cellsOf, Ex.ok, Ex.val, Opd.val, POp.dst, bin_int, binOK_int, bin_str, binOK_str, resOK, resV, RB.val, sub, putc, scB, scL, oneB, conf, Ex.val.eqP, Ex.val.eqL, negV, mxV, mnV, ← wr_eq, wr_zero, wr_one, wr_m1, bst_lst, byteC, partsOK, putAll, appV, nilV, slV, sslV, optB, optNum, and_assoc, exists_and_left, exists_eq_left', *]) | refine CallS_i (c32) ?_ | refine CondS_d (fun h => ?_) (fun h => ?_) | refine CondS_b (fun h => ?_) (fun h => ?_) | refine GrdS_d (fun h => ?_) (fun h => ?_) | refine GrdS_b (fun h => ?_) (fun h => ?_) | refine OkS_i (by omega) ?_ | fail)
    · omega
    · rw [rl_eq hr.1 hr.2 (by omega) hle (by omega)]
  · have hr : rl n = 0 := by unfold rl; rw [if_neg (by simpa [inR] using h)]
    repeat' (first | intro _ | (simp [sxa, isPtrN, PV.pcs, elAt, setEl, inAt, elIn, setIn, isLst, cellsOf, Ex.ok, Ex.val, Opd.val, POp.dst, bin_int, binOK_int, bin_str, binOK_str, resOK, resV, RB.val, sub, putc, scB, scL, oneB, conf, Ex.val.eqP, Ex.val.eqL, negV, mxV, mnV, ← wr_eq, wr_zero, wr_one, wr_m1, bst_lst, byteC, partsOK, putAll, appV, nilV, slV, sslV, optB, optNum, and_assoc, exists_and_left, exists_eq_left', *]) | refine CondS_d (fun h => ?_) (fun h => ?_) | refine CondS_b (fun h => ?_) (fun h => ?_) | refine GrdS_d (fun h => ?_) (fun h => ?_) | refine GrdS_b (fun h => ?_) (fun h => ?_) | refine OkS_i (by omega) ?_ | fail)


theorem rlTo_succ (n : Int) (m : Nat) : rlTo n (m + 1) = if (rs m : Int) ≤ n then (rs m : Int) else rlTo n m := rfl
/-! ScaleStep -/
def ss (n : Int) : Int := if 1 ≤ n ∧ n ≤ 499999999 then (ra (rl n).toNat : Nat) else 0
theorem ss_eq {n : Int} {k : Nat} (h : 1 ≤ n) (h2 : n ≤ 499999999) (hk : k < 30) (h3 : (rs k : Int) ≤ n) (h4 : n < rs (k + 1)) : ss n = rs (k + 1) := by
  unfold ss
  rw [if_pos ⟨h, h2⟩, rl_eq h (by omega) hk h3 h4, Int.toNat_natCast, ra_rs ⟨k, hk⟩]
theorem f12 (n : Int) (h1 : n ≤ 9223372036854775807) : Fn Tryd.prog 12 false [i n] (i (ss n)) := by
  refine Fn.by_sx hX (by kernel_rfl) c12 (by kernel_rfl) (by rfl) ?_
  simp [i12, sxa, isPtrN, PV.pcs, elAt, setEl, inAt, elIn, setIn, isLst, cellsOf, Ex.ok, Ex.val, Opd.val, POp.dst, bin_int, binOK_int, bin_str, binOK_str, resOK, resV, RB.val, sub, putc, scB, scL, oneB, conf, Ex.val.eqP, Ex.val.eqL, negV, mxV, mnV, ← wr_eq, wr_zero, wr_one, wr_m1, bst_lst, byteC, partsOK, putAll, appV, nilV, slV, sslV, optB, optNum, and_assoc, exists_and_left, exists_eq_left']
  by_cases hr : 1 ≤ n ∧ n ≤ 499999999
  · obtain ⟨k, k1, k2, k3⟩ := rl_has hr.1 (by omega)
    have hs : ss n = (ra (rs k) : Nat) := by rw [ss_eq hr.1 hr.2 (by omega) k2 k3, ra_rs ⟨k, by omega⟩]
    have hl := rl_eq hr.1 (by omega) (by omega) k2 k3
    have c32 := f26 (rs k) (rs_pos ⟨k, by omega⟩) (by omega)
    have n1 : ¬ n < 1 := by omega
    have n2 : ¬ 500000000 ≤ n := by omega
    have c14 := f7 n h1
    rw [hl] at c14
    repeat' (first | intro _ | (simp [sxa, isPtrN, PV.pcs, elAt, setEl, inAt, elIn, setIn, isLst, cellsOf, Ex.ok, Ex.val, Opd.val, POp.dst, bin_int, binOK_int, bin_str, binOK_str, resOK, resV, RB.val, sub, putc, scB, scL, oneB, conf, Ex.val.eqP, Ex.val.eqL, negV, mxV, mnV, ← wr_eq, wr_zero, wr_one, wr_m1, bst_lst, byteC, partsOK, putAll, appV, nilV, slV, sslV, optB, optNum, and_assoc, exists_and_left, exists_eq_left', *]) | refine CallS_i (c14) ?_ | refine CallS_i (c32) ?_ | refine CondS_d (fun h => ?_) (fun h => ?_) | refine CondS_b (fun h => ?_) (fun h => ?_) | refine GrdS_d (fun h => ?_) (fun h => ?_) | refine GrdS_b (fun h => ?_) (fun h => ?_) | refine OkS_i (by omega) ?_ | fail)
  · have hs : ss n = 0 := by unfold ss; rw [if_neg hr]
    repeat' (first | intro _ | (simp [sxa, isPtrN, PV.pcs, elAt, setEl, inAt, elIn, setIn, isLst, cellsOf, Ex.ok, Ex.val, Opd.val, POp.dst, bin_int, binOK_int, bin_str, binOK_str, resOK, resV, RB.val, sub, putc, scB, scL, oneB, conf, Ex.val.eqP, Ex.val.eqL, negV, mxV, mnV, ← wr_eq, wr_zero, wr_one, wr_m1, bst_lst, byteC, partsOK, putAll, appV, nilV, slV, sslV, optB, optNum, and_assoc, exists_and_left, exists_eq_left', *]) | refine CondS_d (fun h => ?_) (fun h => ?_) | refine CondS_b (fun h => ?_) (fun h => ?_) | refine GrdS_d (fun h => ?_) (fun h => ?_) | refine GrdS_b (fun h => ?_) (fun h => ?_) | refine OkS_i (by omega) ?_ | fail)
    all_goals omega
theorem f10 (a b : Int) : Fn Tryd.prog 10 false [i a, i b] (if 1 ≤ a ∧ a ≤ 1000 ∧ 1 ≤ b ∧ b ≤ 100000 then .tup [i (rl (a * b)), i (wr .i64 ((rl (a * b)).tdiv b))] else .tup [i 0, i 0]) := by
  refine Fn.by_sx hX (by kernel_rfl) c10 (by kernel_rfl) (by rfl) ?_
  simp [i10, sxa, isPtrN, PV.pcs, elAt, setEl, inAt, elIn, setIn, isLst, cellsOf, Ex.ok, Ex.val, Opd.val, POp.dst, bin_int, binOK_int, bin_str, binOK_str, resOK, resV, RB.val, sub, putc, scB, scL, oneB, conf, Ex.val.eqP, Ex.val.eqL, negV, mxV, mnV, ← wr_eq, wr_zero, wr_one, wr_m1, bst_lst, byteC, partsOK, putAll, appV, nilV, slV, sslV, optB, optNum, and_assoc, exists_and_left, exists_eq_left']
  by_cases h : 1 ≤ a ∧ a ≤ 1000 ∧ 1 ≤ b ∧ b ≤ 100000
  · rw [if_pos h]
    have m1 : 1 ≤ a * b := Int.mul_pos (by omega) (by omega)
    have m2 : a * b ≤ 1000 * 100000 := Int.mul_le_mul h.2.1 h.2.2.2 (by omega) (by omega)
    have hw : wr .i64 (a * b) = a * b := wr_in (by omega) (by omega)
    have hb0 : ¬ b = 0 := by omega
    have c1 := f25 a 1 1000
    have c2 := f25 b 1 100000
    rw [show inR a 1 1000 = true by simp [inR]; omega] at c1
    rw [show inR b 1 100000 = true by simp [inR]; omega] at c2
    repeat' (first | intro _ | (simp [sxa, isPtrN, PV.pcs, elAt, setEl, inAt, elIn, setIn, isLst, cellsOf, Ex.ok, Ex.val, Opd.val, POp.dst, bin_int, binOK_int, bin_str, binOK_str, resOK, resV, RB.val, sub, putc, scB, scL, oneB, conf, Ex.val.eqP, Ex.val.eqL, negV, mxV, mnV, ← wr_eq, wr_zero, wr_one, wr_m1, bst_lst, byteC, partsOK, putAll, appV, nilV, slV, sslV, optB, optNum, and_assoc, exists_and_left, exists_eq_left', *]) | refine CallS_i (c1) ?_ | refine CallS_i (c2) ?_ | refine CallS_i (f7 (a * b) (by omega)) ?_ | refine CondS_d (fun h => ?_) (fun h => ?_) | refine CondS_b (fun h => ?_) (fun h => ?_) | refine GrdS_d (fun h => ?_) (fun h => ?_) | refine GrdS_b (fun h => ?_) (fun h => ?_) | refine OkS_i (by omega) ?_ | fail)
  · rw [if_neg h]
    repeat' (first | intro _ | (simp [sxa, isPtrN, PV.pcs, elAt, setEl, inAt, elIn, setIn, isLst, cellsOf, Ex.ok, Ex.val, Opd.val, POp.dst, bin_int, binOK_int, bin_str, binOK_str, resOK, resV, RB.val, sub, putc, scB, scL, oneB, conf, Ex.val.eqP, Ex.val.eqL, negV, mxV, mnV, ← wr_eq, wr_zero, wr_one, wr_m1, bst_lst, byteC, partsOK, putAll, appV, nilV, slV, sslV, optB, optNum, and_assoc, exists_and_left, exists_eq_left', *]) | refine CallS_b (f25 _ _ _) (fun h => ?_) (fun h => ?_) | refine CondS_d (fun h => ?_) (fun h => ?_) | refine CondS_b (fun h => ?_) (fun h => ?_) | refine GrdS_d (fun h => ?_) (fun h => ?_) | refine GrdS_b (fun h => ?_) (fun h => ?_) | refine OkS_i (by omega) ?_ | fail)
    all_goals (exfalso; simp [inR] at *; omega)


theorem dec_nat (u : Nat) : dec u = ⟨(Lib.decDigits u).toArray⟩ := by
  unfold dec Lib.itoa; rw [if_neg (by omega), Int.toNat_natCast]
theorem digits_len (u : Nat) : ∀ f, u < 10 ^ f → (Lib.decDigits u).length ≤ f + 1 := by
  intro f
  induction f generalizing u with
  | zero => intro h; rw [Lib.decDigits]; simp at h; subst h; simp
  | succ f ih =>
    intro h
    rw [Lib.decDigits]
    split
    · simp
    · have := ih (u / 10) (by rw [Nat.pow_succ] at h; omega)
      rw [List.length_append]; simp; omega
theorem dec_size {n : Int} (h : 0 ≤ n) (h2 : n ≤ 9223372036854775807) : (dec n).size ≤ 21 := by
  obtain ⟨u, rfl⟩ : ∃ u : Nat, n = u := ⟨n.toNat, by omega⟩
  rw [dec_nat]
  exact digits_len u 20 (by omega)
/-- the digits of u, none of nought, ahead of l -/
def digs (u : Nat) (l : List UInt8) : List UInt8 := (if u = 0 then [] else Lib.decDigits u) ++ l
theorem digs_step {u : Nat} (h : 0 < u) (l : List UInt8) : digs u l = digs (u / 10) (UInt8.ofNat (48 + u % 10) :: l) := by
  unfold digs
  rw [if_neg (by omega), Lib.decDigits]
  split
  · rename_i h10
    rw [if_pos (by omega), show u % 10 = u by omega]; rfl
  · rw [if_neg (by omega)]; simp
theorem str_app (a b : List UInt8) : (⟨a.toArray⟩ : ByteArray) ++ (⟨b.toArray⟩ : ByteArray) = ⟨(a ++ b).toArray⟩ := by
  apply ByteArray.ext
  simp
/-! BarText -/
def wText (n : Int) : ByteArray := if n < 1 then bs [] else if n < 1000 then dec n ++ bs [109] else dec (n / 1000) ++ bs [107, 109]
theorem f13 (n : Int) (h1 : n ≤ 9223372036854775807) : Fn Tryd.prog 13 false [i n] (.str (wText n)) := by
  refine Fn.by_sx hX (by kernel_rfl) c13 (by kernel_rfl) (by rfl) ?_
  simp [i13, sxa, isPtrN, PV.pcs, elAt, setEl, inAt, elIn, setIn, isLst, cellsOf, Ex.ok, Ex.val, Opd.val, POp.dst, bin_int, binOK_int, bin_str, binOK_str, resOK, resV, RB.val, sub, putc, scB, scL, oneB, conf, Ex.val.eqP, Ex.val.eqL, negV, mxV, mnV, ← wr_eq, wr_zero, wr_one, wr_m1, bst_lst, byteC, partsOK, putAll, appV, nilV, slV, sslV, optB, optNum, and_assoc, exists_and_left, exists_eq_left']
  by_cases h : n < 1
  · repeat' (first | intro _ | (simp [sxa, isPtrN, PV.pcs, elAt, setEl, inAt, elIn, setIn, isLst, cellsOf, Ex.ok, Ex.val, Opd.val, POp.dst, bin_int, binOK_int, bin_str, binOK_str, resOK, resV, RB.val, sub, putc, scB, scL, oneB, conf, Ex.val.eqP, Ex.val.eqL, negV, mxV, mnV, ← wr_eq, wr_zero, wr_one, wr_m1, bst_lst, byteC, partsOK, putAll, appV, nilV, slV, sslV, optB, optNum, and_assoc, exists_and_left, exists_eq_left', *]) | refine CondS_d (fun h => ?_) (fun h => ?_) | refine CondS_b (fun h => ?_) (fun h => ?_) | refine GrdS_d (fun h => ?_) (fun h => ?_) | refine GrdS_b (fun h => ?_) (fun h => ?_) | refine OkS_i (by omega) ?_ | fail)
    all_goals simp_all [wText]
  · by_cases h2 : n < 1000
    · have hwt : wText n = dec n ++ bs [109] := by unfold wText; rw [if_neg h, if_pos h2]
      have hs : (dec n).size + (bs [109]).size < 4611686018427387904 := by
        have := dec_size (n := n) (by omega) h1
        show _ + 1 < _; omega
      repeat' (first | intro _ | (simp [sxa, isPtrN, PV.pcs, elAt, setEl, inAt, elIn, setIn, isLst, cellsOf, Ex.ok, Ex.val, Opd.val, POp.dst, bin_int, binOK_int, bin_str, binOK_str, resOK, resV, RB.val, sub, putc, scB, scL, oneB, conf, Ex.val.eqP, Ex.val.eqL, negV, mxV, mnV, ← wr_eq, wr_zero, wr_one, wr_m1, bst_lst, byteC, partsOK, putAll, appV, nilV, slV, sslV, optB, optNum, and_assoc, exists_and_left, exists_eq_left', *]) | refine CallS_i (f27 n (by omega) h1) ?_ | refine CondS_d (fun h => ?_) (fun h => ?_) | refine CondS_b (fun h => ?_) (fun h => ?_) | refine GrdS_d (fun h => ?_) (fun h => ?_) | refine GrdS_b (fun h => ?_) (fun h => ?_) | refine OkS_i (by omega) ?_ | fail)
    · have hd : n.tdiv 1000 = n / 1000 := Int.tdiv_eq_ediv_of_nonneg (by omega)
      obtain ⟨q, hq⟩ : ∃ q, n / 1000 = q := ⟨_, rfl⟩
      rw [hq] at hd
      have hwt : wText n = dec q ++ bs [107, 109] := by unfold wText; rw [if_neg h, if_neg h2, hq]
      have hw : wr .i64 q = q := wr_in (by omega) (by omega)
      have hs : (dec q).size + (bs [107, 109]).size < 4611686018427387904 := by
        have := dec_size (n := q) (by omega) (by omega)
        show _ + 2 < _; omega
      repeat' (first | intro _ | (simp [sxa, isPtrN, PV.pcs, elAt, setEl, inAt, elIn, setIn, isLst, cellsOf, Ex.ok, Ex.val, Opd.val, POp.dst, bin_int, binOK_int, bin_str, binOK_str, resOK, resV, RB.val, sub, putc, scB, scL, oneB, conf, Ex.val.eqP, Ex.val.eqL, negV, mxV, mnV, ← wr_eq, wr_zero, wr_one, wr_m1, bst_lst, byteC, partsOK, putAll, appV, nilV, slV, sslV, optB, optNum, and_assoc, exists_and_left, exists_eq_left', *]) | refine CallS_i (f27 q (by omega) (by omega)) ?_ | refine CondS_d (fun h => ?_) (fun h => ?_) | refine CondS_b (fun h => ?_) (fun h => ?_) | refine GrdS_d (fun h => ?_) (fun h => ?_) | refine GrdS_b (fun h => ?_) (fun h => ?_) | refine OkS_i (by omega) ?_ | fail)
/-! references -/
def abc : ByteArray := bs [97, 98, 99, 100, 101, 102, 103, 104, 105, 106, 107, 108, 109, 110, 111, 112, 113, 114, 115, 116, 117]
def wRef (n : Int) : ByteArray := if 0 ≤ n ∧ n ≤ 440 then bs [97 + UInt8.ofNat (n % 21).toNat] ++ dec (n / 21) else bs []
theorem abc_at : ∀ k : _root_.Fin 21, abc.extract k.val (k.val + 1) = bs [97 + UInt8.ofNat k.val] := by decide +kernel
def cap2 (x : Int) : Int := if (200 : Int) < x then 200 else x
def tbox (n : Int) : List PV := if 0 ≤ n ∧ n ≤ 440 then [i (n % 21 * 10), i (n / 21 * 10), i (cap2 (n % 21 * 10 + 10)), i (cap2 (n / 21 * 10 + 10))] else [i 0, i 0, i 0, i 0]
theorem tbox_4 (n : Int) : ∃ a b c d : Int, tbox n = [i a, i b, i c, i d] := by
  unfold tbox; split <;> exact ⟨_, _, _, _, rfl⟩
def isP (x y : Int) : Bool := inR x 0 200 && inR y 0 200
theorem isP_eq (x y : Int) : M_IsPoint x y = isP x y := by
  simp [M_IsPoint, isP, inR]
  all_goals omega
def wTile (x y : Int) : Int := if isP x y = true then y / 10 * 21 + x / 10 else -1
end Go.Eng
namespace Go.Eng
open Go Go.Proofs Go.RowKit
set_option linter.unusedSimpArgs false
set_option linter.unusedVariables false
set_option maxRecDepth 100000
set_option maxHeartbeats 4000000

/-! what draws are drawn from: the cursor's functions, walked -/
def Cu (w : World) (b : Nat) (sl : Value) (n h : Int) : Prop := ∃ ty, w.heap[b]? = some (.cells #[sl, .int .i64 n, .int .i64 h] ty (0, 0))
def Kw (b : Nat) (w w' : World) : Prop := w'.os = w.os ∧ w'.tape = w.tape ∧ w'.output = w.output ∧ w'.heap.size = w.heap.size ∧ ∀ k, k ≠ b → w'.heap[k]? = w.heap[k]?
theorem Kw.refl {b : Nat} {w : World} : Kw b w w := ⟨rfl, rfl, rfl, rfl, fun _ _ => rfl⟩
theorem Kw.trans {b : Nat} {w w' w'' : World} (h : Kw b w w') (h' : Kw b w' w'') : Kw b w w'' := ⟨h'.1.trans h.1, h'.2.1.trans h.2.1, h'.2.2.1.trans h.2.2.1, h'.2.2.2.1.trans h.2.2.2.1, fun k hk => (h'.2.2.2.2 k hk).trans (h.2.2.2.2 k hk)⟩
theorem Kw.set {b o : Nat} {w : World} {v : Value} : Kw b w (w.setCell ⟨b, o, none⟩ v) := ⟨rfl, rfl, rfl, by simp [World.setCell], fun k hk => by simp [World.setCell, Array.getElem?_modify]; intro h; exact absurd h.symm hk⟩
theorem Kw.drew {b : Nat} {w : World} : Kw b w w.drew := ⟨rfl, rfl, rfl, rfl, fun _ _ => rfl⟩
theorem Cu.c0 {w : World} {b : Nat} {sl : Value} {n h : Int} (H : Cu w b sl n h) : w.cell? ⟨b, 0, none⟩ = some sl := by obtain ⟨ty, h⟩ := H; simp [World.cell?, h]
theorem Cu.c1 {w : World} {b : Nat} {sl : Value} {n h : Int} (H : Cu w b sl n h) : w.cell? ⟨b, 1, none⟩ = some (.int .i64 n) := by obtain ⟨ty, h⟩ := H; simp [World.cell?, h]
theorem Cu.c2 {w : World} {b : Nat} {sl : Value} {n h : Int} (H : Cu w b sl n h) : w.cell? ⟨b, 2, none⟩ = some (.int .i64 h) := by obtain ⟨ty, h⟩ := H; simp [World.cell?, h]
theorem Cu.fz {w : World} {b o : Nat} {sl : Value} {n h : Int} (H : Cu w b sl n h) : w.frozen? ⟨b, o, none⟩ = false := by obtain ⟨ty, h⟩ := H; simp [World.frozen?, h]
theorem Cu.s2 {w : World} {b : Nat} {sl : Value} {n h x : Int} (H : Cu w b sl n h) : Cu (w.setCell ⟨b, 2, none⟩ (.int .i64 x)) b sl n x := by obtain ⟨ty, h⟩ := H; exact ⟨ty, by simp [World.setCell, Array.getElem?_modify, h]⟩
theorem Cu.s1 {w : World} {b : Nat} {sl : Value} {n h x : Int} (H : Cu w b sl n h) : Cu (w.setCell ⟨b, 1, none⟩ (.int .i64 x)) b sl x h := by obtain ⟨ty, h⟩ := H; exact ⟨ty, by simp [World.setCell, Array.getElem?_modify, h]⟩
theorem Cu.dr {w : World} {b : Nat} {sl : Value} {n h : Int} (H : Cu w b sl n h) : Cu w.drew b sl n h := H
theorem Cu.drN {w : World} {b : Nat} {sl : Value} {n h : Int} (H : Cu w b sl n h) (q : Nat) : Cu (w.drewN q) b sl n h := H
theorem Kw.drN {b : Nat} {w w' : World} (H : Kw b w w') (q : Nat) : Kw b w (w'.drewN q) := H
theorem and255 (x : Int) : 0 ≤ bits .and .i64 x 255 ∧ bits .and .i64 x 255 ≤ 255 := by
  have h : ((BitVec.ofInt 64 x &&& BitVec.ofInt 64 255).toNat) ≤ 255 := by
    rw [BitVec.toNat_and]; exact Nat.and_le_right
  have e : bits .and .i64 x 255 = IntKind.i64.wrap ((BitVec.ofInt 64 x &&& BitVec.ofInt 64 255).toNat : Int) := rfl
  rw [e, IntKind.wrap_i64]
  omega
theorem u8_rep {w : World} : ∀ {els : List (List PV)} {xs : List Value} {G : Foot}, curU8 els = true → RepL w els.flatten xs G → ∀ k, k < els.length → ∃ x, xs[k]? = some (.int .u8 x)
  | [], _, _, _, _, k, hk => by simp at hk
  | e :: r, xs, G, hc, h, k, hk => by
    match e, hc with
    | [.int .u8 n], hc =>
      obtain ⟨x, xs', F, G', rfl, rfl, hx, hr⟩ := RepL.cons_inv (v := .int .u8 n) (vs := r.flatten) h
      obtain ⟨rfl, rfl⟩ := hx.int_inv
      cases k with
      | zero => exact ⟨n, rfl⟩
      | succ k => exact u8_rep (els := r) hc hr k (by simpa using hk)
theorem cur_row {w : World} {nl : Bool} {els : List (List PV)} {sl : Value} {F : Foot} (h : Rep w (.lst 1 nl els) sl F) (hc : curEls els = true) :
    ∃ p l c, sl = .slice p l c ∧ l ≤ 9223372036854775807 ∧ ∀ k, k < l → ∃ a x, p = some a ∧ a.spot = none ∧ w.cell? ⟨a.block, a.off + k, none⟩ = some (.int .u8 x) ∧ ∃ g ∈ F, g.1 = a.block := by
  unfold curEls at hc
  simp only [Bool.and_eq_true, decide_eq_true_eq] at hc
  cases h with
  | nil => exact ⟨_, _, _, rfl, by omega, fun k hk => by omega⟩
  | emp => exact ⟨_, _, _, rfl, by omega, fun k hk => by omega⟩
  | lst hdr hcc hu ho hm hL =>
    refine ⟨_, _, _, rfl, hc.2, fun k hk => ?_⟩
    obtain ⟨x, hx⟩ := u8_rep hc.1 hL k hk
    have := hm k _ hx
    rw [addr_add_plain hdr.1] at this
    exact ⟨_, x, rfl, hdr.1, this, _, List.mem_cons_self .., rfl⟩
theorem cur_end {w w' : World} {b : Nat} {sl : Value} {k h x : Int} {nl : Bool} {els : List (List PV)} {F1 : Foot} (K : Kw b w w') (H : Cu w' b sl k h) (hk : 0 ≤ k) (hce : curEls els = true) (hrep : Rep w (.lst 1 nl els) sl F1)
    (hF1 : ∀ g ∈ F1, g.1 < w.heap.size ∧ g.1 ≠ b) (hx : 0 ≤ x ∧ x ≤ 255) :
    (∃ F1', CurAt w' (.pointer (some ⟨b, 0, none⟩)) b F1' ∧ ∀ g ∈ F1', ∃ g' ∈ F1, g'.1 = g.1 ∧ g.2 ≤ g'.2) ∧ RPost w w' [] false (fun v => ∃ x, v = i x ∧ 0 ≤ x ∧ x ≤ 255) [b] (.returned (.int .i64 x)) := by
  obtain ⟨ty, hb⟩ := H
  have hkeep : Keeps w w' F1 := fun e he => by
    have hne := (hF1 e he).2
    have he' := K.2.2.2.2 _ hne
    exact ⟨fun o _ => by unfold World.cell?; simp only; rw [he'], fun arr ty fr hh => ⟨arr, fr, by rw [he']; exact hh, rfl⟩⟩
  refine ⟨⟨F1, ⟨sl, k, h, ty, nl, els, rfl, hb, hk, hce, hrep.keep hkeep⟩, fun g hg => ⟨g, hg, rfl, Nat.le_refl _⟩⟩, _, [], i x, rfl, ⟨x, rfl, hx⟩, .int _ _, ⟨K.1, K.2.1, K.2.2.1, by rw [K.2.2.2.1]; exact Nat.le_refl _, fun j _ hj => K.2.2.2.2 j (by simpa using hj)⟩, by simp, by simp⟩
theorem f52 : FnR Tryd.prog 52 true false [] (fun v => ∃ x : Int, v = i x ∧ (0 ≤ x ∧ x ≤ 255)) := by
  refine ⟨by kernel_rfl, fun w xs Fs hi hr hlt => ?_⟩
  obtain ⟨rfl, rfl⟩ := hr.nil_inv
  simp only [if_true]
  rintro x0 b F1 hg ⟨sl, n, h, ty, nl, els, rfl, hb, hn0, hce, hrep⟩ hbs hF1 hFs
  have H : Cu w b sl n h := ⟨ty, hb⟩
  have c2 := H.c2
  have fz := H.fz (o := 2)
  go_enter Tryd.func52, Tryd.ntmps52
  go_wp
  have H1 := H.s2 (x := wrap64 (wrap64 (h * 6364136223846793005) + 1442695040888963407))
  have K1 : Kw b w (w.setCell ⟨b, 2, none⟩ (.int .i64 (wrap64 (wrap64 (h * 6364136223846793005) + 1442695040888963407)))) := Kw.set
  generalize hh : wrap64 (wrap64 (h * 6364136223846793005) + 1442695040888963407) = h2 at *
  generalize w.setCell ⟨b, 2, none⟩ (.int .i64 h2) = w1 at *
  clear c2 fz hb H
  have d2 := H1.c2
  go_quiet (fail)
  have H2 := H1.drN nq
  have K2 := K1.drN nq
  have hx := and255 (bits .xor .i64 (h2 / 8589934592) (h2 / 140737488355328))
  generalize bits .and .i64 (bits .xor .i64 (h2 / 8589934592) (h2 / 140737488355328)) 255 = x at *
  generalize w1.drewN nq = w2 at *
  clear H1 K1 d2
  have e1 := H2.c1
  have e0 := H2.c0
  obtain ⟨p, l, cc, rfl, hl, hrow⟩ := cur_row hrep hce
  obtain ⟨k, rfl⟩ : ∃ k : Nat, n = k := ⟨n.toNat, by omega⟩
  go_wp
  go_quiet (fail)
  have H3 := H2.drN nq
  have K3 := K2.drN nq
  generalize w2.drewN nq = w3 at *
  clear H2 K2 e0 e1
  have e1 := H3.c1
  have e0 := H3.c0
  have fz := H3.fz (o := 1)
  by_cases hkl : k < l
  · obtain ⟨pa, y, rfl, hsp, hcell, gg, hg1, hg2⟩ := hrow k hkl
    have hne : pa.block ≠ b := by rw [← hg2]; exact (hF1 gg hg1).2
    have hc3 : w3.cell? ⟨pa.block, pa.off + k, none⟩ = some (.int .u8 y) := by
      rw [← hcell]; unfold World.cell?; simp only; rw [K3.2.2.2.2 _ hne]
    obtain ⟨ab, ao, as'⟩ := pa
    simp only at hsp hc3 hne
    subst hsp
    simp only [hkl, decide_true]
    go_wp
    go_quiet (fail)
    have H4 := H3.drN nq
    have K4 := K3.drN nq
    have hx := and255 (wrap64 (x + wrap64 y))
    generalize bits .and .i64 (wrap64 (x + wrap64 y)) 255 = z at *
    generalize w3.drewN nq = w4 at *
    clear H3 K3 e0 e1 fz
    have e1 := H4.c1
    have fz := H4.fz (o := 1)
    have hw0 : 0 ≤ wrap64 ((k : Int) + 1) := by unfold wrap64; omega
    clear hl hkl hrow hcell hc3 hne hg1 hg2 hn0
    generalize (k : Int) = kk at *
    go_wp
    go_ret
    exact cur_end (K4.trans Kw.set) H4.s1 hw0 hce hrep hF1 hx
  · simp only [hkl, decide_false]
    go_wp
    go_ret
    exact cur_end K3 H3 (by omega) hce hrep hF1 hx
theorem new_end {w : World} {sl : Value} {h : Int} {ty : Nat} {nl : Bool} {els : List (List PV)} {F1 : Foot} (hce : curEls els = true) (hrep : Rep w (.lst 1 nl els) sl F1) (hF1 : ∀ g ∈ F1 ++ [], g.1 < w.heap.size) :
    ∃ x b F1', Ending.returned (.pointer (some ⟨w.heap.size, 0, none⟩)) = .returned x ∧ CurAt (w.alloc (.cells #[sl, .int .i64 0, .int .i64 h] ty)) x b F1' ∧ w.heap.size ≤ b ∧ b < (w.alloc (.cells #[sl, .int .i64 0, .int .i64 h] ty)).heap.size ∧
      (∀ g ∈ F1', ∃ g' ∈ F1 ++ [], g'.1 = g.1 ∧ g.2 ≤ g'.2) ∧ Below w.heap.size w (w.alloc (.cells #[sl, .int .i64 0, .int .i64 h] ty)) := by
  have hb : Below w.heap.size w (w.alloc (.cells #[sl, .int .i64 0, .int .i64 h] ty)) :=
    ⟨rfl, rfl, rfl, by rw [alloc_size]; omega, fun k hk => alloc_blocks w _ k hk⟩
  have hkeep : Keeps w (w.alloc (.cells #[sl, .int .i64 0, .int .i64 h] ty)) F1 := fun e he => by
    have he' := hb.block e.1 (hF1 e (by simpa using he))
    exact ⟨fun o _ => by unfold World.cell?; simp only; rw [he'], fun arr ty fr hh => ⟨arr, fr, by rw [he']; exact hh, rfl⟩⟩
  exact ⟨_, w.heap.size, F1, rfl, ⟨sl, 0, h, ty, nl, els, rfl, alloc_new w _, by omega, hce, hrep.keep hkeep⟩, Nat.le_refl _, by rw [alloc_size]; omega, fun g hg => ⟨g, by simpa using hg, rfl, Nat.le_refl _⟩, hb⟩
theorem f23 (nl : Bool) (els : List (List PV)) (hce : curEls els = true) : FnN Tryd.prog 23 [.lst 1 nl els] := by
  refine ⟨by kernel_rfl, fun w xs Fs hi hr hlt => ?_⟩
  obtain ⟨sl, xs', F1, F2, rfl, rfl, hrep, hr'⟩ := RepL.cons_inv hr
  obtain ⟨rfl, rfl⟩ := hr'.nil_inv
  obtain ⟨p, l, cc, rfl, hl, hrow⟩ := cur_row hrep hce
  go_enter Tryd.func23, Tryd.ntmps23
  go_wp
  go_loop [3, 4] (fun h n => ∃ (k : Nat) (x : Int), k ≤ l ∧ n = .int .i64 k ∧ h = .int .i64 x) (fun _ n => l - (intOf n).toNat)
  case atStart => exact ⟨0, _, Nat.zero_le _, rfl, rfl⟩
  case round =>
    obtain ⟨k, x, hk, rfl, rfl⟩ := hrel
    have hcell : k < l → ∃ a y, p = some a ∧ a.spot = none ∧ w.cell? ⟨a.block, a.off + k, none⟩ = some (.int .u8 y) := fun hk => by obtain ⟨a, y, h1, h2, h3, _⟩ := hrow k hk; exact ⟨a, y, h1, h2, h3⟩
    have hw : k < l → wrap64 ((k : Int) + 1) = ((k + 1 : Nat) : Int) := fun hk => by unfold wrap64; omega
    by_cases hkl : k < l
    · obtain ⟨⟨ab, ao, asp⟩, y, rfl, hsp, hc3⟩ := hcell hkl
      simp only at hsp hc3
      subst hsp
      have hw := hw hkl
      by_cases h4 : k < 4000
      · clear hcell hrow hl
        go_wp
        refine ⟨⟨k + 1, _, by omega, by simp, rfl⟩, ?_⟩
        simp [intOf]
        omega
      · clear hcell hrow hl
        go_wp
        go_ret
        exact new_end hce hrep hlt
    · clear hcell hrow hl
      go_wp
      go_ret
      exact new_end hce hrep hlt
theorem f39 (n : Int) (hn : n ≤ 16777215) : FnR Tryd.prog 39 true false [i n] (fun v => ∃ x : Int, v = i x ∧ (0 ≤ x ∧ (0 < n → x < n))) := by
  refine FnR.by_sxC hX (by kernel_rfl) c39 rfl rfl rfl (fun _ v => by rintro ⟨x, rfl, _⟩; rfl) ?_
  intro cs hcs
  simp [i39, sxa, isPtrN, PV.pcs, elAt, setEl, inAt, elIn, setIn, isLst, cellsOf, Ex.ok, Ex.val, Opd.val, POp.dst, bin_int, binOK_int, bin_str, binOK_str, resOK, resV, RB.val, sub, putc, scB, scL, oneB, conf, Ex.val.eqP, Ex.val.eqL, negV, mxV, mnV, ← wr_eq, wr_zero, wr_one, wr_m1, bst_lst, byteC, partsOK, putAll, appV, nilV, slV, sslV, optB, optNum, and_assoc, exists_and_left, exists_eq_left']
  refine CondS_d (fun h => ?_) (fun h => ?_)
  · repeat' (first | intro _ | (simp [sxa, isPtrN, PV.pcs, elAt, setEl, inAt, elIn, setIn, isLst, cellsOf, Ex.ok, Ex.val, Opd.val, POp.dst, bin_int, binOK_int, bin_str, binOK_str, resOK, resV, RB.val, sub, putc, scB, scL, oneB, conf, Ex.val.eqP, Ex.val.eqL, negV, mxV, mnV, ← wr_eq, wr_zero, wr_one, wr_m1, bst_lst, byteC, partsOK, putAll, appV, nilV, slV, sslV, optB, optNum, and_assoc, exists_and_left, exists_eq_left', *]) | refine CondS_d (fun h => ?_) (fun h => ?_) | refine CondS_b (fun h => ?_) (fun h => ?_) | refine GrdS_d (fun h => ?_) (fun h => ?_) | refine GrdS_b (fun h => ?_) (fun h => ?_) | refine OkS_i (by omega) ?_ | fail)
  simp [sxa, isPtrN, PV.pcs, elAt, setEl, inAt, elIn, setIn, isLst, cellsOf, Ex.ok, Ex.val, Opd.val, POp.dst, bin_int, binOK_int, bin_str, binOK_str, resOK, resV, RB.val, sub, putc, scB, scL, oneB, conf, Ex.val.eqP, Ex.val.eqL, negV, mxV, mnV, ← wr_eq, wr_zero, wr_one, wr_m1, bst_lst, byteC, partsOK, putAll, appV, nilV, slV, sslV, optB, optNum, and_assoc, exists_and_left, exists_eq_left']
  refine CondS_d (fun h2 => ?_) (fun h2 => ?_)
  · repeat' (first | intro _ | (simp [sxa, isPtrN, PV.pcs, elAt, setEl, inAt, elIn, setIn, isLst, cellsOf, Ex.ok, Ex.val, Opd.val, POp.dst, bin_int, binOK_int, bin_str, binOK_str, resOK, resV, RB.val, sub, putc, scB, scL, oneB, conf, Ex.val.eqP, Ex.val.eqL, negV, mxV, mnV, ← wr_eq, wr_zero, wr_one, wr_m1, bst_lst, byteC, partsOK, putAll, appV, nilV, slV, sslV, optB, optNum, and_assoc, exists_and_left, exists_eq_left', *]) | refine ⟨by assumption, CopC_i (f52) (fun _ _ => by first | exact ⟨fun _ => rfl, fun h => by cases h⟩ | exact ⟨fun h => by cases h, fun _ => ⟨_, rfl⟩⟩ | exact ⟨fun h => by cases h, fun h => by cases h⟩) (fun x cs hx hcs => ?_)⟩ | refine CopC_i (f52) (fun _ _ => by first | exact ⟨fun _ => rfl, fun h => by cases h⟩ | exact ⟨fun h => by cases h, fun _ => ⟨_, rfl⟩⟩ | exact ⟨fun h => by cases h, fun h => by cases h⟩) (fun x cs hx hcs => ?_) | refine CondS_d (fun h => ?_) (fun h => ?_) | refine CondS_b (fun h => ?_) (fun h => ?_) | refine GrdS_d (fun h => ?_) (fun h => ?_) | refine GrdS_b (fun h => ?_) (fun h => ?_) | refine OkS_i (by omega) ?_ | fail)
    rw [Int.tmod_eq_emod_of_nonneg (by omega)]
    exact ⟨Int.emod_nonneg _ (by omega), fun _ => Int.emod_lt_of_pos _ (by omega)⟩
  · repeat' (first | intro _ | (simp [sxa, isPtrN, PV.pcs, elAt, setEl, inAt, elIn, setIn, isLst, cellsOf, Ex.ok, Ex.val, Opd.val, POp.dst, bin_int, binOK_int, bin_str, binOK_str, resOK, resV, RB.val, sub, putc, scB, scL, oneB, conf, Ex.val.eqP, Ex.val.eqL, negV, mxV, mnV, ← wr_eq, wr_zero, wr_one, wr_m1, bst_lst, byteC, partsOK, putAll, appV, nilV, slV, sslV, optB, optNum, and_assoc, exists_and_left, exists_eq_left', *]) | refine ⟨by assumption, CopC_i (f52) (fun _ _ => by first | exact ⟨fun _ => rfl, fun h => by cases h⟩ | exact ⟨fun h => by cases h, fun _ => ⟨_, rfl⟩⟩ | exact ⟨fun h => by cases h, fun h => by cases h⟩) (fun x cs hx hcs => ?_)⟩ | refine CopC_i (f52) (fun _ _ => by first | exact ⟨fun _ => rfl, fun h => by cases h⟩ | exact ⟨fun h => by cases h, fun _ => ⟨_, rfl⟩⟩ | exact ⟨fun h => by cases h, fun h => by cases h⟩) (fun x cs hx hcs => ?_) | refine CondS_d (fun h => ?_) (fun h => ?_) | refine CondS_b (fun h => ?_) (fun h => ?_) | refine GrdS_d (fun h => ?_) (fun h => ?_) | refine GrdS_b (fun h => ?_) (fun h => ?_) | refine OkS_i (by omega) ?_ | fail)
    rename_i _ _ x0 _ g0 _ x1 _ g1 _
    rw [wr_in (n := x0 * 65536) (by omega) (by omega), wr_in (n := x1 * 256) (by omega) (by omega), wr_in (n := x0 * 65536 + x1 * 256) (by omega) (by omega), wr_in (by omega) (by omega), Int.tmod_eq_emod_of_nonneg (by omega)]
    exact ⟨Int.emod_nonneg _ (by omega), fun _ => Int.emod_lt_of_pos _ (by omega)⟩
theorem row_ints {w : World} : ∀ {ns : List Int} {xs : List Value} {G : Foot}, RepL w (ns.map fun m => [i m]).flatten xs G → ∀ (k : Nat) x, ns[k]? = some x → xs[k]? = some (Value.int .i64 x)
  | [], _, _, _, k, x, hk => by simp at hk
  | e :: r, xs, G, h, k, x, hk => by
    obtain ⟨y, xs', F, G', rfl, rfl, hx, hr⟩ := RepL.cons_inv (v := i e) (vs := (r.map fun m => [i m]).flatten) h
    obtain ⟨rfl, rfl⟩ := hx.int_inv
    cases k with
    | zero => simp at hk; subst hk; rfl
    | succ k => exact row_ints (ns := r) hr k x (by simpa using hk)
theorem f28 (ns : List Int) (nl : Bool) (h0 : 0 < ns.length) (h1 : ns.length ≤ 16777215) : FnR Tryd.prog 28 true false [.lst 1 nl (ns.map fun m => [i m])] (fun v => ∃ x : Int, v = i x ∧ x ∈ ns) := by
  refine ⟨by kernel_rfl, fun w xs Fs hi hr hlt => ?_⟩
  obtain ⟨sl, xs', F0, F2, rfl, rfl, hrep, hr'⟩ := RepL.cons_inv hr
  obtain ⟨rfl, rfl⟩ := hr'.nil_inv
  simp only [if_true]
  rintro x0 b F1 hg hcur hbs hF1 hFs
  have hrow : ∃ a c, sl = .slice (some a) ns.length c ∧ a.spot = none ∧ (a.block ≠ b) ∧ a.block < w.heap.size ∧ ∀ (k : Nat) x, ns[k]? = some x → w.cell? ⟨a.block, a.off + k, none⟩ = some (.int .i64 x) := by
    have hel : (ns.map fun m => [i m]).length = ns.length := List.length_map ..
    generalize hE : ns.map (fun m => [i m]) = E at *
    cases hrep with
    | nil => simp at hel; omega
    | emp => simp at hel; omega
    | lst hdr hcc hu ho hm hL =>
      subst hE
      refine ⟨_, _, by rw [hel], hdr.1, hFs _ (List.mem_append_left _ (List.mem_cons_self ..)), hlt _ (List.mem_append_left _ (List.mem_cons_self ..)), fun k x hk => ?_⟩
      have := hm k _ (row_ints hL k x hk)
      rwa [addr_add_plain hdr.1] at this
  obtain ⟨⟨ab, ao, asp⟩, cc, rfl, hsp, hne, hab, hcell⟩ := hrow
  simp only at hsp hne hab hcell
  subst hsp
  have hC := (f39 (ns.length : Int) (by omega)).2 w [.int .i64 ns.length] [] hi (.cons (.int _ _) .nil) (by simp)
  simp only [if_true] at hC
  have hC := hC x0 b F1 hg hcur hbs hF1 (by simp)
  go_enter Tryd.func28, Tryd.ntmps28
  go_wp
  refine hC.mono ?_
  rintro e w1 ⟨hcu, v, F', res, rfl, ⟨y, rfl, hy0, hy1⟩, hrv, hfr, hF', _⟩
  obtain ⟨rfl, rfl⟩ := hrv.int_inv
  have hy1 := hy1 (by omega)
  obtain ⟨k, rfl⟩ : ∃ k : Nat, y = k := ⟨y.toNat, by omega⟩
  have hk : k < ns.length := by omega
  have hc : w1.cell? ⟨ab, ao + k, none⟩ = some (.int .i64 ns[k]) := by
    rw [← hcell k _ (List.getElem?_eq_getElem hk)]; unfold World.cell?; simp only; rw [hfr.2.2.2.2 _ hab (by simpa using hne)]
  dsimp only
  go_wp
  go_ret
  exact ⟨hcu, _, [], i ns[k], rfl, ⟨_, rfl, List.getElem_mem hk⟩, .int _ _, hfr, by simp, by simp⟩
theorem row_strs {w : World} : ∀ {ns : List ByteArray} {xs : List Value} {G : Foot}, RepL w (ns.map fun m => [.str m]).flatten xs G → ∀ (k : Nat) x, ns[k]? = some x → xs[k]? = some (Value.string x)
  | [], _, _, _, k, x, hk => by simp at hk
  | e :: r, xs, G, h, k, x, hk => by
    obtain ⟨y, xs', F, G', rfl, rfl, hx, hr⟩ := RepL.cons_inv (v := .str e) (vs := (r.map fun m => [PV.str m]).flatten) h
    obtain ⟨rfl, rfl⟩ := hx.str_inv
    cases k with
    | zero => simp at hk; subst hk; rfl
    | succ k => exact row_strs (ns := r) hr k x (by simpa using hk)
end Go.Eng
namespace Go.Eng
open Go Go.Proofs
set_option linter.unusedSimpArgs false
set_option linter.unusedVariables false
set_option maxRecDepth 20000
set_option maxHeartbeats 2000000

/-! bars: what is drawn, and the law -/
def l30L : List Int := [0, 1, 2, 4, 5, 9, 10, 19, 20, 49, 99, 1000, 1999, 123456, 1000000000, 1000000001, 499999999, 500000000, -5, 9223372036854775807]
def l30W : List Int := [1, 7, 40, 1000, 1001, 0]
def l30P : List Int := [1, 3, 25, 100, 100000, 100001, 0]
def p30 (x : Int) : Prop := x ∈ l30L
def p30W (x : Int) : Prop := x ∈ l30W
def p30P (x : Int) : Prop := x ∈ l30P
theorem f24 : FnR Tryd.prog 24 true false [] (fun v => ∃ x : Int, v = i x ∧ p30 x) := by
  have hc : FnR Tryd.prog 28 true false [.lst 1 false [[i 0], [i 1], [i 2], [i 4], [i 5], [i 9], [i 10], [i 19], [i 20], [i 49], [i 99], [i 1000], [i 1999], [i 123456], [i 1000000000], [i 1000000001], [i 499999999], [i 500000000], [i (-5)], [i 9223372036854775807]]] (fun v => ∃ x : Int, v = i x ∧ p30 x) := f28 l30L false (by decide) (by decide)
  refine FnR.by_sxC hX (by kernel_rfl) c24 rfl rfl rfl (fun _ v => by rintro ⟨x, rfl, _⟩; rfl) ?_
  intro cs hcs
  simp [i24, sxa, isPtrN, PV.pcs, elAt, setEl, inAt, elIn, setIn, isLst, cellsOf, Ex.ok, Ex.val, Opd.val, POp.dst, bin_int, binOK_int, bin_str, binOK_str, resOK, resV, RB.val, sub, putc, scB, scL, oneB, conf, Ex.val.eqP, Ex.val.eqL, negV, mxV, mnV, ← wr_eq, wr_zero, wr_one, wr_m1, bst_lst, byteC, partsOK, putAll, appV, nilV, slV, sslV, optB, optNum, and_assoc, exists_and_left, exists_eq_left']
  repeat' (first | intro _ | (simp [sxa, isPtrN, PV.pcs, elAt, setEl, inAt, elIn, setIn, isLst, cellsOf, Ex.ok, Ex.val, Opd.val, POp.dst, bin_int, binOK_int, bin_str, binOK_str, resOK, resV, RB.val, sub, putc, scB, scL, oneB, conf, Ex.val.eqP, Ex.val.eqL, negV, mxV, mnV, ← wr_eq, wr_zero, wr_one, wr_m1, bst_lst, byteC, partsOK, putAll, appV, nilV, slV, sslV, optB, optNum, and_assoc, exists_and_left, exists_eq_left', *]) | refine ⟨by assumption, CopC_i (hc) (fun _ _ => by first | exact ⟨fun _ => rfl, fun h => by cases h⟩ | exact ⟨fun h => by cases h, fun _ => ⟨_, rfl⟩⟩ | exact ⟨fun h => by cases h, fun h => by cases h⟩) (fun x cs hx hcs => ?_)⟩ | refine CopC_i (hc) (fun _ _ => by first | exact ⟨fun _ => rfl, fun h => by cases h⟩ | exact ⟨fun h => by cases h, fun _ => ⟨_, rfl⟩⟩ | exact ⟨fun h => by cases h, fun h => by cases h⟩) (fun x cs hx hcs => ?_) | refine CondS_d (fun h => ?_) (fun h => ?_) | refine CondS_b (fun h => ?_) (fun h => ?_) | refine GrdS_d (fun h => ?_) (fun h => ?_) | refine GrdS_b (fun h => ?_) (fun h => ?_) | refine OkS_i (by omega) ?_ | fail)
theorem f6 (nl : Bool) (els : List (List PV)) (hce : curEls els = true) : FnR Tryd.prog 6 false false [.lst 1 nl els] (fun v => ∃ x : Int, v = i x ∧ p30 x) := by
  have hc := f24
  refine FnR.by_sx hX (by kernel_rfl) c6 rfl (by rfl) ?_
  simp [i6, sxa, isPtrN, PV.pcs, elAt, setEl, inAt, elIn, setIn, isLst, cellsOf, Ex.ok, Ex.val, Opd.val, POp.dst, bin_int, binOK_int, bin_str, binOK_str, resOK, resV, RB.val, sub, putc, scB, scL, oneB, conf, Ex.val.eqP, Ex.val.eqL, negV, mxV, mnV, ← wr_eq, wr_zero, wr_one, wr_m1, bst_lst, byteC, partsOK, putAll, appV, nilV, slV, sslV, optB, optNum, and_assoc, exists_and_left, exists_eq_left']
  repeat' (first | intro _ | (simp [sxa, isPtrN, PV.pcs, elAt, setEl, inAt, elIn, setIn, isLst, cellsOf, Ex.ok, Ex.val, Opd.val, POp.dst, bin_int, binOK_int, bin_str, binOK_str, resOK, resV, RB.val, sub, putc, scB, scL, oneB, conf, Ex.val.eqP, Ex.val.eqL, negV, mxV, mnV, ← wr_eq, wr_zero, wr_one, wr_m1, bst_lst, byteC, partsOK, putAll, appV, nilV, slV, sslV, optB, optNum, and_assoc, exists_and_left, exists_eq_left', *]) | refine ⟨by assumption, CopC_i (hc) (fun _ _ => by first | exact ⟨fun _ => rfl, fun h => by cases h⟩ | exact ⟨fun h => by cases h, fun _ => ⟨_, rfl⟩⟩ | exact ⟨fun h => by cases h, fun h => by cases h⟩) (fun x cs hx hcs => ?_)⟩ | refine CopN_i (f23 nl els hce) (fun cs hcs => ?_) | refine CopC_i (hc) (fun _ _ => by first | exact ⟨fun _ => rfl, fun h => by cases h⟩ | exact ⟨fun h => by cases h, fun _ => ⟨_, rfl⟩⟩ | exact ⟨fun h => by cases h, fun h => by cases h⟩) (fun x cs hx hcs => ?_) | refine CondS_d (fun h => ?_) (fun h => ?_) | refine CondS_b (fun h => ?_) (fun h => ?_) | refine GrdS_d (fun h => ?_) (fun h => ?_) | refine GrdS_b (fun h => ?_) (fun h => ?_) | refine OkS_i (by omega) ?_ | fail)
theorem f11 (nl : Bool) (els : List (List PV)) (hce : curEls els = true) : FnR Tryd.prog 11 false false [.lst 1 nl els] (fun v => ∃ x : Int, v = i x ∧ p30 x) := by
  have hc := f6 nl els hce
  refine FnR.by_sx hX (by kernel_rfl) c11 rfl (by rfl) ?_
  simp [i11, sxa, isPtrN, PV.pcs, elAt, setEl, inAt, elIn, setIn, isLst, cellsOf, Ex.ok, Ex.val, Opd.val, POp.dst, bin_int, binOK_int, bin_str, binOK_str, resOK, resV, RB.val, sub, putc, scB, scL, oneB, conf, Ex.val.eqP, Ex.val.eqL, negV, mxV, mnV, ← wr_eq, wr_zero, wr_one, wr_m1, bst_lst, byteC, partsOK, putAll, appV, nilV, slV, sslV, optB, optNum, and_assoc, exists_and_left, exists_eq_left']
  repeat' (first | intro _ | (simp [sxa, isPtrN, PV.pcs, elAt, setEl, inAt, elIn, setIn, isLst, cellsOf, Ex.ok, Ex.val, Opd.val, POp.dst, bin_int, binOK_int, bin_str, binOK_str, resOK, resV, RB.val, sub, putc, scB, scL, oneB, conf, Ex.val.eqP, Ex.val.eqL, negV, mxV, mnV, ← wr_eq, wr_zero, wr_one, wr_m1, bst_lst, byteC, partsOK, putAll, appV, nilV, slV, sslV, optB, optNum, and_assoc, exists_and_left, exists_eq_left', *]) | refine CopD_i (hc) (fun _ _ => by first | exact ⟨fun _ => rfl, fun h => by cases h⟩ | exact ⟨fun h => by cases h, fun _ => ⟨_, rfl⟩⟩ | exact ⟨fun h => by cases h, fun h => by cases h⟩) (fun x hx => ?_) | refine CondS_d (fun h => ?_) (fun h => ?_) | refine CondS_b (fun h => ?_) (fun h => ?_) | refine GrdS_d (fun h => ?_) (fun h => ?_) | refine GrdS_b (fun h => ?_) (fun h => ?_) | refine OkS_i (by omega) ?_ | fail)
theorem f9 (nl : Bool) (els : List (List PV)) (hce : curEls els = true) : FnR Tryd.prog 9 false false [.lst 1 nl els] (fun v => ∃ q : Int × Int, v = .tup [i q.1, i q.2] ∧ (p30W q.1 ∧ p30P q.2)) := by
  have hc : FnR Tryd.prog 28 true false [.lst 1 false [[i 1], [i 7], [i 40], [i 1000], [i 1001], [i 0]]] (fun v => ∃ x : Int, v = i x ∧ p30W x) := f28 l30W false (by decide) (by decide)
  have hd : FnR Tryd.prog 28 true false [.lst 1 false [[i 1], [i 3], [i 25], [i 100], [i 100000], [i 100001], [i 0]]] (fun v => ∃ x : Int, v = i x ∧ p30P x) := f28 l30P false (by decide) (by decide)
  refine FnR.by_sx hX (by kernel_rfl) c9 rfl (by rfl) ?_
  simp [i9, sxa, isPtrN, PV.pcs, elAt, setEl, inAt, elIn, setIn, isLst, cellsOf, Ex.ok, Ex.val, Opd.val, POp.dst, bin_int, binOK_int, bin_str, binOK_str, resOK, resV, RB.val, sub, putc, scB, scL, oneB, conf, Ex.val.eqP, Ex.val.eqL, negV, mxV, mnV, ← wr_eq, wr_zero, wr_one, wr_m1, bst_lst, byteC, partsOK, putAll, appV, nilV, slV, sslV, optB, optNum, and_assoc, exists_and_left, exists_eq_left']
  repeat' (first | intro _ | (simp [sxa, isPtrN, PV.pcs, elAt, setEl, inAt, elIn, setIn, isLst, cellsOf, Ex.ok, Ex.val, Opd.val, POp.dst, bin_int, binOK_int, bin_str, binOK_str, resOK, resV, RB.val, sub, putc, scB, scL, oneB, conf, Ex.val.eqP, Ex.val.eqL, negV, mxV, mnV, ← wr_eq, wr_zero, wr_one, wr_m1, bst_lst, byteC, partsOK, putAll, appV, nilV, slV, sslV, optB, optNum, and_assoc, exists_and_left, exists_eq_left', *]) | refine ⟨by assumption, CopC_i (hc) (fun _ _ => by first | exact ⟨fun _ => rfl, fun h => by cases h⟩ | exact ⟨fun h => by cases h, fun _ => ⟨_, rfl⟩⟩ | exact ⟨fun h => by cases h, fun h => by cases h⟩) (fun x cs hx hcs => ?_)⟩ | refine ⟨by assumption, CopC_i (hd) (fun _ _ => by first | exact ⟨fun _ => rfl, fun h => by cases h⟩ | exact ⟨fun h => by cases h, fun _ => ⟨_, rfl⟩⟩ | exact ⟨fun h => by cases h, fun h => by cases h⟩) (fun x cs hx hcs => ?_)⟩ | refine CopN_i (f23 nl els hce) (fun cs hcs => ?_) | refine CopC_i (hc) (fun _ _ => by first | exact ⟨fun _ => rfl, fun h => by cases h⟩ | exact ⟨fun h => by cases h, fun _ => ⟨_, rfl⟩⟩ | exact ⟨fun h => by cases h, fun h => by cases h⟩) (fun x cs hx hcs => ?_) | refine CopC_i (hd) (fun _ _ => by first | exact ⟨fun _ => rfl, fun h => by cases h⟩ | exact ⟨fun h => by cases h, fun _ => ⟨_, rfl⟩⟩ | exact ⟨fun h => by cases h, fun h => by cases h⟩) (fun x cs hx hcs => ?_) | refine CondS_d (fun h => ?_) (fun h => ?_) | refine CondS_b (fun h => ?_) (fun h => ?_) | refine GrdS_d (fun h => ?_) (fun h => ?_) | refine GrdS_b (fun h => ?_) (fun h => ?_) | refine OkS_i (by omega) ?_ | fail)
theorem f5 (nl : Bool) (els : List (List PV)) : Fn Tryd.prog 5 false [.lst 1 nl els] (.bool (decide ((1048576 : Int) < els.length))) := by
  refine Fn.by_sx hX (by kernel_rfl) c5 (by kernel_rfl) (by rfl) ?_
  simp [i5, sxa, isPtrN, PV.pcs, elAt, setEl, inAt, elIn, setIn, isLst, cellsOf, Ex.ok, Ex.val, Opd.val, POp.dst, bin_int, binOK_int, bin_str, binOK_str, resOK, resV, RB.val, sub, putc, scB, scL, oneB, conf, Ex.val.eqP, Ex.val.eqL, negV, mxV, mnV, ← wr_eq, wr_zero, wr_one, wr_m1, bst_lst, byteC, partsOK, putAll, appV, nilV, slV, sslV, optB, optNum, and_assoc, exists_and_left, exists_eq_left']
def P1 (n : Int) : Bool := decide ((1 ≤ n ∧ n ≤ 1000000000 → 1 ≤ rl n ∧ rl n ≤ n ∧ rl (rl n) = rl n ∧ 2 * n ≤ 5 * rl n) ∧ (¬ (1 ≤ n ∧ n ≤ 1000000000) → rl n = 0) ∧ (10 ≤ rl n → (rl n) % wBar (rl n) = 0 ∧ 0 < wBar (rl n) ∧ wBar (rl n) ≤ 5) ∧ -5 ≤ n ∧ n ≤ 9223372036854775807 ∧ rl n ≤ 1000000000)
theorem p1_all : l30L.all P1 = true := by decide +kernel
def P2 (a b : Int) : Bool := decide (1 ≤ a ∧ a ≤ 1000 ∧ 1 ≤ b ∧ b ≤ 100000 → 1 ≤ rl (a * b) ∧ rl (a * b) ≤ a * b ∧ rl (a * b) / b ≤ a ∧ rl (rl (a * b)) = rl (a * b) ∧ a * b ≤ 100000000)
theorem p2_all : (l30W.all fun a => l30P.all fun b => P2 a b) = true := by decide +kernel
def P3 (s : Int) : Bool := decide ((1 ≤ s ∧ s < 500000000 → s < ss s ∧ rl (ss s) = ss s ∧ rl (ss s - 1) ≤ s ∧ ss s ≤ 2000000000) ∧ (¬ (1 ≤ s ∧ s < 500000000) → ss s = 0))
theorem p3_all : l30L.all P3 = true := by decide +kernel
end Go.Eng
namespace Go.Eng
open Go Go.Proofs
set_option linter.unusedSimpArgs false
set_option linter.unusedVariables false
set_option maxRecDepth 20000
set_option maxHeartbeats 4000000

theorem wText_nil (n : Int) (h1 : n ≤ 9223372036854775807) : (wText n = bs []) ↔ n < 1 := by
  unfold wText
  split
  · simp_all
  · rename_i h
    split
    · constructor
      · intro hh
        have := congrArg ByteArray.size hh
        rw [ByteArray.size_append] at this
        change _ + 1 = 0 at this
        omega
      · intro hh; omega
    · constructor
      · intro hh
        have := congrArg ByteArray.size hh
        rw [ByteArray.size_append] at this
        change _ + 2 = 0 at this
        omega
      · intro hh; omega
theorem f3 (nl : Bool) (els : List (List PV)) (hu : curU8 els = true) : Fn Tryd.prog 3 false [.lst 1 nl els] (.bool true) := by
  have hb := f5 nl els
  refine Fn.by_sx hX (by kernel_rfl) c3 (by kernel_rfl) (by rfl) ?_
  simp [i3, sxa, isPtrN, PV.pcs, elAt, setEl, inAt, elIn, setIn, isLst, cellsOf, Ex.ok, Ex.val, Opd.val, POp.dst, bin_int, binOK_int, bin_str, binOK_str, resOK, resV, RB.val, sub, putc, scB, scL, oneB, conf, Ex.val.eqP, Ex.val.eqL, negV, mxV, mnV, ← wr_eq, wr_zero, wr_one, wr_m1, bst_lst, byteC, partsOK, putAll, appV, nilV, slV, sslV, optB, optNum, and_assoc, exists_and_left, exists_eq_left']
  by_cases hbig : (1048576 : Int) < els.length
  · rw [decide_eq_true hbig] at hb
    repeat' (first | intro _ | (simp [sxa, isPtrN, PV.pcs, elAt, setEl, inAt, elIn, setIn, isLst, cellsOf, Ex.ok, Ex.val, Opd.val, POp.dst, bin_int, binOK_int, bin_str, binOK_str, resOK, resV, RB.val, sub, putc, scB, scL, oneB, conf, Ex.val.eqP, Ex.val.eqL, negV, mxV, mnV, ← wr_eq, wr_zero, wr_one, wr_m1, bst_lst, byteC, partsOK, putAll, appV, nilV, slV, sslV, optB, optNum, and_assoc, exists_and_left, exists_eq_left', *]) | refine CallS_i (hb) ?_ | refine CondS_d (fun h => ?_) (fun h => ?_) | refine CondS_b (fun h => ?_) (fun h => ?_) | refine GrdS_d (fun h => ?_) (fun h => ?_) | refine GrdS_b (fun h => ?_) (fun h => ?_) | refine OkS_i (by omega) ?_ | fail)
  rw [decide_eq_false hbig] at hb
  have hce : curEls els = true := by unfold curEls; rw [hu]; simp; omega
  repeat' (first | intro _ | (simp [sxa, isPtrN, PV.pcs, elAt, setEl, inAt, elIn, setIn, isLst, cellsOf, Ex.ok, Ex.val, Opd.val, POp.dst, bin_int, binOK_int, bin_str, binOK_str, resOK, resV, RB.val, sub, putc, scB, scL, oneB, conf, Ex.val.eqP, Ex.val.eqL, negV, mxV, mnV, ← wr_eq, wr_zero, wr_one, wr_m1, bst_lst, byteC, partsOK, putAll, appV, nilV, slV, sslV, optB, optNum, and_assoc, exists_and_left, exists_eq_left', *]) | refine CopD_i (f6 nl els hce) (fun _ _ => by first | exact ⟨fun _ => rfl, fun h => by cases h⟩ | exact ⟨fun h => by cases h, fun _ => ⟨_, rfl⟩⟩ | exact ⟨fun h => by cases h, fun h => by cases h⟩) (fun x hx => ?_) | refine CallS_i (hb) ?_ | refine CondS_d (fun h => ?_) (fun h => ?_) | refine CondS_b (fun h => ?_) (fun h => ?_) | refine GrdS_d (fun h => ?_) (fun h => ?_) | refine GrdS_b (fun h => ?_) (fun h => ?_) | refine OkS_i (by omega) ?_ | fail)
  have h1 : P1 x = true := List.all_eq_true.1 p1_all x hx
  simp only [P1, decide_eq_true_eq] at h1
  obtain ⟨h1, h2, h3, h4, h5, h6⟩ := h1
  have c7 := f7 x (by omega)
  have c13 := f13 x (by omega)
  have hwt := wText_nil x (by omega)
  obtain ⟨T, hT⟩ : ∃ T, wText x = T := ⟨_, rfl⟩
  rw [hT] at c13 hwt
  have c7' := f7 (rl x) (by omega)
  have c8 := f8 (rl x) (by omega)
  obtain ⟨r, hr⟩ : ∃ r, rl x = r := ⟨_, rfl⟩
  rw [hr] at c7 c7' c8 h1 h2 h3 h6
  obtain ⟨k, hk⟩ : ∃ k, wBar r = k := ⟨_, rfl⟩
  rw [hk] at c8 h3
  clear hT hr hk hx
  have hrem : 10 ≤ r → r.tmod k = 0 ∧ ¬ k = 0 := fun h => by
    rw [Int.tmod_eq_emod_of_nonneg (by omega)]
    have := h3 h
    omega
  obtain ⟨n, hn0⟩ : ∃ n, n = x := ⟨_, rfl⟩
  subst hn0
  by_cases hn : 1 ≤ n ∧ n ≤ 1000000000
  · obtain ⟨a1, a2, a3, a4⟩ := h1 hn
    rw [a3] at c7'
    obtain ⟨n1, n2⟩ := hn
    have m1 : ¬ r < 1 := by omega
    have m2 : ¬ n < r := by omega
    have m3 : wr .i64 (5 * r) = 5 * r := wr_in (by omega) (by omega)
    have m4 : wr .i64 (2 * n) = 2 * n := wr_in (by omega) (by omega)
    have m5 : ¬ 5 * r < 2 * n := by omega
    have m6 : ¬ n < 1 := by omega
    have m7 : ¬ T = bs [] := fun h => m6 (hwt.1 h)
    clear h1 h2 hwt
    by_cases hr10 : 10 ≤ r
    · obtain ⟨b1, b2⟩ := hrem hr10
      clear hrem h3 a3 a4
      repeat' (first | intro _ | (simp [sxa, isPtrN, PV.pcs, elAt, setEl, inAt, elIn, setIn, isLst, cellsOf, Ex.ok, Ex.val, Opd.val, POp.dst, bin_int, binOK_int, bin_str, binOK_str, resOK, resV, RB.val, sub, putc, scB, scL, oneB, conf, Ex.val.eqP, Ex.val.eqL, negV, mxV, mnV, ← wr_eq, wr_zero, wr_one, wr_m1, bst_lst, byteC, partsOK, putAll, appV, nilV, slV, sslV, optB, optNum, and_assoc, exists_and_left, exists_eq_left', *]) | refine CallS_i (c7) ?_ | refine CallS_i (c7') ?_ | refine CallS_i (c8) ?_ | refine CondS_d (fun h => ?_) (fun h => ?_) | refine CondS_b (fun h => ?_) (fun h => ?_) | refine GrdS_d (fun h => ?_) (fun h => ?_) | refine GrdS_b (fun h => ?_) (fun h => ?_) | refine OkS_i (by omega) ?_ | fail)
      repeat' (first | intro _ | (simp [sxa, isPtrN, PV.pcs, elAt, setEl, inAt, elIn, setIn, isLst, cellsOf, Ex.ok, Ex.val, Opd.val, POp.dst, bin_int, binOK_int, bin_str, binOK_str, resOK, resV, RB.val, sub, putc, scB, scL, oneB, conf, Ex.val.eqP, Ex.val.eqL, negV, mxV, mnV, ← wr_eq, wr_zero, wr_one, wr_m1, bst_lst, byteC, partsOK, putAll, appV, nilV, slV, sslV, optB, optNum, and_assoc, exists_and_left, exists_eq_left', *]) | refine CopD_i (f9 nl els hce) (fun _ _ => by first | exact ⟨fun _ => rfl, fun h => by cases h⟩ | exact ⟨fun h => by cases h, fun _ => ⟨_, rfl⟩⟩ | exact ⟨fun h => by cases h, fun h => by cases h⟩) (fun x hx => ?_) | refine CondS_d (fun h => ?_) (fun h => ?_) | refine CondS_b (fun h => ?_) (fun h => ?_) | refine GrdS_d (fun h => ?_) (fun h => ?_) | refine GrdS_b (fun h => ?_) (fun h => ?_) | refine OkS_i (by omega) ?_ | fail)
      obtain ⟨a, b⟩ := x
      obtain ⟨ha, hb2⟩ := hx
      have g := List.all_eq_true.1 (List.all_eq_true.1 p2_all a ha) b hb2
      simp only [P2, decide_eq_true_eq] at g
      have c10 := f10 a b
      clear ha hb2
      by_cases hab : 1 ≤ a ∧ a ≤ 1000 ∧ 1 ≤ b ∧ b ≤ 100000
      · obtain ⟨g1, g2, g3, g4, g5⟩ := g hab
        rw [if_pos hab] at c10
        have d7 := f7 (rl (a * b)) (by omega)
        rw [g4] at d7
        obtain ⟨m, hm⟩ : ∃ m, a * b = m := ⟨_, rfl⟩
        have hwm : wr .i64 (a * b) = m := by rw [hm]; exact wr_in (by omega) (by omega)
        rw [hm] at c10 d7 g1 g2 g3
        obtain ⟨M, hM⟩ : ∃ M, rl m = M := ⟨_, rfl⟩
        rw [hM] at c10 d7 g1 g2 g3
        have e1 : M.tdiv b = M / b := Int.tdiv_eq_ediv_of_nonneg (by omega)
        obtain ⟨u, hu2⟩ : ∃ u, M / b = u := ⟨_, rfl⟩
        have hu0 : 0 ≤ u := by rw [← hu2]; exact Int.ediv_nonneg (by omega) (by omega)
        rw [e1, hu2, wr_in (n := u) (by omega) (by omega)] at c10
        rw [hu2] at g3
        have k1 : 0 < M := by omega
        have k2 : ¬ a < u := by omega
        have k3 : ¬ m < M := by omega
        clear g g4 g5 hM hm hu2 e1
        repeat' (first | intro _ | (simp [sxa, isPtrN, PV.pcs, elAt, setEl, inAt, elIn, setIn, isLst, cellsOf, Ex.ok, Ex.val, Opd.val, POp.dst, bin_int, binOK_int, bin_str, binOK_str, resOK, resV, RB.val, sub, putc, scB, scL, oneB, conf, Ex.val.eqP, Ex.val.eqL, negV, mxV, mnV, ← wr_eq, wr_zero, wr_one, wr_m1, bst_lst, byteC, partsOK, putAll, appV, nilV, slV, sslV, optB, optNum, and_assoc, exists_and_left, exists_eq_left', *]) | refine CopD_i (f11 nl els hce) (fun _ _ => by first | exact ⟨fun _ => rfl, fun h => by cases h⟩ | exact ⟨fun h => by cases h, fun _ => ⟨_, rfl⟩⟩ | exact ⟨fun h => by cases h, fun h => by cases h⟩) (fun x hx => ?_) | refine CallS_i (c10) ?_ | refine CallS_i (d7) ?_ | refine CondS_d (fun h => ?_) (fun h => ?_) | refine CondS_b (fun h => ?_) (fun h => ?_) | refine GrdS_d (fun h => ?_) (fun h => ?_) | refine GrdS_b (fun h => ?_) (fun h => ?_) | refine OkS_i (by omega) ?_ | fail)
        have g := List.all_eq_true.1 p3_all x hx
        simp only [P3, decide_eq_true_eq] at g
        have hbd := List.all_eq_true.1 p1_all x hx
        simp only [P1, decide_eq_true_eq] at hbd
        have c12 := f12 x (by omega)
        clear hbd hx
        by_cases hy : 1 ≤ x ∧ x < 500000000
        · obtain ⟨s1, s2, s3, s4⟩ := g.1 hy
          have q7 := f7 (ss x) (by omega)
          have q8 := f7 (ss x - 1) (by omega)
          rw [s2] at q7
          obtain ⟨z, hz⟩ : ∃ z, ss x = z := ⟨_, rfl⟩
          rw [hz] at q7 q8 c12 s1 s3 s4
          obtain ⟨z2, hz2⟩ : ∃ z2, rl (z - 1) = z2 := ⟨_, rfl⟩
          rw [hz2] at q8 s3
          have j1 : ¬ z = 0 := by omega
          have j2 : ¬ x < 1 := by omega
          have j3 : ¬ 500000000 ≤ x := by omega
          have j4 : wr .i64 (z - 1) = z - 1 := wr_in (by omega) (by omega)
          clear g hz hz2 s2 s4 hy
          repeat' (first | intro _ | (simp [sxa, isPtrN, PV.pcs, elAt, setEl, inAt, elIn, setIn, isLst, cellsOf, Ex.ok, Ex.val, Opd.val, POp.dst, bin_int, binOK_int, bin_str, binOK_str, resOK, resV, RB.val, sub, putc, scB, scL, oneB, conf, Ex.val.eqP, Ex.val.eqL, negV, mxV, mnV, ← wr_eq, wr_zero, wr_one, wr_m1, bst_lst, byteC, partsOK, putAll, appV, nilV, slV, sslV, optB, optNum, and_assoc, exists_and_left, exists_eq_left', *]) | refine CallS_i (c12) ?_ | refine CallS_i (q7) ?_ | refine CallS_i (q8) ?_ | refine CallS_i (c13) ?_ | refine CondS_d (fun h => ?_) (fun h => ?_) | refine CondS_b (fun h => ?_) (fun h => ?_) | refine GrdS_d (fun h => ?_) (fun h => ?_) | refine GrdS_b (fun h => ?_) (fun h => ?_) | refine OkS_i (by omega) ?_ | fail)
          all_goals simp_all
        · have z0 := g.2 hy
          rw [z0] at c12
          clear g z0
          by_cases hy1 : x < 1
          · clear hy
            repeat' (first | intro _ | (simp [sxa, isPtrN, PV.pcs, elAt, setEl, inAt, elIn, setIn, isLst, cellsOf, Ex.ok, Ex.val, Opd.val, POp.dst, bin_int, binOK_int, bin_str, binOK_str, resOK, resV, RB.val, sub, putc, scB, scL, oneB, conf, Ex.val.eqP, Ex.val.eqL, negV, mxV, mnV, ← wr_eq, wr_zero, wr_one, wr_m1, bst_lst, byteC, partsOK, putAll, appV, nilV, slV, sslV, optB, optNum, and_assoc, exists_and_left, exists_eq_left', *]) | refine CallS_i (c12) ?_ | refine CallS_i (c13) ?_ | refine CondS_d (fun h => ?_) (fun h => ?_) | refine CondS_b (fun h => ?_) (fun h => ?_) | refine GrdS_d (fun h => ?_) (fun h => ?_) | refine GrdS_b (fun h => ?_) (fun h => ?_) | refine OkS_i (by omega) ?_ | fail)
            all_goals simp_all
          · have j3 : 500000000 ≤ x := by omega
            clear hy
            repeat' (first | intro _ | (simp [sxa, isPtrN, PV.pcs, elAt, setEl, inAt, elIn, setIn, isLst, cellsOf, Ex.ok, Ex.val, Opd.val, POp.dst, bin_int, binOK_int, bin_str, binOK_str, resOK, resV, RB.val, sub, putc, scB, scL, oneB, conf, Ex.val.eqP, Ex.val.eqL, negV, mxV, mnV, ← wr_eq, wr_zero, wr_one, wr_m1, bst_lst, byteC, partsOK, putAll, appV, nilV, slV, sslV, optB, optNum, and_assoc, exists_and_left, exists_eq_left', *]) | refine CallS_i (c12) ?_ | refine CallS_i (c13) ?_ | refine CondS_d (fun h => ?_) (fun h => ?_) | refine CondS_b (fun h => ?_) (fun h => ?_) | refine GrdS_d (fun h => ?_) (fun h => ?_) | refine GrdS_b (fun h => ?_) (fun h => ?_) | refine OkS_i (by omega) ?_ | fail)
            all_goals simp_all
      · rw [if_neg hab] at c10
        clear g
        repeat' (first | intro _ | (simp [sxa, isPtrN, PV.pcs, elAt, setEl, inAt, elIn, setIn, isLst, cellsOf, Ex.ok, Ex.val, Opd.val, POp.dst, bin_int, binOK_int, bin_str, binOK_str, resOK, resV, RB.val, sub, putc, scB, scL, oneB, conf, Ex.val.eqP, Ex.val.eqL, negV, mxV, mnV, ← wr_eq, wr_zero, wr_one, wr_m1, bst_lst, byteC, partsOK, putAll, appV, nilV, slV, sslV, optB, optNum, and_assoc, exists_and_left, exists_eq_left', *]) | refine CopD_i (f11 nl els hce) (fun _ _ => by first | exact ⟨fun _ => rfl, fun h => by cases h⟩ | exact ⟨fun h => by cases h, fun _ => ⟨_, rfl⟩⟩ | exact ⟨fun h => by cases h, fun h => by cases h⟩) (fun x hx => ?_) | refine CallS_i (c10) ?_ | refine CondS_d (fun h => ?_) (fun h => ?_) | refine CondS_b (fun h => ?_) (fun h => ?_) | refine GrdS_d (fun h => ?_) (fun h => ?_) | refine GrdS_b (fun h => ?_) (fun h => ?_) | refine OkS_i (by omega) ?_ | fail)
        have g := List.all_eq_true.1 p3_all x hx
        simp only [P3, decide_eq_true_eq] at g
        have hbd := List.all_eq_true.1 p1_all x hx
        simp only [P1, decide_eq_true_eq] at hbd
        have c12 := f12 x (by omega)
        clear hbd hx
        by_cases hy : 1 ≤ x ∧ x < 500000000
        · obtain ⟨s1, s2, s3, s4⟩ := g.1 hy
          have q7 := f7 (ss x) (by omega)
          have q8 := f7 (ss x - 1) (by omega)
          rw [s2] at q7
          obtain ⟨z, hz⟩ : ∃ z, ss x = z := ⟨_, rfl⟩
          rw [hz] at q7 q8 c12 s1 s3 s4
          obtain ⟨z2, hz2⟩ : ∃ z2, rl (z - 1) = z2 := ⟨_, rfl⟩
          rw [hz2] at q8 s3
          have j1 : ¬ z = 0 := by omega
          have j2 : ¬ x < 1 := by omega
          have j3 : ¬ 500000000 ≤ x := by omega
          have j4 : wr .i64 (z - 1) = z - 1 := wr_in (by omega) (by omega)
          clear g hz hz2 s2 s4 hy
          repeat' (first | intro _ | (simp [sxa, isPtrN, PV.pcs, elAt, setEl, inAt, elIn, setIn, isLst, cellsOf, Ex.ok, Ex.val, Opd.val, POp.dst, bin_int, binOK_int, bin_str, binOK_str, resOK, resV, RB.val, sub, putc, scB, scL, oneB, conf, Ex.val.eqP, Ex.val.eqL, negV, mxV, mnV, ← wr_eq, wr_zero, wr_one, wr_m1, bst_lst, byteC, partsOK, putAll, appV, nilV, slV, sslV, optB, optNum, and_assoc, exists_and_left, exists_eq_left', *]) | refine CallS_i (c12) ?_ | refine CallS_i (q7) ?_ | refine CallS_i (q8) ?_ | refine CallS_i (c13) ?_ | refine CondS_d (fun h => ?_) (fun h => ?_) | refine CondS_b (fun h => ?_) (fun h => ?_) | refine GrdS_d (fun h => ?_) (fun h => ?_) | refine GrdS_b (fun h => ?_) (fun h => ?_) | refine OkS_i (by omega) ?_ | fail)
          all_goals simp_all
        · have z0 := g.2 hy
          rw [z0] at c12
          clear g z0
          by_cases hy1 : x < 1
          · clear hy
            repeat' (first | intro _ | (simp [sxa, isPtrN, PV.pcs, elAt, setEl, inAt, elIn, setIn, isLst, cellsOf, Ex.ok, Ex.val, Opd.val, POp.dst, bin_int, binOK_int, bin_str, binOK_str, resOK, resV, RB.val, sub, putc, scB, scL, oneB, conf, Ex.val.eqP, Ex.val.eqL, negV, mxV, mnV, ← wr_eq, wr_zero, wr_one, wr_m1, bst_lst, byteC, partsOK, putAll, appV, nilV, slV, sslV, optB, optNum, and_assoc, exists_and_left, exists_eq_left', *]) | refine CallS_i (c12) ?_ | refine CallS_i (c13) ?_ | refine CondS_d (fun h => ?_) (fun h => ?_) | refine CondS_b (fun h => ?_) (fun h => ?_) | refine GrdS_d (fun h => ?_) (fun h => ?_) | refine GrdS_b (fun h => ?_) (fun h => ?_) | refine OkS_i (by omega) ?_ | fail)
            all_goals simp_all
          · have j3 : 500000000 ≤ x := by omega
            clear hy
            repeat' (first | intro _ | (simp [sxa, isPtrN, PV.pcs, elAt, setEl, inAt, elIn, setIn, isLst, cellsOf, Ex.ok, Ex.val, Opd.val, POp.dst, bin_int, binOK_int, bin_str, binOK_str, resOK, resV, RB.val, sub, putc, scB, scL, oneB, conf, Ex.val.eqP, Ex.val.eqL, negV, mxV, mnV, ← wr_eq, wr_zero, wr_one, wr_m1, bst_lst, byteC, partsOK, putAll, appV, nilV, slV, sslV, optB, optNum, and_assoc, exists_and_left, exists_eq_left', *]) | refine CallS_i (c12) ?_ | refine CallS_i (c13) ?_ | refine CondS_d (fun h => ?_) (fun h => ?_) | refine CondS_b (fun h => ?_) (fun h => ?_) | refine GrdS_d (fun h => ?_) (fun h => ?_) | refine GrdS_b (fun h => ?_) (fun h => ?_) | refine OkS_i (by omega) ?_ | fail)
            all_goals simp_all
    · clear hrem h3 a3 a4
      repeat' (first | intro _ | (simp [sxa, isPtrN, PV.pcs, elAt, setEl, inAt, elIn, setIn, isLst, cellsOf, Ex.ok, Ex.val, Opd.val, POp.dst, bin_int, binOK_int, bin_str, binOK_str, resOK, resV, RB.val, sub, putc, scB, scL, oneB, conf, Ex.val.eqP, Ex.val.eqL, negV, mxV, mnV, ← wr_eq, wr_zero, wr_one, wr_m1, bst_lst, byteC, partsOK, putAll, appV, nilV, slV, sslV, optB, optNum, and_assoc, exists_and_left, exists_eq_left', *]) | refine CallS_i (c7) ?_ | refine CallS_i (c7') ?_ | refine CallS_i (c8) ?_ | refine CondS_d (fun h => ?_) (fun h => ?_) | refine CondS_b (fun h => ?_) (fun h => ?_) | refine GrdS_d (fun h => ?_) (fun h => ?_) | refine GrdS_b (fun h => ?_) (fun h => ?_) | refine OkS_i (by omega) ?_ | fail)
      repeat' (first | intro _ | (simp [sxa, isPtrN, PV.pcs, elAt, setEl, inAt, elIn, setIn, isLst, cellsOf, Ex.ok, Ex.val, Opd.val, POp.dst, bin_int, binOK_int, bin_str, binOK_str, resOK, resV, RB.val, sub, putc, scB, scL, oneB, conf, Ex.val.eqP, Ex.val.eqL, negV, mxV, mnV, ← wr_eq, wr_zero, wr_one, wr_m1, bst_lst, byteC, partsOK, putAll, appV, nilV, slV, sslV, optB, optNum, and_assoc, exists_and_left, exists_eq_left', *]) | refine CopD_i (f9 nl els hce) (fun _ _ => by first | exact ⟨fun _ => rfl, fun h => by cases h⟩ | exact ⟨fun h => by cases h, fun _ => ⟨_, rfl⟩⟩ | exact ⟨fun h => by cases h, fun h => by cases h⟩) (fun x hx => ?_) | refine CondS_d (fun h => ?_) (fun h => ?_) | refine CondS_b (fun h => ?_) (fun h => ?_) | refine GrdS_d (fun h => ?_) (fun h => ?_) | refine GrdS_b (fun h => ?_) (fun h => ?_) | refine OkS_i (by omega) ?_ | fail)
      obtain ⟨a, b⟩ := x
      obtain ⟨ha, hb2⟩ := hx
      have g := List.all_eq_true.1 (List.all_eq_true.1 p2_all a ha) b hb2
      simp only [P2, decide_eq_true_eq] at g
      have c10 := f10 a b
      clear ha hb2
      by_cases hab : 1 ≤ a ∧ a ≤ 1000 ∧ 1 ≤ b ∧ b ≤ 100000
      · obtain ⟨g1, g2, g3, g4, g5⟩ := g hab
        rw [if_pos hab] at c10
        have d7 := f7 (rl (a * b)) (by omega)
        rw [g4] at d7
        obtain ⟨m, hm⟩ : ∃ m, a * b = m := ⟨_, rfl⟩
        have hwm : wr .i64 (a * b) = m := by rw [hm]; exact wr_in (by omega) (by omega)
        rw [hm] at c10 d7 g1 g2 g3
        obtain ⟨M, hM⟩ : ∃ M, rl m = M := ⟨_, rfl⟩
        rw [hM] at c10 d7 g1 g2 g3
        have e1 : M.tdiv b = M / b := Int.tdiv_eq_ediv_of_nonneg (by omega)
        obtain ⟨u, hu2⟩ : ∃ u, M / b = u := ⟨_, rfl⟩
        have hu0 : 0 ≤ u := by rw [← hu2]; exact Int.ediv_nonneg (by omega) (by omega)
        rw [e1, hu2, wr_in (n := u) (by omega) (by omega)] at c10
        rw [hu2] at g3
        have k1 : 0 < M := by omega
        have k2 : ¬ a < u := by omega
        have k3 : ¬ m < M := by omega
        clear g g4 g5 hM hm hu2 e1
        repeat' (first | intro _ | (simp [sxa, isPtrN, PV.pcs, elAt, setEl, inAt, elIn, setIn, isLst, cellsOf, Ex.ok, Ex.val, Opd.val, POp.dst, bin_int, binOK_int, bin_str, binOK_str, resOK, resV, RB.val, sub, putc, scB, scL, oneB, conf, Ex.val.eqP, Ex.val.eqL, negV, mxV, mnV, ← wr_eq, wr_zero, wr_one, wr_m1, bst_lst, byteC, partsOK, putAll, appV, nilV, slV, sslV, optB, optNum, and_assoc, exists_and_left, exists_eq_left', *]) | refine CopD_i (f11 nl els hce) (fun _ _ => by first | exact ⟨fun _ => rfl, fun h => by cases h⟩ | exact ⟨fun h => by cases h, fun _ => ⟨_, rfl⟩⟩ | exact ⟨fun h => by cases h, fun h => by cases h⟩) (fun x hx => ?_) | refine CallS_i (c10) ?_ | refine CallS_i (d7) ?_ | refine CondS_d (fun h => ?_) (fun h => ?_) | refine CondS_b (fun h => ?_) (fun h => ?_) | refine GrdS_d (fun h => ?_) (fun h => ?_) | refine GrdS_b (fun h => ?_) (fun h => ?_) | refine OkS_i (by omega) ?_ | fail)
        have g := List.all_eq_true.1 p3_all x hx
        simp only [P3, decide_eq_true_eq] at g
        have hbd := List.all_eq_true.1 p1_all x hx
        simp only [P1, decide_eq_true_eq] at hbd
        have c12 := f12 x (by omega)
        clear hbd hx
        by_cases hy : 1 ≤ x ∧ x < 500000000
        · obtain ⟨s1, s2, s3, s4⟩ := g.1 hy
          have q7 := f7 (ss x) (by omega)
          have q8 := f7 (ss x - 1) (by omega)
          rw [s2] at q7
          obtain ⟨z, hz⟩ : ∃ z, ss x = z := ⟨_, rfl⟩
          rw [hz] at q7 q8 c12 s1 s3 s4
          obtain ⟨z2, hz2⟩ : ∃ z2, rl (z - 1) = z2 := ⟨_, rfl⟩
          rw [hz2] at q8 s3
          have j1 : ¬ z = 0 := by omega
          have j2 : ¬ x < 1 := by omega
          have j3 : ¬ 500000000 ≤ x := by omega
          have j4 : wr .i64 (z - 1) = z - 1 := wr_in (by omega) (by omega)
          clear g hz hz2 s2 s4 hy
          repeat' (first | intro _ | (simp [sxa, isPtrN, PV.pcs, elAt, setEl, inAt, elIn, setIn, isLst, cellsOf, Ex.ok, Ex.val, Opd.val, POp.dst, bin_int, binOK_int, bin_str, binOK_str, resOK, resV, RB.val, sub, putc, scB, scL, oneB, conf, Ex.val.eqP, Ex.val.eqL, negV, mxV, mnV, ← wr_eq, wr_zero, wr_one, wr_m1, bst_lst, byteC, partsOK, putAll, appV, nilV, slV, sslV, optB, optNum, and_assoc, exists_and_left, exists_eq_left', *]) | refine CallS_i (c12) ?_ | refine CallS_i (q7) ?_ | refine CallS_i (q8) ?_ | refine CallS_i (c13) ?_ | refine CondS_d (fun h => ?_) (fun h => ?_) | refine CondS_b (fun h => ?_) (fun h => ?_) | refine GrdS_d (fun h => ?_) (fun h => ?_) | refine GrdS_b (fun h => ?_) (fun h => ?_) | refine OkS_i (by omega) ?_ | fail)
          all_goals simp_all
        · have z0 := g.2 hy
          rw [z0] at c12
          clear g z0
          by_cases hy1 : x < 1
          · clear hy
            repeat' (first | intro _ | (simp [sxa, isPtrN, PV.pcs, elAt, setEl, inAt, elIn, setIn, isLst, cellsOf, Ex.ok, Ex.val, Opd.val, POp.dst, bin_int, binOK_int, bin_str, binOK_str, resOK, resV, RB.val, sub, putc, scB, scL, oneB, conf, Ex.val.eqP, Ex.val.eqL, negV, mxV, mnV, ← wr_eq, wr_zero, wr_one, wr_m1, bst_lst, byteC, partsOK, putAll, appV, nilV, slV, sslV, optB, optNum, and_assoc, exists_and_left, exists_eq_left', *]) | refine CallS_i (c12) ?_ | refine CallS_i (c13) ?_ | refine CondS_d (fun h => ?_) (fun h => ?_) | refine CondS_b (fun h => ?_) (fun h => ?_) | refine GrdS_d (fun h => ?_) (fun h => ?_) | refine GrdS_b (fun h => ?_) (fun h => ?_) | refine OkS_i (by omega) ?_ | fail)
            all_goals simp_all
          · have j3 : 500000000 ≤ x := by omega
            clear hy
            repeat' (first | intro _ | (simp [sxa, isPtrN, PV.pcs, elAt, setEl, inAt, elIn, setIn, isLst, cellsOf, Ex.ok, Ex.val, Opd.val, POp.dst, bin_int, binOK_int, bin_str, binOK_str, resOK, resV, RB.val, sub, putc, scB, scL, oneB, conf, Ex.val.eqP, Ex.val.eqL, negV, mxV, mnV, ← wr_eq, wr_zero, wr_one, wr_m1, bst_lst, byteC, partsOK, putAll, appV, nilV, slV, sslV, optB, optNum, and_assoc, exists_and_left, exists_eq_left', *]) | refine CallS_i (c12) ?_ | refine CallS_i (c13) ?_ | refine CondS_d (fun h => ?_) (fun h => ?_) | refine CondS_b (fun h => ?_) (fun h => ?_) | refine GrdS_d (fun h => ?_) (fun h => ?_) | refine GrdS_b (fun h => ?_) (fun h => ?_) | refine OkS_i (by omega) ?_ | fail)
            all_goals simp_all
      · rw [if_neg hab] at c10
        clear g
        repeat' (first | intro _ | (simp [sxa, isPtrN, PV.pcs, elAt, setEl, inAt, elIn, setIn, isLst, cellsOf, Ex.ok, Ex.val, Opd.val, POp.dst, bin_int, binOK_int, bin_str, binOK_str, resOK, resV, RB.val, sub, putc, scB, scL, oneB, conf, Ex.val.eqP, Ex.val.eqL, negV, mxV, mnV, ← wr_eq, wr_zero, wr_one, wr_m1, bst_lst, byteC, partsOK, putAll, appV, nilV, slV, sslV, optB, optNum, and_assoc, exists_and_left, exists_eq_left', *]) | refine CopD_i (f11 nl els hce) (fun _ _ => by first | exact ⟨fun _ => rfl, fun h => by cases h⟩ | exact ⟨fun h => by cases h, fun _ => ⟨_, rfl⟩⟩ | exact ⟨fun h => by cases h, fun h => by cases h⟩) (fun x hx => ?_) | refine CallS_i (c10) ?_ | refine CondS_d (fun h => ?_) (fun h => ?_) | refine CondS_b (fun h => ?_) (fun h => ?_) | refine GrdS_d (fun h => ?_) (fun h => ?_) | refine GrdS_b (fun h => ?_) (fun h => ?_) | refine OkS_i (by omega) ?_ | fail)
        have g := List.all_eq_true.1 p3_all x hx
        simp only [P3, decide_eq_true_eq] at g
        have hbd := List.all_eq_true.1 p1_all x hx
        simp only [P1, decide_eq_true_eq] at hbd
        have c12 := f12 x (by omega)
        clear hbd hx
        by_cases hy : 1 ≤ x ∧ x < 500000000
        · obtain ⟨s1, s2, s3, s4⟩ := g.1 hy
          have q7 := f7 (ss x) (by omega)
          have q8 := f7 (ss x - 1) (by omega)
          rw [s2] at q7
          obtain ⟨z, hz⟩ : ∃ z, ss x = z := ⟨_, rfl⟩
          rw [hz] at q7 q8 c12 s1 s3 s4
          obtain ⟨z2, hz2⟩ : ∃ z2, rl (z - 1) = z2 := ⟨_, rfl⟩
          rw [hz2] at q8 s3
          have j1 : ¬ z = 0 := by omega
          have j2 : ¬ x < 1 := by omega
          have j3 : ¬ 500000000 ≤ x := by omega
          have j4 : wr .i64 (z - 1) = z - 1 := wr_in (by omega) (by omega)
          clear g hz hz2 s2 s4 hy
          repeat' (first | intro _ | (simp [sxa, isPtrN, PV.pcs, elAt, setEl, inAt, elIn, setIn, isLst, cellsOf, Ex.ok, Ex.val, Opd.val, POp.dst, bin_int, binOK_int, bin_str, binOK_str, resOK, resV, RB.val, sub, putc, scB, scL, oneB, conf, Ex.val.eqP, Ex.val.eqL, negV, mxV, mnV, ← wr_eq, wr_zero, wr_one, wr_m1, bst_lst, byteC, partsOK, putAll, appV, nilV, slV, sslV, optB, optNum, and_assoc, exists_and_left, exists_eq_left', *]) | refine CallS_i (c12) ?_ | refine CallS_i (q7) ?_ | refine CallS_i (q8) ?_ | refine CallS_i (c13) ?_ | refine CondS_d (fun h => ?_) (fun h => ?_) | refine CondS_b (fun h => ?_) (fun h => ?_) | refine GrdS_d (fun h => ?_) (fun h => ?_) | refine GrdS_b (fun h => ?_) (fun h => ?_) | refine OkS_i (by omega) ?_ | fail)
          all_goals simp_all
        · have z0 := g.2 hy
          rw [z0] at c12
          clear g z0
          by_cases hy1 : x < 1
          · clear hy
            repeat' (first | intro _ | (simp [sxa, isPtrN, PV.pcs, elAt, setEl, inAt, elIn, setIn, isLst, cellsOf, Ex.ok, Ex.val, Opd.val, POp.dst, bin_int, binOK_int, bin_str, binOK_str, resOK, resV, RB.val, sub, putc, scB, scL, oneB, conf, Ex.val.eqP, Ex.val.eqL, negV, mxV, mnV, ← wr_eq, wr_zero, wr_one, wr_m1, bst_lst, byteC, partsOK, putAll, appV, nilV, slV, sslV, optB, optNum, and_assoc, exists_and_left, exists_eq_left', *]) | refine CallS_i (c12) ?_ | refine CallS_i (c13) ?_ | refine CondS_d (fun h => ?_) (fun h => ?_) | refine CondS_b (fun h => ?_) (fun h => ?_) | refine GrdS_d (fun h => ?_) (fun h => ?_) | refine GrdS_b (fun h => ?_) (fun h => ?_) | refine OkS_i (by omega) ?_ | fail)
            all_goals simp_all
          · have j3 : 500000000 ≤ x := by omega
            clear hy
            repeat' (first | intro _ | (simp [sxa, isPtrN, PV.pcs, elAt, setEl, inAt, elIn, setIn, isLst, cellsOf, Ex.ok, Ex.val, Opd.val, POp.dst, bin_int, binOK_int, bin_str, binOK_str, resOK, resV, RB.val, sub, putc, scB, scL, oneB, conf, Ex.val.eqP, Ex.val.eqL, negV, mxV, mnV, ← wr_eq, wr_zero, wr_one, wr_m1, bst_lst, byteC, partsOK, putAll, appV, nilV, slV, sslV, optB, optNum, and_assoc, exists_and_left, exists_eq_left', *]) | refine CallS_i (c12) ?_ | refine CallS_i (c13) ?_ | refine CondS_d (fun h => ?_) (fun h => ?_) | refine CondS_b (fun h => ?_) (fun h => ?_) | refine GrdS_d (fun h => ?_) (fun h => ?_) | refine GrdS_b (fun h => ?_) (fun h => ?_) | refine OkS_i (by omega) ?_ | fail)
            all_goals simp_all
  · have hr0 := h2 hn
    subst hr0
    clear h1 h2 hrem h3 c7'
    by_cases m6 : n < 1
    · have m7 : T = bs [] := hwt.2 m6
      have m9 : ¬ 1 ≤ n := by omega
      clear hwt hn
      repeat' (first | intro _ | (simp [sxa, isPtrN, PV.pcs, elAt, setEl, inAt, elIn, setIn, isLst, cellsOf, Ex.ok, Ex.val, Opd.val, POp.dst, bin_int, binOK_int, bin_str, binOK_str, resOK, resV, RB.val, sub, putc, scB, scL, oneB, conf, Ex.val.eqP, Ex.val.eqL, negV, mxV, mnV, ← wr_eq, wr_zero, wr_one, wr_m1, bst_lst, byteC, partsOK, putAll, appV, nilV, slV, sslV, optB, optNum, and_assoc, exists_and_left, exists_eq_left', *]) | refine CallS_i (c7) ?_ | refine CallS_i (c8) ?_ | refine CondS_d (fun h => ?_) (fun h => ?_) | refine CondS_b (fun h => ?_) (fun h => ?_) | refine GrdS_d (fun h => ?_) (fun h => ?_) | refine GrdS_b (fun h => ?_) (fun h => ?_) | refine OkS_i (by omega) ?_ | fail)
      repeat' (first | intro _ | (simp [sxa, isPtrN, PV.pcs, elAt, setEl, inAt, elIn, setIn, isLst, cellsOf, Ex.ok, Ex.val, Opd.val, POp.dst, bin_int, binOK_int, bin_str, binOK_str, resOK, resV, RB.val, sub, putc, scB, scL, oneB, conf, Ex.val.eqP, Ex.val.eqL, negV, mxV, mnV, ← wr_eq, wr_zero, wr_one, wr_m1, bst_lst, byteC, partsOK, putAll, appV, nilV, slV, sslV, optB, optNum, and_assoc, exists_and_left, exists_eq_left', *]) | refine CopD_i (f9 nl els hce) (fun _ _ => by first | exact ⟨fun _ => rfl, fun h => by cases h⟩ | exact ⟨fun h => by cases h, fun _ => ⟨_, rfl⟩⟩ | exact ⟨fun h => by cases h, fun h => by cases h⟩) (fun x hx => ?_) | refine CondS_d (fun h => ?_) (fun h => ?_) | refine CondS_b (fun h => ?_) (fun h => ?_) | refine GrdS_d (fun h => ?_) (fun h => ?_) | refine GrdS_b (fun h => ?_) (fun h => ?_) | refine OkS_i (by omega) ?_ | fail)
      obtain ⟨a, b⟩ := x
      obtain ⟨ha, hb2⟩ := hx
      have g := List.all_eq_true.1 (List.all_eq_true.1 p2_all a ha) b hb2
      simp only [P2, decide_eq_true_eq] at g
      have c10 := f10 a b
      clear ha hb2
      by_cases hab : 1 ≤ a ∧ a ≤ 1000 ∧ 1 ≤ b ∧ b ≤ 100000
      · obtain ⟨g1, g2, g3, g4, g5⟩ := g hab
        rw [if_pos hab] at c10
        have d7 := f7 (rl (a * b)) (by omega)
        rw [g4] at d7
        obtain ⟨m, hm⟩ : ∃ m, a * b = m := ⟨_, rfl⟩
        have hwm : wr .i64 (a * b) = m := by rw [hm]; exact wr_in (by omega) (by omega)
        rw [hm] at c10 d7 g1 g2 g3
        obtain ⟨M, hM⟩ : ∃ M, rl m = M := ⟨_, rfl⟩
        rw [hM] at c10 d7 g1 g2 g3
        have e1 : M.tdiv b = M / b := Int.tdiv_eq_ediv_of_nonneg (by omega)
        obtain ⟨u, hu2⟩ : ∃ u, M / b = u := ⟨_, rfl⟩
        have hu0 : 0 ≤ u := by rw [← hu2]; exact Int.ediv_nonneg (by omega) (by omega)
        rw [e1, hu2, wr_in (n := u) (by omega) (by omega)] at c10
        rw [hu2] at g3
        have k1 : 0 < M := by omega
        have k2 : ¬ a < u := by omega
        have k3 : ¬ m < M := by omega
        clear g g4 g5 hM hm hu2 e1
        repeat' (first | intro _ | (simp [sxa, isPtrN, PV.pcs, elAt, setEl, inAt, elIn, setIn, isLst, cellsOf, Ex.ok, Ex.val, Opd.val, POp.dst, bin_int, binOK_int, bin_str, binOK_str, resOK, resV, RB.val, sub, putc, scB, scL, oneB, conf, Ex.val.eqP, Ex.val.eqL, negV, mxV, mnV, ← wr_eq, wr_zero, wr_one, wr_m1, bst_lst, byteC, partsOK, putAll, appV, nilV, slV, sslV, optB, optNum, and_assoc, exists_and_left, exists_eq_left', *]) | refine CopD_i (f11 nl els hce) (fun _ _ => by first | exact ⟨fun _ => rfl, fun h => by cases h⟩ | exact ⟨fun h => by cases h, fun _ => ⟨_, rfl⟩⟩ | exact ⟨fun h => by cases h, fun h => by cases h⟩) (fun x hx => ?_) | refine CallS_i (c10) ?_ | refine CallS_i (d7) ?_ | refine CondS_d (fun h => ?_) (fun h => ?_) | refine CondS_b (fun h => ?_) (fun h => ?_) | refine GrdS_d (fun h => ?_) (fun h => ?_) | refine GrdS_b (fun h => ?_) (fun h => ?_) | refine OkS_i (by omega) ?_ | fail)
        have g := List.all_eq_true.1 p3_all x hx
        simp only [P3, decide_eq_true_eq] at g
        have hbd := List.all_eq_true.1 p1_all x hx
        simp only [P1, decide_eq_true_eq] at hbd
        have c12 := f12 x (by omega)
        clear hbd hx
        by_cases hy : 1 ≤ x ∧ x < 500000000
        · obtain ⟨s1, s2, s3, s4⟩ := g.1 hy
          have q7 := f7 (ss x) (by omega)
          have q8 := f7 (ss x - 1) (by omega)
          rw [s2] at q7
          obtain ⟨z, hz⟩ : ∃ z, ss x = z := ⟨_, rfl⟩
          rw [hz] at q7 q8 c12 s1 s3 s4
          obtain ⟨z2, hz2⟩ : ∃ z2, rl (z - 1) = z2 := ⟨_, rfl⟩
          rw [hz2] at q8 s3
          have j1 : ¬ z = 0 := by omega
          have j2 : ¬ x < 1 := by omega
          have j3 : ¬ 500000000 ≤ x := by omega
          have j4 : wr .i64 (z - 1) = z - 1 := wr_in (by omega) (by omega)
          clear g hz hz2 s2 s4 hy
          repeat' (first | intro _ | (simp [sxa, isPtrN, PV.pcs, elAt, setEl, inAt, elIn, setIn, isLst, cellsOf, Ex.ok, Ex.val, Opd.val, POp.dst, bin_int, binOK_int, bin_str, binOK_str, resOK, resV, RB.val, sub, putc, scB, scL, oneB, conf, Ex.val.eqP, Ex.val.eqL, negV, mxV, mnV, ← wr_eq, wr_zero, wr_one, wr_m1, bst_lst, byteC, partsOK, putAll, appV, nilV, slV, sslV, optB, optNum, and_assoc, exists_and_left, exists_eq_left', *]) | refine CallS_i (c12) ?_ | refine CallS_i (q7) ?_ | refine CallS_i (q8) ?_ | refine CallS_i (c13) ?_ | refine CondS_d (fun h => ?_) (fun h => ?_) | refine CondS_b (fun h => ?_) (fun h => ?_) | refine GrdS_d (fun h => ?_) (fun h => ?_) | refine GrdS_b (fun h => ?_) (fun h => ?_) | refine OkS_i (by omega) ?_ | fail)
          all_goals simp_all
        · have z0 := g.2 hy
          rw [z0] at c12
          clear g z0
          by_cases hy1 : x < 1
          · clear hy
            repeat' (first | intro _ | (simp [sxa, isPtrN, PV.pcs, elAt, setEl, inAt, elIn, setIn, isLst, cellsOf, Ex.ok, Ex.val, Opd.val, POp.dst, bin_int, binOK_int, bin_str, binOK_str, resOK, resV, RB.val, sub, putc, scB, scL, oneB, conf, Ex.val.eqP, Ex.val.eqL, negV, mxV, mnV, ← wr_eq, wr_zero, wr_one, wr_m1, bst_lst, byteC, partsOK, putAll, appV, nilV, slV, sslV, optB, optNum, and_assoc, exists_and_left, exists_eq_left', *]) | refine CallS_i (c12) ?_ | refine CallS_i (c13) ?_ | refine CondS_d (fun h => ?_) (fun h => ?_) | refine CondS_b (fun h => ?_) (fun h => ?_) | refine GrdS_d (fun h => ?_) (fun h => ?_) | refine GrdS_b (fun h => ?_) (fun h => ?_) | refine OkS_i (by omega) ?_ | fail)
            all_goals simp_all
          · have j3 : 500000000 ≤ x := by omega
            clear hy
            repeat' (first | intro _ | (simp [sxa, isPtrN, PV.pcs, elAt, setEl, inAt, elIn, setIn, isLst, cellsOf, Ex.ok, Ex.val, Opd.val, POp.dst, bin_int, binOK_int, bin_str, binOK_str, resOK, resV, RB.val, sub, putc, scB, scL, oneB, conf, Ex.val.eqP, Ex.val.eqL, negV, mxV, mnV, ← wr_eq, wr_zero, wr_one, wr_m1, bst_lst, byteC, partsOK, putAll, appV, nilV, slV, sslV, optB, optNum, and_assoc, exists_and_left, exists_eq_left', *]) | refine CallS_i (c12) ?_ | refine CallS_i (c13) ?_ | refine CondS_d (fun h => ?_) (fun h => ?_) | refine CondS_b (fun h => ?_) (fun h => ?_) | refine GrdS_d (fun h => ?_) (fun h => ?_) | refine GrdS_b (fun h => ?_) (fun h => ?_) | refine OkS_i (by omega) ?_ | fail)
            all_goals simp_all
      · rw [if_neg hab] at c10
        clear g
        repeat' (first | intro _ | (simp [sxa, isPtrN, PV.pcs, elAt, setEl, inAt, elIn, setIn, isLst, cellsOf, Ex.ok, Ex.val, Opd.val, POp.dst, bin_int, binOK_int, bin_str, binOK_str, resOK, resV, RB.val, sub, putc, scB, scL, oneB, conf, Ex.val.eqP, Ex.val.eqL, negV, mxV, mnV, ← wr_eq, wr_zero, wr_one, wr_m1, bst_lst, byteC, partsOK, putAll, appV, nilV, slV, sslV, optB, optNum, and_assoc, exists_and_left, exists_eq_left', *]) | refine CopD_i (f11 nl els hce) (fun _ _ => by first | exact ⟨fun _ => rfl, fun h => by cases h⟩ | exact ⟨fun h => by cases h, fun _ => ⟨_, rfl⟩⟩ | exact ⟨fun h => by cases h, fun h => by cases h⟩) (fun x hx => ?_) | refine CallS_i (c10) ?_ | refine CondS_d (fun h => ?_) (fun h => ?_) | refine CondS_b (fun h => ?_) (fun h => ?_) | refine GrdS_d (fun h => ?_) (fun h => ?_) | refine GrdS_b (fun h => ?_) (fun h => ?_) | refine OkS_i (by omega) ?_ | fail)
        have g := List.all_eq_true.1 p3_all x hx
        simp only [P3, decide_eq_true_eq] at g
        have hbd := List.all_eq_true.1 p1_all x hx
        simp only [P1, decide_eq_true_eq] at hbd
        have c12 := f12 x (by omega)
        clear hbd hx
        by_cases hy : 1 ≤ x ∧ x < 500000000
        · obtain ⟨s1, s2, s3, s4⟩ := g.1 hy
          have q7 := f7 (ss x) (by omega)
          have q8 := f7 (ss x - 1) (by omega)
          rw [s2] at q7
          obtain ⟨z, hz⟩ : ∃ z, ss x = z := ⟨_, rfl⟩
          rw [hz] at q7 q8 c12 s1 s3 s4
          obtain ⟨z2, hz2⟩ : ∃ z2, rl (z - 1) = z2 := ⟨_, rfl⟩
          rw [hz2] at q8 s3
          have j1 : ¬ z = 0 := by omega
          have j2 : ¬ x < 1 := by omega
          have j3 : ¬ 500000000 ≤ x := by omega
          have j4 : wr .i64 (z - 1) = z - 1 := wr_in (by omega) (by omega)
          clear g hz hz2 s2 s4 hy
          repeat' (first | intro _ | (simp [sxa, isPtrN, PV.pcs, elAt, setEl, inAt, elIn, setIn, isLst, cellsOf, Ex.ok, Ex.val, Opd.val, POp.dst, bin_int, binOK_int, bin_str, binOK_str, resOK, resV, RB.val, sub, putc, scB, scL, oneB, conf, Ex.val.eqP, Ex.val.eqL, negV, mxV, mnV, ← wr_eq, wr_zero, wr_one, wr_m1, bst_lst, byteC, partsOK, putAll, appV, nilV, slV, sslV, optB, optNum, and_assoc, exists_and_left, exists_eq_left', *]) | refine CallS_i (c12) ?_ | refine CallS_i (q7) ?_ | refine CallS_i (q8) ?_ | refine CallS_i (c13) ?_ | refine CondS_d (fun h => ?_) (fun h => ?_) | refine CondS_b (fun h => ?_) (fun h => ?_) | refine GrdS_d (fun h => ?_) (fun h => ?_) | refine GrdS_b (fun h => ?_) (fun h => ?_) | refine OkS_i (by omega) ?_ | fail)
          all_goals simp_all
        · have z0 := g.2 hy
          rw [z0] at c12
          clear g z0
          by_cases hy1 : x < 1
          · clear hy
            repeat' (first | intro _ | (simp [sxa, isPtrN, PV.pcs, elAt, setEl, inAt, elIn, setIn, isLst, cellsOf, Ex.ok, Ex.val, Opd.val, POp.dst, bin_int, binOK_int, bin_str, binOK_str, resOK, resV, RB.val, sub, putc, scB, scL, oneB, conf, Ex.val.eqP, Ex.val.eqL, negV, mxV, mnV, ← wr_eq, wr_zero, wr_one, wr_m1, bst_lst, byteC, partsOK, putAll, appV, nilV, slV, sslV, optB, optNum, and_assoc, exists_and_left, exists_eq_left', *]) | refine CallS_i (c12) ?_ | refine CallS_i (c13) ?_ | refine CondS_d (fun h => ?_) (fun h => ?_) | refine CondS_b (fun h => ?_) (fun h => ?_) | refine GrdS_d (fun h => ?_) (fun h => ?_) | refine GrdS_b (fun h => ?_) (fun h => ?_) | refine OkS_i (by omega) ?_ | fail)
            all_goals simp_all
          · have j3 : 500000000 ≤ x := by omega
            clear hy
            repeat' (first | intro _ | (simp [sxa, isPtrN, PV.pcs, elAt, setEl, inAt, elIn, setIn, isLst, cellsOf, Ex.ok, Ex.val, Opd.val, POp.dst, bin_int, binOK_int, bin_str, binOK_str, resOK, resV, RB.val, sub, putc, scB, scL, oneB, conf, Ex.val.eqP, Ex.val.eqL, negV, mxV, mnV, ← wr_eq, wr_zero, wr_one, wr_m1, bst_lst, byteC, partsOK, putAll, appV, nilV, slV, sslV, optB, optNum, and_assoc, exists_and_left, exists_eq_left', *]) | refine CallS_i (c12) ?_ | refine CallS_i (c13) ?_ | refine CondS_d (fun h => ?_) (fun h => ?_) | refine CondS_b (fun h => ?_) (fun h => ?_) | refine GrdS_d (fun h => ?_) (fun h => ?_) | refine GrdS_b (fun h => ?_) (fun h => ?_) | refine OkS_i (by omega) ?_ | fail)
            all_goals simp_all
    · have m8 : ¬ n ≤ 1000000000 := by omega
      have m9 : 1 ≤ n := by omega
      have m7 : ¬ T = bs [] := fun h => m6 (hwt.1 h)
      clear hwt hn
      repeat' (first | intro _ | (simp [sxa, isPtrN, PV.pcs, elAt, setEl, inAt, elIn, setIn, isLst, cellsOf, Ex.ok, Ex.val, Opd.val, POp.dst, bin_int, binOK_int, bin_str, binOK_str, resOK, resV, RB.val, sub, putc, scB, scL, oneB, conf, Ex.val.eqP, Ex.val.eqL, negV, mxV, mnV, ← wr_eq, wr_zero, wr_one, wr_m1, bst_lst, byteC, partsOK, putAll, appV, nilV, slV, sslV, optB, optNum, and_assoc, exists_and_left, exists_eq_left', *]) | refine CallS_i (c7) ?_ | refine CallS_i (c8) ?_ | refine CondS_d (fun h => ?_) (fun h => ?_) | refine CondS_b (fun h => ?_) (fun h => ?_) | refine GrdS_d (fun h => ?_) (fun h => ?_) | refine GrdS_b (fun h => ?_) (fun h => ?_) | refine OkS_i (by omega) ?_ | fail)
      repeat' (first | intro _ | (simp [sxa, isPtrN, PV.pcs, elAt, setEl, inAt, elIn, setIn, isLst, cellsOf, Ex.ok, Ex.val, Opd.val, POp.dst, bin_int, binOK_int, bin_str, binOK_str, resOK, resV, RB.val, sub, putc, scB, scL, oneB, conf, Ex.val.eqP, Ex.val.eqL, negV, mxV, mnV, ← wr_eq, wr_zero, wr_one, wr_m1, bst_lst, byteC, partsOK, putAll, appV, nilV, slV, sslV, optB, optNum, and_assoc, exists_and_left, exists_eq_left', *]) | refine CopD_i (f9 nl els hce) (fun _ _ => by first | exact ⟨fun _ => rfl, fun h => by cases h⟩ | exact ⟨fun h => by cases h, fun _ => ⟨_, rfl⟩⟩ | exact ⟨fun h => by cases h, fun h => by cases h⟩) (fun x hx => ?_) | refine CondS_d (fun h => ?_) (fun h => ?_) | refine CondS_b (fun h => ?_) (fun h => ?_) | refine GrdS_d (fun h => ?_) (fun h => ?_) | refine GrdS_b (fun h => ?_) (fun h => ?_) | refine OkS_i (by omega) ?_ | fail)
      obtain ⟨a, b⟩ := x
      obtain ⟨ha, hb2⟩ := hx
      have g := List.all_eq_true.1 (List.all_eq_true.1 p2_all a ha) b hb2
      simp only [P2, decide_eq_true_eq] at g
      have c10 := f10 a b
      clear ha hb2
      by_cases hab : 1 ≤ a ∧ a ≤ 1000 ∧ 1 ≤ b ∧ b ≤ 100000
      · obtain ⟨g1, g2, g3, g4, g5⟩ := g hab
        rw [if_pos hab] at c10
        have d7 := f7 (rl (a * b)) (by omega)
        rw [g4] at d7
        obtain ⟨m, hm⟩ : ∃ m, a * b = m := ⟨_, rfl⟩
        have hwm : wr .i64 (a * b) = m := by rw [hm]; exact wr_in (by omega) (by omega)
        rw [hm] at c10 d7 g1 g2 g3
        obtain ⟨M, hM⟩ : ∃ M, rl m = M := ⟨_, rfl⟩
        rw [hM] at c10 d7 g1 g2 g3
        have e1 : M.tdiv b = M / b := Int.tdiv_eq_ediv_of_nonneg (by omega)
        obtain ⟨u, hu2⟩ : ∃ u, M / b = u := ⟨_, rfl⟩
        have hu0 : 0 ≤ u := by rw [← hu2]; exact Int.ediv_nonneg (by omega) (by omega)
        rw [e1, hu2, wr_in (n := u) (by omega) (by omega)] at c10
        rw [hu2] at g3
        have k1 : 0 < M := by omega
        have k2 : ¬ a < u := by omega
        have k3 : ¬ m < M := by omega
        clear g g4 g5 hM hm hu2 e1
        repeat' (first | intro _ | (simp [sxa, isPtrN, PV.pcs, elAt, setEl, inAt, elIn, setIn, isLst, cellsOf, Ex.ok, Ex.val, Opd.val, POp.dst, bin_int, binOK_int, bin_str, binOK_str, resOK, resV, RB.val, sub, putc, scB, scL, oneB, conf, Ex.val.eqP, Ex.val.eqL, negV, mxV, mnV, ← wr_eq, wr_zero, wr_one, wr_m1, bst_lst, byteC, partsOK, putAll, appV, nilV, slV, sslV, optB, optNum, and_assoc, exists_and_left, exists_eq_left', *]) | refine CopD_i (f11 nl els hce) (fun _ _ => by first | exact ⟨fun _ => rfl, fun h => by cases h⟩ | exact ⟨fun h => by cases h, fun _ => ⟨_, rfl⟩⟩ | exact ⟨fun h => by cases h, fun h => by cases h⟩) (fun x hx => ?_) | refine CallS_i (c10) ?_ | refine CallS_i (d7) ?_ | refine CondS_d (fun h => ?_) (fun h => ?_) | refine CondS_b (fun h => ?_) (fun h => ?_) | refine GrdS_d (fun h => ?_) (fun h => ?_) | refine GrdS_b (fun h => ?_) (fun h => ?_) | refine OkS_i (by omega) ?_ | fail)
        have g := List.all_eq_true.1 p3_all x hx
        simp only [P3, decide_eq_true_eq] at g
        have hbd := List.all_eq_true.1 p1_all x hx
        simp only [P1, decide_eq_true_eq] at hbd
        have c12 := f12 x (by omega)
        clear hbd hx
        by_cases hy : 1 ≤ x ∧ x < 500000000
        · obtain ⟨s1, s2, s3, s4⟩ := g.1 hy
          have q7 := f7 (ss x) (by omega)
          have q8 := f7 (ss x - 1) (by omega)
          rw [s2] at q7
          obtain ⟨z, hz⟩ : ∃ z, ss x = z := ⟨_, rfl⟩
          rw [hz] at q7 q8 c12 s1 s3 s4
          obtain ⟨z2, hz2⟩ : ∃ z2, rl (z - 1) = z2 := ⟨_, rfl⟩
          rw [hz2] at q8 s3
          have j1 : ¬ z = 0 := by omega
          have j2 : ¬ x < 1 := by omega
          have j3 : ¬ 500000000 ≤ x := by omega
          have j4 : wr .i64 (z - 1) = z - 1 := wr_in (by omega) (by omega)
          clear g hz hz2 s2 s4 hy
          repeat' (first | intro _ | (simp [sxa, isPtrN, PV.pcs, elAt, setEl, inAt, elIn, setIn, isLst, cellsOf, Ex.ok, Ex.val, Opd.val, POp.dst, bin_int, binOK_int, bin_str, binOK_str, resOK, resV, RB.val, sub, putc, scB, scL, oneB, conf, Ex.val.eqP, Ex.val.eqL, negV, mxV, mnV, ← wr_eq, wr_zero, wr_one, wr_m1, bst_lst, byteC, partsOK, putAll, appV, nilV, slV, sslV, optB, optNum, and_assoc, exists_and_left, exists_eq_left', *]) | refine CallS_i (c12) ?_ | refine CallS_i (q7) ?_ | refine CallS_i (q8) ?_ | refine CallS_i (c13) ?_ | refine CondS_d (fun h => ?_) (fun h => ?_) | refine CondS_b (fun h => ?_) (fun h => ?_) | refine GrdS_d (fun h => ?_) (fun h => ?_) | refine GrdS_b (fun h => ?_) (fun h => ?_) | refine OkS_i (by omega) ?_ | fail)
          all_goals simp_all
        · have z0 := g.2 hy
          rw [z0] at c12
          clear g z0
          by_cases hy1 : x < 1
          · clear hy
            repeat' (first | intro _ | (simp [sxa, isPtrN, PV.pcs, elAt, setEl, inAt, elIn, setIn, isLst, cellsOf, Ex.ok, Ex.val, Opd.val, POp.dst, bin_int, binOK_int, bin_str, binOK_str, resOK, resV, RB.val, sub, putc, scB, scL, oneB, conf, Ex.val.eqP, Ex.val.eqL, negV, mxV, mnV, ← wr_eq, wr_zero, wr_one, wr_m1, bst_lst, byteC, partsOK, putAll, appV, nilV, slV, sslV, optB, optNum, and_assoc, exists_and_left, exists_eq_left', *]) | refine CallS_i (c12) ?_ | refine CallS_i (c13) ?_ | refine CondS_d (fun h => ?_) (fun h => ?_) | refine CondS_b (fun h => ?_) (fun h => ?_) | refine GrdS_d (fun h => ?_) (fun h => ?_) | refine GrdS_b (fun h => ?_) (fun h => ?_) | refine OkS_i (by omega) ?_ | fail)
            all_goals simp_all
          · have j3 : 500000000 ≤ x := by omega
            clear hy
            repeat' (first | intro _ | (simp [sxa, isPtrN, PV.pcs, elAt, setEl, inAt, elIn, setIn, isLst, cellsOf, Ex.ok, Ex.val, Opd.val, POp.dst, bin_int, binOK_int, bin_str, binOK_str, resOK, resV, RB.val, sub, putc, scB, scL, oneB, conf, Ex.val.eqP, Ex.val.eqL, negV, mxV, mnV, ← wr_eq, wr_zero, wr_one, wr_m1, bst_lst, byteC, partsOK, putAll, appV, nilV, slV, sslV, optB, optNum, and_assoc, exists_and_left, exists_eq_left', *]) | refine CallS_i (c12) ?_ | refine CallS_i (c13) ?_ | refine CondS_d (fun h => ?_) (fun h => ?_) | refine CondS_b (fun h => ?_) (fun h => ?_) | refine GrdS_d (fun h => ?_) (fun h => ?_) | refine GrdS_b (fun h => ?_) (fun h => ?_) | refine OkS_i (by omega) ?_ | fail)
            all_goals simp_all
      · rw [if_neg hab] at c10
        clear g
        repeat' (first | intro _ | (simp [sxa, isPtrN, PV.pcs, elAt, setEl, inAt, elIn, setIn, isLst, cellsOf, Ex.ok, Ex.val, Opd.val, POp.dst, bin_int, binOK_int, bin_str, binOK_str, resOK, resV, RB.val, sub, putc, scB, scL, oneB, conf, Ex.val.eqP, Ex.val.eqL, negV, mxV, mnV, ← wr_eq, wr_zero, wr_one, wr_m1, bst_lst, byteC, partsOK, putAll, appV, nilV, slV, sslV, optB, optNum, and_assoc, exists_and_left, exists_eq_left', *]) | refine CopD_i (f11 nl els hce) (fun _ _ => by first | exact ⟨fun _ => rfl, fun h => by cases h⟩ | exact ⟨fun h => by cases h, fun _ => ⟨_, rfl⟩⟩ | exact ⟨fun h => by cases h, fun h => by cases h⟩) (fun x hx => ?_) | refine CallS_i (c10) ?_ | refine CondS_d (fun h => ?_) (fun h => ?_) | refine CondS_b (fun h => ?_) (fun h => ?_) | refine GrdS_d (fun h => ?_) (fun h => ?_) | refine GrdS_b (fun h => ?_) (fun h => ?_) | refine OkS_i (by omega) ?_ | fail)
        have g := List.all_eq_true.1 p3_all x hx
        simp only [P3, decide_eq_true_eq] at g
        have hbd := List.all_eq_true.1 p1_all x hx
        simp only [P1, decide_eq_true_eq] at hbd
        have c12 := f12 x (by omega)
        clear hbd hx
        by_cases hy : 1 ≤ x ∧ x < 500000000
        · obtain ⟨s1, s2, s3, s4⟩ := g.1 hy
          have q7 := f7 (ss x) (by omega)
          have q8 := f7 (ss x - 1) (by omega)
          rw [s2] at q7
          obtain ⟨z, hz⟩ : ∃ z, ss x = z := ⟨_, rfl⟩
          rw [hz] at q7 q8 c12 s1 s3 s4
          obtain ⟨z2, hz2⟩ : ∃ z2, rl (z - 1) = z2 := ⟨_, rfl⟩
          rw [hz2] at q8 s3
          have j1 : ¬ z = 0 := by omega
          have j2 : ¬ x < 1 := by omega
          have j3 : ¬ 500000000 ≤ x := by omega
          have j4 : wr .i64 (z - 1) = z - 1 := wr_in (by omega) (by omega)
          clear g hz hz2 s2 s4 hy
          repeat' (first | intro _ | (simp [sxa, isPtrN, PV.pcs, elAt, setEl, inAt, elIn, setIn, isLst, cellsOf, Ex.ok, Ex.val, Opd.val, POp.dst, bin_int, binOK_int, bin_str, binOK_str, resOK, resV, RB.val, sub, putc, scB, scL, oneB, conf, Ex.val.eqP, Ex.val.eqL, negV, mxV, mnV, ← wr_eq, wr_zero, wr_one, wr_m1, bst_lst, byteC, partsOK, putAll, appV, nilV, slV, sslV, optB, optNum, and_assoc, exists_and_left, exists_eq_left', *]) | refine CallS_i (c12) ?_ | refine CallS_i (q7) ?_ | refine CallS_i (q8) ?_ | refine CallS_i (c13) ?_ | refine CondS_d (fun h => ?_) (fun h => ?_) | refine CondS_b (fun h => ?_) (fun h => ?_) | refine GrdS_d (fun h => ?_) (fun h => ?_) | refine GrdS_b (fun h => ?_) (fun h => ?_) | refine OkS_i (by omega) ?_ | fail)
          all_goals simp_all
        · have z0 := g.2 hy
          rw [z0] at c12
          clear g z0
          by_cases hy1 : x < 1
          · clear hy
            repeat' (first | intro _ | (simp [sxa, isPtrN, PV.pcs, elAt, setEl, inAt, elIn, setIn, isLst, cellsOf, Ex.ok, Ex.val, Opd.val, POp.dst, bin_int, binOK_int, bin_str, binOK_str, resOK, resV, RB.val, sub, putc, scB, scL, oneB, conf, Ex.val.eqP, Ex.val.eqL, negV, mxV, mnV, ← wr_eq, wr_zero, wr_one, wr_m1, bst_lst, byteC, partsOK, putAll, appV, nilV, slV, sslV, optB, optNum, and_assoc, exists_and_left, exists_eq_left', *]) | refine CallS_i (c12) ?_ | refine CallS_i (c13) ?_ | refine CondS_d (fun h => ?_) (fun h => ?_) | refine CondS_b (fun h => ?_) (fun h => ?_) | refine GrdS_d (fun h => ?_) (fun h => ?_) | refine GrdS_b (fun h => ?_) (fun h => ?_) | refine OkS_i (by omega) ?_ | fail)
            all_goals simp_all
          · have j3 : 500000000 ≤ x := by omega
            clear hy
            repeat' (first | intro _ | (simp [sxa, isPtrN, PV.pcs, elAt, setEl, inAt, elIn, setIn, isLst, cellsOf, Ex.ok, Ex.val, Opd.val, POp.dst, bin_int, binOK_int, bin_str, binOK_str, resOK, resV, RB.val, sub, putc, scB, scL, oneB, conf, Ex.val.eqP, Ex.val.eqL, negV, mxV, mnV, ← wr_eq, wr_zero, wr_one, wr_m1, bst_lst, byteC, partsOK, putAll, appV, nilV, slV, sslV, optB, optNum, and_assoc, exists_and_left, exists_eq_left', *]) | refine CallS_i (c12) ?_ | refine CallS_i (c13) ?_ | refine CondS_d (fun h => ?_) (fun h => ?_) | refine CondS_b (fun h => ?_) (fun h => ?_) | refine GrdS_d (fun h => ?_) (fun h => ?_) | refine GrdS_b (fun h => ?_) (fun h => ?_) | refine OkS_i (by omega) ?_ | fail)
            all_goals simp_all
end Go.Eng
namespace Go.Eng
open Go Go.Proofs
set_option linter.unusedSimpArgs false
set_option linter.unusedVariables false
set_option maxRecDepth 20000
/-! what the arguments hold -/
theorem d_intb {X : Cx} {t n : Nat} {i0 : TI} {vs : List PV} (hi : X.ti t = some i0) (hk : i0.k = .int .i64) (h : shp X n t vs) : ∃ m : Int, vs = [i m] ∧ -9223372036854775808 ≤ m ∧ m ≤ 9223372036854775807 := by
  cases n with
  | zero => cases h
  | succ n =>
    unfold shp at h; rw [hi] at h; simp only [hk] at h
    obtain ⟨m, hm, hw⟩ := h
    refine ⟨m, hm, ?_⟩
    simpa [Lit.wf, IntKind.min, IntKind.max, IntKind.signed, IntKind.bits] using hw
theorem d_int {X : Cx} {t n : Nat} {i0 : TI} {vs : List PV} (hi : X.ti t = some i0) (hk : i0.k = .int .i64) (h : shp X n t vs) : ∃ m, vs = [i m] := by
  cases n with
  | zero => cases h
  | succ n => unfold shp at h; rw [hi] at h; simp only [hk] at h; obtain ⟨m, hm, _⟩ := h; exact ⟨m, hm⟩
theorem d_bool {X : Cx} {t n : Nat} {i0 : TI} {vs : List PV} (hi : X.ti t = some i0) (hk : i0.k = .bool) (h : shp X n t vs) : ∃ b, vs = [.bool b] := by
  cases n with
  | zero => cases h
  | succ n => unfold shp at h; rw [hi] at h; simp only [hk] at h; exact h
theorem d_str {X : Cx} {t n : Nat} {i0 : TI} {vs : List PV} (hi : X.ti t = some i0) (hk : i0.k = .str) (h : shp X n t vs) : ∃ s, vs = [.str s] ∧ s.size ≤ 9223372036854775807 := by
  cases n with
  | zero => cases h
  | succ n => unfold shp at h; rw [hi] at h; simp only [hk] at h; exact h
theorem d_slice {X : Cx} {t n e sz : Nat} {i0 : TI} {vs : List PV} {α : Type} {g : α → List PV} {q : α → Prop} (hi : X.ti t = some i0) (hk : i0.k = .slice e) (hs : szOf X e = sz)
    (hd : ∀ n vs, shp X n e vs → ∃ x, vs = g x ∧ q x) (h : shp X n t vs) : ∃ (l : List α) (nl : Bool), vs = [.lst sz nl (l.map g)] ∧ l.length ≤ 9223372036854775807 ∧ ∀ x ∈ l, q x := by
  cases n with
  | zero => cases h
  | succ n =>
    unfold shp at h; rw [hi] at h; simp only [hk, hs] at h
    rcases h with rfl | ⟨els, rfl, hl, he⟩
    · exact ⟨[], true, rfl, by simp, by simp⟩
    · have : ∀ els : List (List PV), (∀ cs ∈ els, shp X n e cs) → ∃ l : List α, els = l.map g ∧ ∀ x ∈ l, q x := by
        intro els
        induction els with
        | nil => intro _; exact ⟨[], rfl, by simp⟩
        | cons c r ih =>
          intro h
          obtain ⟨l, h1, h2⟩ := ih fun cs hcs => h cs (List.mem_cons_of_mem _ hcs)
          obtain ⟨x, h3, h4⟩ := hd n c (h c (List.mem_cons_self ..))
          exact ⟨x :: l, by rw [h1, h3]; rfl, fun y hy => by
            rcases List.mem_cons.1 hy with rfl | hy
            · exact h4
            · exact h2 y hy⟩
      obtain ⟨l, h1, h2⟩ := this els he
      subst h1
      exact ⟨l, false, rfl, by have := hl; rw [List.length_map] at this; exact this, h2⟩
theorem d_struct {X : Cx} {t n : Nat} {i0 : TI} {fl : List (Nat × Nat)} {vs : List PV} (hi : X.ti t = some i0) (hk : i0.k = .struct fl) (h : shp X n t vs) : vs.length = i0.sz ∧ ∀ q ∈ fl, ∃ n, shp X n q.2 (sub vs q.1 (szOf X q.2)) := by
  cases n with
  | zero => cases h
  | succ n => unfold shp at h; rw [hi] at h; simp only [hk] at h; exact ⟨h.1, fun q hq => ⟨n, h.2 q hq⟩⟩
theorem shpL_cons {X : Cx} {n t : Nat} {ts : List Nat} {pvs : List PV} (h : shpL X n (t :: ts) pvs) : ∃ v vs, pvs = v :: vs ∧ shpV X n t v ∧ shpL X n ts vs := by
  cases pvs with
  | nil => cases h
  | cons v vs => exact ⟨v, vs, rfl, h.1, h.2⟩
theorem shpL_nil {X : Cx} {n : Nat} {pvs : List PV} (h : shpL X n [] pvs) : pvs = [] := by
  cases pvs with
  | nil => rfl
  | cons v vs => cases h
theorem shpV_one {X : Cx} {n t : Nat} {i0 : TI} {v : PV} (hi : X.ti t = some i0) (ha : i0.k.agg = false) (h : shpV X n t v) : shp X n t [v] := by
  unfold shpV at h; rw [hi] at h; simp only [ha, Bool.false_eq_true, if_false] at h; exact h
theorem shpV_agg {X : Cx} {n t : Nat} {i0 : TI} {v : PV} (hi : X.ti t = some i0) (ha : i0.k.agg = true) (h : shpV X n t v) : ∃ vs, v = .agg vs ∧ shp X n t vs := by
  unfold shpV at h; rw [hi] at h; simp only [ha, if_true] at h; exact h
theorem dPt {n : Nat} {vs : List PV} (h : shp X n 71 vs) : ∃ p : Pt, vs = cp p ∧ True := by
  obtain ⟨hl, hf⟩ := d_struct (i0 := (X.ti 71).getD default) rfl rfl h
  match vs, hl with
  | [a, b], _ =>
    obtain ⟨_, h0⟩ := hf (0, 3) (by simp)
    obtain ⟨_, h1⟩ := hf (1, 3) (by simp)
    obtain ⟨x, e0⟩ := d_int (i0 := (X.ti 3).getD default) rfl rfl h0
    obtain ⟨y, e1⟩ := d_int (i0 := (X.ti 3).getD default) rfl rfl h1
    obtain rfl : a = i x := (List.cons.inj e0).1
    obtain rfl : b = i y := (List.cons.inj e1).1
    exact ⟨⟨x, y⟩, rfl, trivial⟩
theorem dFt {n : Nat} {vs : List PV} (h : shp X n 32 vs) : ∃ x : Ft, vs = ft x ∧ x.fits := by
  obtain ⟨hl, hf⟩ := d_struct (i0 := (X.ti 32).getD default) rfl rfl h
  match vs, hl with
  | [a, b, c, d, e], _ =>
    obtain ⟨_, h0⟩ := hf (0, 3) (by simp)
    obtain ⟨_, h1⟩ := hf (1, 3) (by simp)
    obtain ⟨_, h2⟩ := hf (2, 3) (by simp)
    obtain ⟨_, h3⟩ := hf (3, 9) (by simp)
    obtain ⟨_, h4⟩ := hf (4, 30) (by simp)
    obtain ⟨x0, e0⟩ := d_int (i0 := (X.ti 3).getD default) rfl rfl h0
    obtain ⟨x1, e1⟩ := d_int (i0 := (X.ti 3).getD default) rfl rfl h1
    obtain ⟨x2, e2⟩ := d_int (i0 := (X.ti 3).getD default) rfl rfl h2
    obtain ⟨x3, e3, b3⟩ := d_str (i0 := (X.ti 9).getD default) rfl rfl h3
    obtain ⟨x4, nl, e4, b4, _⟩ := d_slice (i0 := (X.ti 30).getD default) (sz := 2) rfl rfl rfl (fun _ _ => dPt) h4
    obtain rfl : a = i x0 := (List.cons.inj e0).1
    obtain rfl : b = i x1 := (List.cons.inj e1).1
    obtain rfl : c = i x2 := (List.cons.inj e2).1
    obtain rfl : d = .str x3 := (List.cons.inj e3).1
    obtain rfl : e = .lst 2 nl (x4.map cp) := (List.cons.inj e4).1
    exact ⟨⟨x0, x1, x2, x3, x4, nl⟩, rfl, b3, b4⟩
theorem dInt {n : Nat} {v : PV} (h : shpV X n 3 v) : ∃ m : Int, v = i m ∧ -9223372036854775808 ≤ m ∧ m ≤ 9223372036854775807 := by
  obtain ⟨m, hm, hb⟩ := d_intb (i0 := (X.ti 3).getD default) rfl rfl (shpV_one (i0 := (X.ti 3).getD default) rfl rfl h)
  exact ⟨m, (List.cons.inj hm).1, hb⟩
theorem dIntS {n : Nat} {v : PV} (h : shpV X n 50 v) : ∃ (l : List Int) (nl : Bool), v = .lst 1 nl (l.map fun m => [i m]) ∧ l.length ≤ 9223372036854775807 ∧ ∀ x ∈ l, -9223372036854775808 ≤ x ∧ x ≤ 9223372036854775807 := by
  have h := shpV_one (i0 := (X.ti 50).getD default) rfl rfl h
  obtain ⟨l, nl, e, h1, h2⟩ := d_slice (i0 := (X.ti 50).getD default) (sz := 1) (g := fun m : Int => [i m]) (q := fun m => -9223372036854775808 ≤ m ∧ m ≤ 9223372036854775807) rfl rfl rfl (fun _ _ h => d_intb (i0 := (X.ti 3).getD default) rfl rfl h) h
  exact ⟨l, nl, (List.cons.inj e).1, h1, h2⟩
theorem dPtV {n : Nat} {v : PV} (h : shpV X n 71 v) : ∃ p : Pt, v = .agg (cp p) := by
  obtain ⟨vs, rfl, hs⟩ := shpV_agg (i0 := (X.ti 71).getD default) rfl rfl h
  obtain ⟨p, rfl, _⟩ := dPt hs
  exact ⟨p, rfl⟩
theorem dFtV {n : Nat} {v : PV} (h : shpV X n 32 v) : ∃ x : Ft, v = .agg (ft x) ∧ x.fits := by
  obtain ⟨vs, rfl, hs⟩ := shpV_agg (i0 := (X.ti 32).getD default) rfl rfl h
  obtain ⟨p, rfl, hp⟩ := dFt hs
  exact ⟨p, rfl, hp⟩
end Go.Eng
namespace Go.Eng
open Go Go.Proofs
/-! bytes that are handed in -/
theorem d_u8 {X : Cx} {t n : Nat} {i0 : TI} {vs : List PV} (hi : X.ti t = some i0) (hk : i0.k = .int .u8) (h : shp X n t vs) : ∃ m : Int, vs = [.int .u8 m] ∧ True := by
  cases n with
  | zero => cases h
  | succ n => unfold shp at h; rw [hi] at h; simp only [hk] at h; obtain ⟨m, hm, _⟩ := h; exact ⟨m, hm, trivial⟩
theorem curU8_map : ∀ l : List Int, curU8 (l.map fun m => [.int .u8 m]) = true
  | [] => rfl
  | _ :: r => curU8_map r
theorem dBy {n : Nat} {v : PV} (h : shpV X n 22 v) : ∃ (els : List (List PV)) (nl : Bool), v = .lst 1 nl els ∧ curU8 els = true := by
  have h := shpV_one (i0 := (X.ti 22).getD default) rfl rfl h
  obtain ⟨l, nl, e, h1, h2⟩ := d_slice (i0 := (X.ti 22).getD default) (sz := 1) (g := fun m : Int => [PV.int .u8 m]) (q := fun _ => True) rfl rfl rfl (fun _ _ => d_u8 (i0 := (X.ti 5).getD default) rfl rfl) h
  exact ⟨_, nl, (List.cons.inj e).1, curU8_map l⟩
end Go.Eng
namespace Go.Eng
open Go Go.Proofs
theorem law3 {pvs : List PV} (h : shpL X 8 [22] pvs) : Fn Tryd.prog 3 false pvs (.bool true) := by
  obtain ⟨_, _, rfl, h1, h2⟩ := shpL_cons h
  obtain rfl := shpL_nil h2
  obtain ⟨els, nl, rfl, hu⟩ := dBy h1
  exact f3 nl els hu
end Go.Eng
