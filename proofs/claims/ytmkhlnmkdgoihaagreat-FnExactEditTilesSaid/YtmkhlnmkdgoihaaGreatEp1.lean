/- A part of the proof of a law's statement: for every input the law returns true and leaves its arguments as they were. No condition beyond the statement's own. What each function computes. -/
import Derived.Shelf.LaysM
import Derived.Shelf.Strconv.Itoa3
import Derived.Lib.AppendIntMem
import Derived.WalkKit
import Derived.Lib.RowBridge
import Derived.Test.YtmkhlnmkdgoihaaGreatEi1
set_option linter.unusedVariables false
set_option linter.unusedSimpArgs false
set_option linter.unusedSectionVars false
set_option autoImplicit true
set_option relaxedAutoImplicit true
namespace Go.Eng
open Go
set_option linter.unusedSimpArgs false
set_option linter.unusedVariables false

structure Pt where
  f0 : Int
  f1 : Int
structure Sg where
  f0 : Pt
  f1 : Pt
/-! plain laws on numbers and lists -/
theorem wrap_id {x : Int} (h0 : -9223372036854775808 ≤ x) (h1 : x ≤ 9223372036854775807) : wr .i64 x = x := wr_in h0 h1
theorem wrap_down (i : Nat) (h : 0 < i) (hi : i ≤ 9223372036854775807) : wr .i64 ((i : Int) - 1) = ((i - 1 : Nat) : Int) := by rw [wr_in (by omega) (by omega)]; omega
namespace Geo
/-- the product that tells the side of p from a to b -/
def crs (ax ay bx by' px py : Int) : Int := (bx - ax) * (py - ay) - (by' - ay) * (px - ax)
theorem mul_pos_neg {a b : Int} (h : a * b < 0) : (0 < a ∧ b < 0) ∨ (a < 0 ∧ 0 < b) := by
  rcases Int.lt_trichotomy a 0 with ha | ha | ha
  · rcases Int.lt_trichotomy b 0 with hb | hb | hb
    · have := Int.mul_pos_of_neg_of_neg ha hb; omega
    · rw [hb] at h; omega
    · exact .inr ⟨ha, hb⟩
  · rw [ha] at h; omega
  · rcases Int.lt_trichotomy b 0 with hb | hb | hb
    · exact .inl ⟨ha, hb⟩
    · rw [hb] at h; omega
    · have := Int.mul_pos ha hb; omega
/-- weights: p, q positive; what lies at or below m is below what lies at or above M, if m < M -/
theorem weigh {p q r s x y z w m M : Int} (hp : 0 < p) (hq : 0 < q) (hr : 0 < r) (hs : 0 < s) (ht : p + q = r + s) (hx : x ≤ m) (hy : y ≤ m) (hz : M ≤ z) (hw : M ≤ w) (hm : m < M) : p * x + q * y < r * z + s * w := by
  have h1 : p * x ≤ p * m := Int.mul_le_mul_of_nonneg_left hx (by omega)
  have h2 : q * y ≤ q * m := Int.mul_le_mul_of_nonneg_left hy (by omega)
  have h3 : r * M ≤ r * z := Int.mul_le_mul_of_nonneg_left hz (by omega)
  have h4 : s * M ≤ s * w := Int.mul_le_mul_of_nonneg_left hw (by omega)
  have h5 : (p + q) * m < (p + q) * M := Int.mul_lt_mul_of_pos_left hm (by omega)
  have h6 : (p + q) * m = p * m + q * m := Int.add_mul ..
  have h7 : (p + q) * M = r * M + s * M := by rw [ht, Int.add_mul]
  omega
/-- Two segments of which each parts the ends of the other one: their X (or Y) are not apart. c, d: the sides of s's ends from t; a, b: those of t's ends from s. -/
theorem not_apart {a b c d x0 x1 z0 z1 : Int} (hab : a * b < 0) (hcd : c * d < 0) (hD : c - d = b - a) (hid : c * x1 - d * x0 = b * z0 - a * z1) {m M : Int} (h0 : x0 ≤ m) (h1 : x1 ≤ m) (h2 : M ≤ z0) (h3 : M ≤ z1) (hm : m < M) : False := by
  rcases mul_pos_neg hcd with ⟨hc, hd⟩ | ⟨hc, hd⟩
  · have ha : a < 0 ∧ 0 < b := by rcases mul_pos_neg hab with ⟨h, h'⟩ | ⟨h, h'⟩ <;> omega
    have := weigh (p := c) (q := -d) (r := b) (s := -a) hc (by omega) ha.2 (by omega) (by omega) h1 h0 h2 h3 hm
    have e1 : -d * x0 = -(d * x0) := Int.neg_mul ..
    have e2 : -a * z1 = -(a * z1) := Int.neg_mul ..
    omega
  · have ha : 0 < a ∧ b < 0 := by rcases mul_pos_neg hab with ⟨h, h'⟩ | ⟨h, h'⟩ <;> omega
    have := weigh (p := -c) (q := d) (r := -b) (s := a) (by omega) hd (by omega) ha.1 (by omega) h1 h0 h2 h3 hm
    have e1 : -c * x1 = -(c * x1) := Int.neg_mul ..
    have e2 : -b * z0 = -(b * z0) := Int.neg_mul ..
    omega
theorem not_apart' {a b c d x0 x1 z0 z1 : Int} (hab : a * b < 0) (hcd : c * d < 0) (hD : c - d = b - a) (hid : c * x1 - d * x0 = b * z0 - a * z1) {m M : Int} (h0 : z0 ≤ m) (h1 : z1 ≤ m) (h2 : M ≤ x0) (h3 : M ≤ x1) (hm : m < M) : False :=
  not_apart (a := c) (b := d) (c := a) (d := b) (x0 := z0) (x1 := z1) (z0 := x0) (z1 := x1) hcd hab (by omega) (by omega) h0 h1 h2 h3 hm
section
variable (ax ay bx by' cx cy dx dy : Int)
theorem id_D : crs cx cy dx dy ax ay - crs cx cy dx dy bx by' = crs ax ay bx by' dx dy - crs ax ay bx by' cx cy := by
  unfold crs
  simp only [Int.sub_mul, Int.mul_sub]
  simp only [Int.mul_comm]
  omega
theorem id_X : crs cx cy dx dy ax ay * bx - crs cx cy dx dy bx by' * ax = crs ax ay bx by' dx dy * cx - crs ax ay bx by' cx cy * dx := by
  unfold crs
  simp only [Int.sub_mul, Int.mul_sub]
  simp only [Int.mul_comm, Int.mul_left_comm, Int.mul_assoc]
  omega
theorem id_Y : crs cx cy dx dy ax ay * by' - crs cx cy dx dy bx by' * ay = crs ax ay bx by' dx dy * cy - crs ax ay bx by' cx cy * dy := by
  unfold crs
  simp only [Int.sub_mul, Int.mul_sub]
  simp only [Int.mul_comm, Int.mul_left_comm, Int.mul_assoc]
  omega
end
/-- two directions along a third one that is not null are along each other -/
theorem along {ux uy vx vy wx wy : Int} (hw : ¬ (wx = 0 ∧ wy = 0)) (hu : ux * wy = uy * wx) (hv : vx * wy = vy * wx) : ux * vy = uy * vx := by
  by_cases h : wx = 0
  · have hy : wy ≠ 0 := fun e => hw ⟨h, e⟩
    rw [h, Int.mul_zero] at hu hv
    have hu0 : ux = 0 := (Int.mul_eq_zero.1 hu).resolve_right hy
    have hv0 : vx = 0 := (Int.mul_eq_zero.1 hv).resolve_right hy
    rw [hu0, hv0]; omega
  · refine Int.eq_of_mul_eq_mul_right h ?_
    calc ux * vy * wx = ux * (vy * wx) := by rw [Int.mul_assoc]
      _ = ux * (vx * wy) := by rw [hv]
      _ = vx * (ux * wy) := by rw [Int.mul_left_comm]
      _ = vx * (uy * wx) := by rw [hu]
      _ = uy * vx * wx := by rw [Int.mul_left_comm, Int.mul_assoc]
end Geo
namespace Geo
def Btw (u w : Int) : Prop := (0 ≤ w ∧ w ≤ u) ∨ (u ≤ w ∧ w ≤ 0)
theorem btw_of {o k u w : Int} (hk : k ≠ 0) (hu : u ≠ 0) (h : o * u = w * k) (hb : Btw u w) : Btw k o := by
  rcases Int.lt_or_gt_of_ne hu with hu | hu <;> rcases Int.lt_or_gt_of_ne hk with hk | hk
  · -- u < 0, k < 0
    have hw : u ≤ w ∧ w ≤ 0 := by rcases hb with h | h <;> omega
    have h1 : 0 ≤ w * k := Int.mul_nonneg_of_nonpos_of_nonpos hw.2 (by omega)
    have h2 : w * k ≤ u * k := Int.mul_le_mul_of_nonpos_right hw.1 (by omega)
    right
    constructor
    · apply Int.not_lt.1
      intro hc
      have : k * u < o * u := Int.mul_lt_mul_of_neg_right hc hu
      have e : k * u = u * k := Int.mul_comm ..
      omega
    · apply Int.not_lt.1
      intro hc
      have : o * u < 0 := Int.mul_neg_of_pos_of_neg hc hu
      omega
  · -- u < 0, 0 < k
    have hw : u ≤ w ∧ w ≤ 0 := by rcases hb with h | h <;> omega
    have h1 : w * k ≤ 0 := Int.mul_nonpos_of_nonpos_of_nonneg hw.2 (by omega)
    have h2 : u * k ≤ w * k := Int.mul_le_mul_of_nonneg_right hw.1 (by omega)
    left
    constructor
    · apply Int.not_lt.1
      intro hc
      have : 0 < o * u := Int.mul_pos_of_neg_of_neg hc hu
      omega
    · apply Int.not_lt.1
      intro hc
      have : o * u < k * u := Int.mul_lt_mul_of_neg_right hc hu
      have e : k * u = u * k := Int.mul_comm ..
      omega
  · -- 0 < u, k < 0
    have hw : 0 ≤ w ∧ w ≤ u := by rcases hb with h | h <;> omega
    have h1 : w * k ≤ 0 := Int.mul_nonpos_of_nonneg_of_nonpos hw.1 (by omega)
    have h2 : u * k ≤ w * k := Int.mul_le_mul_of_nonpos_right hw.2 (by omega)
    right
    constructor
    · apply Int.not_lt.1
      intro hc
      have : o * u < k * u := Int.mul_lt_mul_of_pos_right hc hu
      have e : k * u = u * k := Int.mul_comm ..
      omega
    · apply Int.not_lt.1
      intro hc
      have : 0 < o * u := Int.mul_pos hc hu
      omega
  · -- 0 < u, 0 < k
    have hw : 0 ≤ w ∧ w ≤ u := by rcases hb with h | h <;> omega
    have h1 : 0 ≤ w * k := Int.mul_nonneg hw.1 (by omega)
    have h2 : w * k ≤ u * k := Int.mul_le_mul_of_nonneg_right hw.2 (by omega)
    left
    constructor
    · apply Int.not_lt.1
      intro hc
      have : o * u < 0 := Int.mul_neg_of_neg_of_pos hc hu
      omega
    · apply Int.not_lt.1
      intro hc
      have : k * u < o * u := Int.mul_lt_mul_of_pos_right hc hu
      have e : k * u = u * k := Int.mul_comm ..
      omega
theorem btw_iff {o k u w : Int} (hk : k ≠ 0) (hu : u ≠ 0) (h : o * u = w * k) : Btw u w ↔ Btw k o := ⟨btw_of hk hu h, btw_of hu hk h.symm⟩
/-- p lies in the box of a and b -/
def Inb (ax ay bx by' px py : Int) : Prop := (min ax bx ≤ px ∧ px ≤ max ax bx) ∧ (min ay by' ≤ py ∧ py ≤ max ay by')
/-- the place of a point in the order by Y and then by X -/
def K (x y : Int) : Int := 201 * y + x
def Vl (x : Int) : Prop := 0 ≤ x ∧ x ≤ 200
theorem kx {ux uy wx wy : Int} (e : ux * wy = uy * wx) : (201 * wy + wx) * ux = wx * (201 * uy + ux) := by
  have h1 : (201 * wy + wx) * ux = 201 * (ux * wy) + wx * ux := by rw [Int.add_mul, Int.mul_assoc, Int.mul_comm wy ux]
  have h2 : wx * (201 * uy + ux) = 201 * (uy * wx) + wx * ux := by rw [Int.mul_add, Int.mul_left_comm, Int.mul_comm wx uy]
  rw [h1, h2, e]
theorem ky {ux uy wx wy : Int} (e : ux * wy = uy * wx) : (201 * wy + wx) * uy = wy * (201 * uy + ux) := by
  have h1 : (201 * wy + wx) * uy = 201 * (wy * uy) + uy * wx := by rw [Int.add_mul, Int.mul_assoc, Int.mul_comm wx uy]
  have h2 : wy * (201 * uy + ux) = 201 * (wy * uy) + ux * wy := by rw [Int.mul_add, Int.mul_left_comm, Int.mul_comm wy ux]
  rw [h1, h2, e]
theorem lin {ux uy px py qx qy : Int} (h : ux * py - uy * px = 0) (h' : ux * qy - uy * qx = 0) : ux * (qy - py) = uy * (qx - px) := by
  rw [Int.mul_sub, Int.mul_sub]; omega
theorem lin2 {px py qx qy : Int} (h : px * qy = py * qx) : (qx - px) * (-py) - (qy - py) * (-px) = 0 := by
  rw [Int.mul_neg, Int.mul_neg, Int.sub_mul, Int.sub_mul, Int.mul_comm qx py, Int.mul_comm qy px, Int.mul_comm px py]; omega
theorem K_box {ax ay bx by' px py : Int} (v0 : Vl ax) (v1 : Vl ay) (v2 : Vl bx) (v3 : Vl by') (v4 : Vl px) (v5 : Vl py) (hne : ¬ (ax = bx ∧ ay = by')) (h : crs ax ay bx by' px py = 0) :
    Inb ax ay bx by' px py ↔ (min (K ax ay) (K bx by') ≤ K px py ∧ K px py ≤ max (K ax ay) (K bx by')) := by
  unfold Vl at *
  have hk : K bx by' - K ax ay ≠ 0 := by unfold K; omega
  have e : (bx - ax) * (py - ay) = (by' - ay) * (px - ax) := by unfold crs at h; omega
  have a1 : K px py - K ax ay = 201 * (py - ay) + (px - ax) := by unfold K; omega
  have a2 : K bx by' - K ax ay = 201 * (by' - ay) + (bx - ax) := by unfold K; omega
  have e1 : (K px py - K ax ay) * (bx - ax) = (px - ax) * (K bx by' - K ax ay) := by rw [a1, a2]; exact kx e
  have e2 : (K px py - K ax ay) * (by' - ay) = (py - ay) * (K bx by' - K ax ay) := by rw [a1, a2]; exact ky e
  have b0 : Inb ax ay bx by' px py ↔ Btw (bx - ax) (px - ax) ∧ Btw (by' - ay) (py - ay) := by unfold Inb Btw; omega
  have b1 : (min (K ax ay) (K bx by') ≤ K px py ∧ K px py ≤ max (K ax ay) (K bx by')) ↔ Btw (K bx by' - K ax ay) (K px py - K ax ay) := by unfold Btw; omega
  rw [b0, b1]
  have z : ∀ {o k u w : Int}, k ≠ 0 → o * u = w * k → u = 0 → w = 0 := by
    intro o k u w hk h hu
    rw [hu, Int.mul_zero] at h
    exact (Int.mul_eq_zero.1 h.symm).resolve_right hk
  by_cases cx : bx - ax = 0
  · have wx := z hk e1 cx
    have cy : by' - ay ≠ 0 := by omega
    rw [btw_iff hk cy e2, cx, wx]
    unfold Btw
    omega
  · rw [btw_iff hk cx e1]
    by_cases cy : by' - ay = 0
    · have wy := z hk e2 cy
      rw [cy, wy]
      unfold Btw
      omega
    · rw [btw_iff hk cy e2]
      exact ⟨fun h => h.1, fun h => ⟨h, h⟩⟩
theorem K_inj {ax ay bx by' : Int} (v0 : Vl ax) (v2 : Vl bx) : K ax ay = K bx by' ↔ ax = bx ∧ ay = by' := by unfold K Vl at *; omega
/-- four points on one line: the other two sides are null, too -/
theorem col_back {ax ay bx by' cx cy dx dy : Int} (hne : ¬ (ax = bx ∧ ay = by')) (h0 : crs ax ay bx by' cx cy = 0) (h1 : crs ax ay bx by' dx dy = 0) : crs cx cy dx dy ax ay = 0 ∧ crs cx cy dx dy bx by' = 0 := by
  have u0 : ¬ (bx - ax = 0 ∧ by' - ay = 0) := by omega
  have g0 : (cx - ax) * (by' - ay) = (cy - ay) * (bx - ax) := by unfold crs at h0; rw [Int.mul_comm (cy - ay), Int.mul_comm (cx - ax)]; omega
  have g1 : (dx - ax) * (by' - ay) = (dy - ay) * (bx - ax) := by unfold crs at h1; rw [Int.mul_comm (dy - ay), Int.mul_comm (dx - ax)]; omega
  have k0 := along u0 g0 g1
  have hD := id_D ax ay bx by' cx cy dx dy
  have e : crs cx cy dx dy ax ay = 0 := by
    unfold crs
    have a1 : dx - cx = (dx - ax) - (cx - ax) := by omega
    have a2 : dy - cy = (dy - ay) - (cy - ay) := by omega
    have a3 : ay - cy = -(cy - ay) := by omega
    have a4 : ax - cx = -(cx - ax) := by omega
    rw [a1, a2, a3, a4]
    exact lin2 k0
  exact ⟨e, by omega⟩
/-- two segments that are not on one line share at most one point -/
theorem one_shared {ax ay bx by' cx cy dx dy px py qx qy : Int} (ht : ¬ (cx = dx ∧ cy = dy)) (hn : ¬ (crs ax ay bx by' cx cy = 0 ∧ crs ax ay bx by' dx dy = 0)) (p0 : crs ax ay bx by' px py = 0) (p1 : crs cx cy dx dy px py = 0) (q0 : crs ax ay bx by' qx qy = 0) (q1 : crs cx cy dx dy qx qy = 0) : px = qx ∧ py = qy := by
  apply Classical.byContradiction
  intro hne
  apply hn
  have w0 : ¬ (qx - px = 0 ∧ qy - py = 0) := by omega
  have dif : ∀ {ax ay bx by' : Int}, crs ax ay bx by' px py = 0 → crs ax ay bx by' qx qy = 0 → (bx - ax) * (qy - py) = (by' - ay) * (qx - px) := by
    intro ax ay bx by' h h'
    have a1 : qy - py = (qy - ay) - (py - ay) := by omega
    have a2 : qx - px = (qx - ax) - (px - ax) := by omega
    rw [a1, a2]
    exact lin h h'
  have hu := dif p0 q0
  have hv := dif p1 q1
  have huv := along w0 hu hv
  have v0 : ¬ (dx - cx = 0 ∧ dy - cy = 0) := by omega
  -- from any point r on t's line: r - p is along v, so along u
  have onl : ∀ {rx ry : Int}, crs cx cy dx dy rx ry = 0 → crs ax ay bx by' rx ry = 0 := by
    intro rx ry hr
    have g : (rx - px) * (dy - cy) = (ry - py) * (dx - cx) := by
      have a1 : ry - py = (ry - cy) - (py - cy) := by omega
      have a2 : rx - px = (rx - cx) - (px - cx) := by omega
      rw [a1, a2, Int.mul_comm _ (dy - cy), Int.mul_comm _ (dx - cx)]
      exact (lin p1 hr).symm
    have g2 := along v0 huv g
    unfold crs at p0 ⊢
    have a1 : ry - ay = (ry - py) + (py - ay) := by omega
    have a2 : rx - ax = (rx - px) + (px - ax) := by omega
    rw [a1, a2, Int.mul_add, Int.mul_add]
    omega
  refine ⟨onl (rx := cx) (ry := cy) ?_, onl (rx := dx) (ry := dy) ?_⟩
  · unfold crs
    rw [Int.sub_self, Int.sub_self]
    omega
  · unfold crs
    rw [Int.mul_comm]
    omega
end Geo
open Geo
def M_IsPoint (x y : Int) : Bool := decide (0 ≤ x ∧ x ≤ 200) && decide (0 ≤ y ∧ y ≤ 200)
theorem M_IsPoint_iff (x y : Int) : M_IsPoint x y = true ↔ Vl x ∧ Vl y := by
  unfold M_IsPoint Vl
  rw [Bool.and_eq_true, decide_eq_true_iff, decide_eq_true_iff]
def M_IsSegment (ax ay bx by' : Int) : Bool := M_IsPoint ax ay && (M_IsPoint bx by' && !(decide (ax = bx ∧ ay = by')))
theorem M_IsSegment_iff (ax ay bx by' : Int) : M_IsSegment ax ay bx by' = true ↔ (Vl ax ∧ Vl ay) ∧ (Vl bx ∧ Vl by') ∧ ¬ (ax = bx ∧ ay = by') := by
  unfold M_IsSegment
  rw [Bool.and_eq_true, Bool.and_eq_true, M_IsPoint_iff, M_IsPoint_iff, Bool.not_eq_true', decide_eq_false_iff_not]
def sgn (z : Int) : Int := if z > 0 then 1 else if z < 0 then -1 else 0
theorem sgn_zero (z : Int) : sgn z = 0 ↔ z = 0 := by unfold sgn; split <;> (try split) <;> omega
theorem sgn_pos (z : Int) : 0 < sgn z ↔ 0 < z := by unfold sgn; split <;> (try split) <;> omega
theorem sgn_neg (z : Int) : sgn z < 0 ↔ z < 0 := by unfold sgn; split <;> (try split) <;> omega
theorem sgn_le (z : Int) : -1 ≤ sgn z ∧ sgn z ≤ 1 := by unfold sgn; split <;> (try split) <;> omega
theorem sgn_mul (x y : Int) : sgn x * sgn y < 0 ↔ x * y < 0 := by
  constructor
  · intro h
    rcases mul_pos_neg h with ⟨a, b⟩ | ⟨a, b⟩
    · exact Int.mul_neg_of_pos_of_neg ((sgn_pos x).1 a) ((sgn_neg y).1 b)
    · exact Int.mul_neg_of_neg_of_pos ((sgn_neg x).1 a) ((sgn_pos y).1 b)
  · intro h
    rcases mul_pos_neg h with ⟨a, b⟩ | ⟨a, b⟩
    · exact Int.mul_neg_of_pos_of_neg ((sgn_pos x).2 a) ((sgn_neg y).2 b)
    · exact Int.mul_neg_of_neg_of_pos ((sgn_neg x).2 a) ((sgn_pos y).2 b)
theorem mul_bound {x y : Int} (h0 : -200 ≤ x) (h1 : x ≤ 200) (h2 : -200 ≤ y) (h3 : y ≤ 200) : -40000 ≤ x * y ∧ x * y ≤ 40000 := by
  have a : (x + 200) * (y + 200) ≥ 0 := Int.mul_nonneg (by omega) (by omega)
  have b : (200 - x) * (200 - y) ≥ 0 := Int.mul_nonneg (by omega) (by omega)
  have c : (x + 200) * (200 - y) ≥ 0 := Int.mul_nonneg (by omega) (by omega)
  have d : (200 - x) * (y + 200) ≥ 0 := Int.mul_nonneg (by omega) (by omega)
  simp only [Int.add_mul, Int.mul_add, Int.sub_mul, Int.mul_sub] at a b c d
  omega
theorem crs_bound {ax ay bx by' px py : Int} (v0 : Vl ax) (v1 : Vl ay) (v2 : Vl bx) (v3 : Vl by') (v4 : Vl px) (v5 : Vl py) : -80000 ≤ crs ax ay bx by' px py ∧ crs ax ay bx by' px py ≤ 80000 := by
  unfold Vl at *
  unfold crs
  have h1 := mul_bound (x := bx - ax) (y := py - ay) (by omega) (by omega) (by omega) (by omega)
  have h2 := mul_bound (x := by' - ay) (y := px - ax) (by omega) (by omega) (by omega) (by omega)
  omega
theorem crs_wrap {ax ay bx by' px py : Int} (v0 : Vl ax) (v1 : Vl ay) (v2 : Vl bx) (v3 : Vl by') (v4 : Vl px) (v5 : Vl py) :
    wr .i64 ((wr .i64 ((wr .i64 (bx - ax)) * (wr .i64 (py - ay)))) - (wr .i64 ((wr .i64 (by' - ay)) * (wr .i64 (px - ax))))) = crs ax ay bx by' px py := by
  have h := crs_bound v0 v1 v2 v3 v4 v5
  unfold Vl at *
  have h1 := mul_bound (x := bx - ax) (y := py - ay) (by omega) (by omega) (by omega) (by omega)
  have h2 := mul_bound (x := by' - ay) (y := px - ax) (by omega) (by omega) (by omega) (by omega)
  rw [wrap_id (x := bx - ax) (by omega) (by omega), wrap_id (x := py - ay) (by omega) (by omega), wrap_id (x := by' - ay) (by omega) (by omega), wrap_id (x := px - ax) (by omega) (by omega), wrap_id (x := (bx - ax) * (py - ay)) (by omega) (by omega), wrap_id (x := (by' - ay) * (px - ax)) (by omega) (by omega)]
  unfold crs at h
  rw [wrap_id (by omega) (by omega)]
  rfl
def M_SideOf (ax ay bx by' px py : Int) : Int := if M_IsPoint ax ay && (M_IsPoint bx by' && M_IsPoint px py) then sgn (crs ax ay bx by' px py) else 0
instance (ax ay bx by' px py : Int) : Decidable (Inb ax ay bx by' px py) := by unfold Inb; infer_instance
def On (ax ay bx by' px py : Int) : Prop := crs ax ay bx by' px py = 0 ∧ Inb ax ay bx by' px py
instance (ax ay bx by' px py : Int) : Decidable (On ax ay bx by' px py) := by unfold On; infer_instance
def M_IsOn (ax ay bx by' px py : Int) : Bool := M_IsSegment ax ay bx by' && (M_IsPoint px py && decide (On ax ay bx by' px py))
def M_HowMeet (ax ay bx by' cx cy dx dy : Int) : Int :=
  if M_IsSegment ax ay bx by' = true ∧ M_IsSegment cx cy dx dy = true then
    if crs ax ay bx by' cx cy = 0 ∧ crs ax ay bx by' dx dy = 0 then
      if min (max (K ax ay) (K bx by')) (max (K cx cy) (K dx dy)) < max (min (K ax ay) (K bx by')) (min (K cx cy) (K dx dy)) then 0
      else if max (min (K ax ay) (K bx by')) (min (K cx cy) (K dx dy)) = min (max (K ax ay) (K bx by')) (max (K cx cy) (K dx dy)) then 1 else 3
    else if crs ax ay bx by' cx cy * crs ax ay bx by' dx dy < 0 ∧ crs cx cy dx dy ax ay * crs cx cy dx dy bx by' < 0 then 2
    else if On ax ay bx by' cx cy ∨ On ax ay bx by' dx dy ∨ On cx cy dx dy ax ay ∨ On cx cy dx dy bx by' then 1 else 0
  else 0
/-- the boxes of two segments are apart -/
def Apart (ax ay bx by' cx cy dx dy : Int) : Prop := max ax bx < min cx dx ∨ max cx dx < min ax bx ∨ max ay by' < min cy dy ∨ max cy dy < min ay by'
instance (ax ay bx by' cx cy dx dy : Int) : Decidable (Apart ax ay bx by' cx cy dx dy) := by unfold Apart; infer_instance
theorem apart_no {ax ay bx by' cx cy dx dy : Int} (h : Apart ax ay bx by' cx cy dx dy) : ¬ On ax ay bx by' cx cy ∧ ¬ On ax ay bx by' dx dy ∧ ¬ On cx cy dx dy ax ay ∧ ¬ On cx cy dx dy bx by' := by
  unfold On Inb
  unfold Apart at h
  refine ⟨?_, ?_, ?_, ?_⟩ <;> (rintro ⟨_, h1⟩; omega)
theorem apart_cross {ax ay bx by' cx cy dx dy : Int} (h : Apart ax ay bx by' cx cy dx dy) : ¬ (crs ax ay bx by' cx cy * crs ax ay bx by' dx dy < 0 ∧ crs cx cy dx dy ax ay * crs cx cy dx dy bx by' < 0) := by
  rintro ⟨hab, hcd⟩
  have hD := id_D ax ay bx by' cx cy dx dy
  have hX := id_X ax ay bx by' cx cy dx dy
  have hY := id_Y ax ay bx by' cx cy dx dy
  rcases h with h | h | h | h
  · exact not_apart hab hcd hD hX (m := max ax bx) (M := min cx dx) (by omega) (by omega) (by omega) (by omega) h
  · exact not_apart' hab hcd hD hX (m := max cx dx) (M := min ax bx) (by omega) (by omega) (by omega) (by omega) h
  · exact not_apart hab hcd hD hY (m := max ay by') (M := min cy dy) (by omega) (by omega) (by omega) (by omega) h
  · exact not_apart' hab hcd hD hY (m := max cy dy) (M := min ay by') (by omega) (by omega) (by omega) (by omega) h
theorem crs_self0 (ax ay bx by' : Int) : crs ax ay bx by' ax ay = 0 := by unfold crs; rw [Int.sub_self, Int.sub_self]; omega
theorem crs_self1 (ax ay bx by' : Int) : crs ax ay bx by' bx by' = 0 := by unfold crs; rw [Int.mul_comm]; omega
/-- how many different ends of both lie on the other one, as the reference counts them -/
def M_Shared (ax ay bx by' cx cy dx dy : Int) : Int :=
  (if On cx cy dx dy ax ay then 1 else 0) + (if On cx cy dx dy bx by' then 1 else 0)
    + (if On ax ay bx by' cx cy ∧ ¬ (On cx cy dx dy ax ay ∧ ax = cx ∧ ay = cy) ∧ ¬ (On cx cy dx dy bx by' ∧ bx = cx ∧ by' = cy) then 1 else 0)
    + (if On ax ay bx by' dx dy ∧ ¬ (On cx cy dx dy ax ay ∧ ax = dx ∧ ay = dy) ∧ ¬ (On cx cy dx dy bx by' ∧ bx = dx ∧ by' = dy) then 1 else 0)
theorem ifc {p q : Prop} [Decidable p] [Decidable q] {α : Type} (h : p ↔ q) (a b : α) : (if p then a else b) = if q then a else b := by
  by_cases hp : p
  · rw [if_pos hp, if_pos (h.1 hp)]
  · rw [if_neg hp, if_neg (fun hq => hp (h.2 hq))]
theorem M_HowMeet_spec {ax ay bx by' cx cy dx dy : Int} (v0 : Vl ax) (v1 : Vl ay) (v2 : Vl bx) (v3 : Vl by') (hs : ¬ (ax = bx ∧ ay = by')) (w0 : Vl cx) (w1 : Vl cy) (w2 : Vl dx) (w3 : Vl dy) (ht : ¬ (cx = dx ∧ cy = dy)) :
    M_HowMeet ax ay bx by' cx cy dx dy =
      if Apart ax ay bx by' cx cy dx dy then 0
      else if M_Shared ax ay bx by' cx cy dx dy = 0 then (if crs ax ay bx by' cx cy * crs ax ay bx by' dx dy < 0 ∧ crs cx cy dx dy ax ay * crs cx cy dx dy bx by' < 0 then 2 else 0)
      else if M_Shared ax ay bx by' cx cy dx dy = 1 then 1 else 3 := by
  unfold M_HowMeet
  rw [if_pos ⟨(M_IsSegment_iff ..).2 ⟨⟨v0, v1⟩, ⟨v2, v3⟩, hs⟩, (M_IsSegment_iff ..).2 ⟨⟨w0, w1⟩, ⟨w2, w3⟩, ht⟩⟩]
  by_cases col : crs ax ay bx by' cx cy = 0 ∧ crs ax ay bx by' dx dy = 0
  · -- on one line
    rw [if_pos col]
    have back := col_back hs col.1 col.2
    have o0 : On cx cy dx dy ax ay ↔ _ := ⟨fun h => (K_box w0 w1 w2 w3 v0 v1 ht back.1).1 h.2, fun h => ⟨back.1, (K_box w0 w1 w2 w3 v0 v1 ht back.1).2 h⟩⟩
    have o1 : On cx cy dx dy bx by' ↔ _ := ⟨fun h => (K_box w0 w1 w2 w3 v2 v3 ht back.2).1 h.2, fun h => ⟨back.2, (K_box w0 w1 w2 w3 v2 v3 ht back.2).2 h⟩⟩
    have o2 : On ax ay bx by' cx cy ↔ _ := ⟨fun h => (K_box v0 v1 v2 v3 w0 w1 hs col.1).1 h.2, fun h => ⟨col.1, (K_box v0 v1 v2 v3 w0 w1 hs col.1).2 h⟩⟩
    have o3 : On ax ay bx by' dx dy ↔ _ := ⟨fun h => (K_box v0 v1 v2 v3 w2 w3 hs col.2).1 h.2, fun h => ⟨col.2, (K_box v0 v1 v2 v3 w2 w3 hs col.2).2 h⟩⟩
    have ap : Apart ax ay bx by' cx cy dx dy → ¬ On cx cy dx dy ax ay ∧ ¬ On cx cy dx dy bx by' ∧ ¬ On ax ay bx by' cx cy ∧ ¬ On ax ay bx by' dx dy := fun h => ⟨(apart_no h).2.2.1, (apart_no h).2.2.2, (apart_no h).1, (apart_no h).2.1⟩
    rw [o0, o1, o2, o3] at ap
    have ks : K ax ay ≠ K bx by' := fun e => hs ((K_inj v0 v2).1 e)
    have kt : K cx cy ≠ K dx dy := fun e => ht ((K_inj w0 w2).1 e)
    have nc : ¬ (crs ax ay bx by' cx cy * crs ax ay bx by' dx dy < 0 ∧ crs cx cy dx dy ax ay * crs cx cy dx dy bx by' < 0) := by rw [col.1, Int.zero_mul]; omega
    have sh : M_Shared ax ay bx by' cx cy dx dy =
        (if min (K cx cy) (K dx dy) ≤ K ax ay ∧ K ax ay ≤ max (K cx cy) (K dx dy) then 1 else 0) + (if min (K cx cy) (K dx dy) ≤ K bx by' ∧ K bx by' ≤ max (K cx cy) (K dx dy) then 1 else 0)
          + (if (min (K ax ay) (K bx by') ≤ K cx cy ∧ K cx cy ≤ max (K ax ay) (K bx by')) ∧ ¬ K ax ay = K cx cy ∧ ¬ K bx by' = K cx cy then 1 else 0)
          + (if (min (K ax ay) (K bx by') ≤ K dx dy ∧ K dx dy ≤ max (K ax ay) (K bx by')) ∧ ¬ K ax ay = K dx dy ∧ ¬ K bx by' = K dx dy then 1 else 0) := by
      unfold M_Shared
      rw [ifc o0, ifc o1]
      congr 1
      · congr 1
        refine ifc ?_ _ _
        rw [o0, o1, o2, ← K_inj v0 w0 (ay := ay) (by' := cy), ← K_inj v2 w0 (ay := by') (by' := cy)]
        omega
      · refine ifc ?_ _ _
        rw [o0, o1, o3, ← K_inj v0 w2 (ay := ay) (by' := dy), ← K_inj v2 w2 (ay := by') (by' := dy)]
        omega
    rw [if_neg nc, sh]
    generalize K ax ay = a at *
    generalize K bx by' = b at *
    generalize K cx cy = c at *
    generalize K dx dy = d at *
    clear o0 o1 o2 o3 sh nc
    by_cases hap : Apart ax ay bx by' cx cy dx dy
    · have := ap hap
      rw [if_pos hap, if_pos (by omega)]
    · rw [if_neg hap]
      clear ap
      split <;> split <;> split <;> split <;> (repeat' split) <;> omega
  · rw [if_neg col]
    have one : ∀ {px py qx qy : Int}, crs ax ay bx by' px py = 0 → crs cx cy dx dy px py = 0 → crs ax ay bx by' qx qy = 0 → crs cx cy dx dy qx qy = 0 → px = qx ∧ py = qy := fun p0 p1 q0 q1 => one_shared ht col p0 p1 q0 q1
    have s0 := crs_self0 ax ay bx by'
    have s1 := crs_self1 ax ay bx by'
    have t0 := crs_self0 cx cy dx dy
    have t1 := crs_self1 cx cy dx dy
    have e01 : ¬ (On cx cy dx dy ax ay ∧ On cx cy dx dy bx by') := fun ⟨h, h'⟩ => hs (one s0 h.1 s1 h'.1)
    have e23 : ¬ (On ax ay bx by' cx cy ∧ On ax ay bx by' dx dy) := fun ⟨h, h'⟩ => ht (one h.1 t0 h'.1 t1)
    have e02 : On cx cy dx dy ax ay → On ax ay bx by' cx cy → ax = cx ∧ ay = cy := fun h h' => one s0 h.1 h'.1 t0
    have e03 : On cx cy dx dy ax ay → On ax ay bx by' dx dy → ax = dx ∧ ay = dy := fun h h' => one s0 h.1 h'.1 t1
    have e12 : On cx cy dx dy bx by' → On ax ay bx by' cx cy → bx = cx ∧ by' = cy := fun h h' => one s1 h.1 h'.1 t0
    have e13 : On cx cy dx dy bx by' → On ax ay bx by' dx dy → bx = dx ∧ by' = dy := fun h h' => one s1 h.1 h'.1 t1
    have sh : M_Shared ax ay bx by' cx cy dx dy = if On ax ay bx by' cx cy ∨ On ax ay bx by' dx dy ∨ On cx cy dx dy ax ay ∨ On cx cy dx dy bx by' then 1 else 0 := by
      unfold M_Shared
      by_cases h0 : On cx cy dx dy ax ay <;> by_cases h1 : On cx cy dx dy bx by' <;> by_cases h2 : On ax ay bx by' cx cy <;> by_cases h3 : On ax ay bx by' dx dy
      all_goals first
        | exact absurd (And.intro h0 h1) e01
        | exact absurd (And.intro h2 h3) e23
        | (have t := eq_true (e02 h0 h2); simp only [h0, h1, h2, h3, t, if_true, if_false, and_true, true_and, false_and, and_false, not_true, not_false_eq_true, or_true, true_or, or_false, false_or]; first | done | rfl)
        | (have t := eq_true (e03 h0 h3); simp only [h0, h1, h2, h3, t, if_true, if_false, and_true, true_and, false_and, and_false, not_true, not_false_eq_true, or_true, true_or, or_false, false_or]; first | done | rfl)
        | (have t := eq_true (e12 h1 h2); simp only [h0, h1, h2, h3, t, if_true, if_false, and_true, true_and, false_and, and_false, not_true, not_false_eq_true, or_true, true_or, or_false, false_or]; first | done | rfl)
        | (have t := eq_true (e13 h1 h3); simp only [h0, h1, h2, h3, t, if_true, if_false, and_true, true_and, false_and, and_false, not_true, not_false_eq_true, or_true, true_or, or_false, false_or]; first | done | rfl)
        | (simp only [h0, h1, h2, h3, if_true, if_false, and_true, true_and, false_and, and_false, not_true, not_false_eq_true, or_true, true_or, or_false, false_or]; first | done | rfl)
        | (simp only [h0, h1, h2, h3, if_true, if_false, and_true, true_and, false_and, and_false, not_true, not_false_eq_true, or_true, true_or, or_false, false_or]; first | done | rfl)
    rw [sh]
    have cz : crs ax ay bx by' cx cy * crs ax ay bx by' dx dy < 0 ∧ crs cx cy dx dy ax ay * crs cx cy dx dy bx by' < 0 → ¬ (On ax ay bx by' cx cy ∨ On ax ay bx by' dx dy ∨ On cx cy dx dy ax ay ∨ On cx cy dx dy bx by') := by
      rintro ⟨g, g'⟩ (h | h | h | h)
      · rw [h.1, Int.zero_mul] at g; omega
      · rw [h.1, Int.mul_zero] at g; omega
      · rw [h.1, Int.zero_mul] at g'; omega
      · rw [h.1, Int.mul_zero] at g'; omega
    by_cases hap : Apart ax ay bx by' cx cy dx dy
    · have n := apart_no hap
      rw [if_pos hap, if_neg (apart_cross hap), if_neg (by simp [n.1, n.2.1, n.2.2.1, n.2.2.2])]
    · rw [if_neg hap]
      by_cases any : On ax ay bx by' cx cy ∨ On ax ay bx by' dx dy ∨ On cx cy dx dy ax ay ∨ On cx cy dx dy bx by'
      · rw [if_pos any, if_neg (fun h => cz h any), if_neg (by decide), if_pos rfl]
      · rw [if_neg any, if_pos rfl]
end Go.Eng
namespace Go.Eng
open Go Go.Proofs Geo
set_option linter.unusedSimpArgs false
set_option linter.unusedVariables false
set_option maxRecDepth 20000

def inR (x l m : Int) : Bool := decide (l ≤ x ∧ x ≤ m)
theorem f116 (x l m : Int) : Fn Tryz.prog 116 false [i x, i l, i m] (.bool (inR x l m)) := by
  refine Fn.by_sx hX (by kernel_rfl) c116 (by kernel_rfl) (by rfl) ?_
  simp [i116, sxa, sxb, sxc, Ex.ok, Ex.val, ← wr_eq]
  repeat' (first | intro _ | (simp [sxa, sxb, sxc, Ex.ok, Ex.val, ← wr_eq, *]) | refine CondS_d ?_ ?_ | refine CondS_b ?_ ?_ | refine GrdS_d ?_ ?_ | refine GrdS_b ?_ ?_ | refine OkS_i (by omega) ?_ | fail)
  all_goals simp_all [inR]; try omega

theorem f75 (x l m : Int) : Fn Tryz.prog 75 false [i x, i l, i m] (.bool (inR x l m)) := by
  refine Fn.by_sx hX (by kernel_rfl) c75 (by kernel_rfl) (by rfl) ?_
  simp [i75, sxa, sxb, sxc, Ex.ok, Ex.val, ← wr_eq]
  repeat' (first | intro _ | (simp [sxa, sxb, sxc, Ex.ok, Ex.val, ← wr_eq, *]) | refine CondS_d ?_ ?_ | refine CondS_b ?_ ?_ | refine GrdS_d ?_ ?_ | refine GrdS_b ?_ ?_ | refine OkS_i (by omega) ?_ | fail)
  all_goals simp_all [inR]; try omega
theorem f186 (x y : Int) : Fn Tryz.prog 186 false [i x, i y] (i (max x y)) := by
  refine Fn.by_sx hX (by kernel_rfl) c186 (by kernel_rfl) (by rfl) ?_
  simp [i186, sxa, sxb, sxc, Ex.ok, Ex.val, ← wr_eq]
  repeat' (first | intro _ | (simp [sxa, sxb, sxc, Ex.ok, Ex.val, ← wr_eq, *]) | refine CondS_d ?_ ?_ | refine CondS_b ?_ ?_ | refine GrdS_d ?_ ?_ | refine GrdS_b ?_ ?_ | refine OkS_i (by omega) ?_ | fail)
  all_goals omega
theorem f172 (x y : Int) : Fn Tryz.prog 172 false [i x, i y] (i (min x y)) := by
  refine Fn.by_sx hX (by kernel_rfl) c172 (by kernel_rfl) (by rfl) ?_
  simp [i172, sxa, sxb, sxc, Ex.ok, Ex.val, ← wr_eq]
  repeat' (first | intro _ | (simp [sxa, sxb, sxc, Ex.ok, Ex.val, ← wr_eq, *]) | refine CondS_d ?_ ?_ | refine CondS_b ?_ ?_ | refine GrdS_d ?_ ?_ | refine GrdS_b ?_ ?_ | refine OkS_i (by omega) ?_ | fail)
  all_goals omega
theorem f70 (x y : Int) : Fn Tryz.prog 70 false [.agg [i x, i y]] (.bool (M_IsPoint x y)) := by
  refine Fn.by_sx hX (by kernel_rfl) c70 (by kernel_rfl) (by rfl) ?_
  simp [i70, sxa, sxb, sxc, Ex.ok, Ex.val, ← wr_eq]
  repeat' (first | intro _ | (simp [sxa, sxb, sxc, Ex.ok, Ex.val, ← wr_eq, *]) | refine CallS_b (f116 _ _ _) (fun h => ?_) (fun h => ?_) | refine CondS_d ?_ ?_ | refine CondS_b ?_ ?_ | refine GrdS_d ?_ ?_ | refine GrdS_b ?_ ?_ | refine OkS_i (by omega) ?_ | fail)
  all_goals simp_all [M_IsPoint, inR]
  all_goals omega

theorem f35 (x y : Int) : Fn Tryz.prog 35 false [.agg [i x, i y]] (.bool (M_IsPoint x y)) := by
  refine Fn.by_sx hX (by kernel_rfl) c35 (by kernel_rfl) (by rfl) ?_
  simp [i35, sxa, sxb, sxc, Ex.ok, Ex.val, ← wr_eq]
  repeat' (first | intro _ | (simp [sxa, sxb, sxc, Ex.ok, Ex.val, ← wr_eq, *]) | refine CallS_b (f75 _ _ _) (fun h => ?_) (fun h => ?_) | refine CondS_d ?_ ?_ | refine CondS_b ?_ ?_ | refine GrdS_d ?_ ?_ | refine GrdS_b ?_ ?_ | refine OkS_i (by omega) ?_ | fail)
  all_goals simp_all [M_IsPoint, inR]
  all_goals omega
theorem f185 (ax ay bx by' : Int) : Fn Tryz.prog 185 false [.agg [i ax, i ay, i bx, i by']] (.bool (M_IsSegment ax ay bx by')) := by
  refine Fn.by_sx hX (by kernel_rfl) c185 (by kernel_rfl) (by rfl) ?_
  simp [i185, sxa, sxb, sxc, Ex.ok, Ex.val, ← wr_eq]
  repeat' (first | intro _ | (simp [sxa, sxb, sxc, Ex.ok, Ex.val, ← wr_eq, *]) | refine CallS_b (f70 _ _) (fun h => ?_) (fun h => ?_) | refine CondS_d ?_ ?_ | refine CondS_b ?_ ?_ | refine GrdS_d ?_ ?_ | refine GrdS_b ?_ ?_ | refine OkS_i (by omega) ?_ | fail)
  all_goals simp_all [M_IsSegment]

theorem f140 (ax ay bx by' : Int) : Fn Tryz.prog 140 false [.agg [i ax, i ay, i bx, i by']] (.bool (M_IsSegment ax ay bx by')) := by
  refine Fn.by_sx hX (by kernel_rfl) c140 (by kernel_rfl) (by rfl) ?_
  simp [i140, sxa, sxb, sxc, Ex.ok, Ex.val, ← wr_eq]
  repeat' (first | intro _ | (simp [sxa, sxb, sxc, Ex.ok, Ex.val, ← wr_eq, *]) | refine CallS_b (f35 _ _) (fun h => ?_) (fun h => ?_) | refine CondS_d ?_ ?_ | refine CondS_b ?_ ?_ | refine GrdS_d ?_ ?_ | refine GrdS_b ?_ ?_ | refine OkS_i (by omega) ?_ | fail)
  all_goals simp_all [M_IsSegment]
def crw (ax ay bx by' px py : Int) : Int := wr .i64 (wr .i64 (wr .i64 (bx - ax) * wr .i64 (py - ay)) - wr .i64 (wr .i64 (by' - ay) * wr .i64 (px - ax)))
theorem crw_crs {ax ay bx by' px py : Int} (h1 : M_IsPoint ax ay = true) (h2 : M_IsPoint bx by' = true) (h3 : M_IsPoint px py = true) : crw ax ay bx by' px py = crs ax ay bx by' px py := by
  have h1 := (M_IsPoint_iff _ _).1 h1
  have h2 := (M_IsPoint_iff _ _).1 h2
  have h3 := (M_IsPoint_iff _ _).1 h3
  exact crs_wrap h1.1 h1.2 h2.1 h2.2 h3.1 h3.2
theorem f217 (ax ay bx by' px py : Int) : Fn Tryz.prog 217 false [.agg [i ax, i ay], .agg [i bx, i by'], .agg [i px, i py]] (i (crw ax ay bx by' px py)) := by
  refine Fn.by_sx hX (by kernel_rfl) c217 (by kernel_rfl) (by rfl) ?_
  simp [i217, sxa, sxb, sxc, Ex.ok, Ex.val, ← wr_eq]
  rfl

theorem f202 (ax ay bx by' px py : Int) : Fn Tryz.prog 202 false [.agg [i ax, i ay], .agg [i bx, i by'], .agg [i px, i py]] (i (crw ax ay bx by' px py)) := by
  refine Fn.by_sx hX (by kernel_rfl) c202 (by kernel_rfl) (by rfl) ?_
  simp [i202, sxa, sxb, sxc, Ex.ok, Ex.val, ← wr_eq]
  rfl
theorem f199 (x : Int) : Fn Tryz.prog 199 false [i x] (.bool false) := by
  refine Fn.by_sx hX (by kernel_rfl) c199 (by kernel_rfl) (by rfl) ?_
  simp [i199, sxa, sxb, sxc, Ex.ok, Ex.val, ← wr_eq]
theorem f201 (x y : Int) : Fn Tryz.prog 201 false [i x, i y] (i (sgn (x - y))) := by
  refine Fn.by_sx hX (by kernel_rfl) c201 (by kernel_rfl) (by rfl) ?_
  simp [i201, sxa, sxb, sxc, Ex.ok, Ex.val, ← wr_eq]
  repeat' (first | intro _ | (simp [sxa, sxb, sxc, Ex.ok, Ex.val, ← wr_eq, *]) | refine CallS_i (f199 _) ?_ | refine CondS_d ?_ ?_ | refine CondS_b ?_ ?_ | refine GrdS_d ?_ ?_ | refine GrdS_b ?_ ?_ | refine OkS_i (by omega) ?_ | fail)
  all_goals (unfold sgn; split <;> (try split) <;> omega)
def wSide (ax ay bx by' px py : Int) : Int := if M_IsPoint ax ay && (M_IsPoint bx by' && M_IsPoint px py) then sgn (crw ax ay bx by' px py) else 0
theorem wSide_eq (ax ay bx by' px py : Int) : wSide ax ay bx by' px py = M_SideOf ax ay bx by' px py := by
  unfold wSide M_SideOf
  split
  · rename_i h
    simp only [Bool.and_eq_true] at h
    rw [crw_crs h.1 h.2.1 h.2.2]
  · rfl
theorem f209 (ax ay bx by' px py : Int) : Fn Tryz.prog 209 false [.agg [i ax, i ay], .agg [i bx, i by'], .agg [i px, i py]] (i (M_SideOf ax ay bx by' px py)) := by
  rw [← wSide_eq]
  refine Fn.by_sx hX (by kernel_rfl) c209 (by kernel_rfl) (by rfl) ?_
  simp [i209, sxa, sxb, sxc, Ex.ok, Ex.val, ← wr_eq]
  repeat' (first | intro _ | (simp [sxa, sxb, sxc, Ex.ok, Ex.val, ← wr_eq, *]) | refine CallS_b (f70 _ _) (fun h => ?_) (fun h => ?_) | refine CallS_i (f217 _ _ _ _ _ _) ?_ | refine CondS_d ?_ ?_ | refine CondS_b ?_ ?_ | refine GrdS_d ?_ ?_ | refine GrdS_b ?_ ?_ | refine OkS_i (by omega) ?_ | fail)
  all_goals simp_all [wSide, sgn]
  all_goals omega
theorem f175 (ax ay bx by' px py : Int) : Fn Tryz.prog 175 false [.agg [i ax, i ay], .agg [i bx, i by'], .agg [i px, i py]] (i (M_SideOf ax ay bx by' px py)) := by
  rw [← wSide_eq]
  refine Fn.by_sx hX (by kernel_rfl) c175 (by kernel_rfl) (by rfl) ?_
  simp [i175, sxa, sxb, sxc, Ex.ok, Ex.val, ← wr_eq]
  repeat' (first | intro _ | (simp [sxa, sxb, sxc, Ex.ok, Ex.val, ← wr_eq, *]) | refine CallS_b (f35 _ _) (fun h => ?_) (fun h => ?_) | refine CallS_i (f202 _ _ _ _ _ _) ?_ | refine CallS_i (f201 _ _) ?_ | refine CondS_d ?_ ?_ | refine CondS_b ?_ ?_ | refine GrdS_d ?_ ?_ | refine GrdS_b ?_ ?_ | refine OkS_i (by omega) ?_ | fail)
  all_goals simp_all [wSide, sgn]
def wOn (ax ay bx by' px py : Int) : Bool := M_IsSegment ax ay bx by' && (M_IsPoint px py && (decide (crw ax ay bx by' px py = 0) && (inR px (min ax bx) (max ax bx) && inR py (min ay by') (max ay by'))))
theorem wOn_eq (ax ay bx by' px py : Int) : wOn ax ay bx by' px py = M_IsOn ax ay bx by' px py := by
  unfold wOn M_IsOn
  by_cases h1 : M_IsSegment ax ay bx by' = true
  · by_cases h2 : M_IsPoint px py = true
    · have h3 := (M_IsSegment_iff _ _ _ _).1 h1
      have h4 := (M_IsPoint_iff _ _).1 h2
      rw [crw_crs ((M_IsPoint_iff _ _).2 h3.1) ((M_IsPoint_iff _ _).2 h3.2.1) h2, h1, h2]
      rw [Bool.eq_iff_iff]; simp [On, Inb, inR, and_assoc]
    · simp [h2]
  · simp [h1]
theorem f216 (ax ay bx by' px py : Int) : Fn Tryz.prog 216 false [.agg [i ax, i ay, i bx, i by'], .agg [i px, i py]] (.bool (M_IsOn ax ay bx by' px py)) := by
  rw [← wOn_eq]
  refine Fn.by_sx hX (by kernel_rfl) c216 (by kernel_rfl) (by rfl) ?_
  simp [i216, sxa, sxb, sxc, Ex.ok, Ex.val, ← wr_eq]
  repeat' (first | intro _ | (simp [sxa, sxb, sxc, Ex.ok, Ex.val, ← wr_eq, *]) | refine CallS_b (f185 _ _ _ _) (fun h => ?_) (fun h => ?_) | refine CallS_b (f70 _ _) (fun h => ?_) (fun h => ?_) | refine CallS_b (f116 _ _ _) (fun h => ?_) (fun h => ?_) | refine CallS_i (f217 _ _ _ _ _ _) ?_ | refine CallS_i (f172 _ _) ?_ | refine CallS_i (f186 _ _) ?_ | refine CondS_d ?_ ?_ | refine CondS_b ?_ ?_ | refine GrdS_d ?_ ?_ | refine GrdS_b ?_ ?_ | refine OkS_i (by omega) ?_ | fail)
  all_goals simp_all [wOn]
def wOn2 (ax ay bx by' px py : Int) : Bool := M_IsSegment ax ay bx by' && (M_IsPoint px py && (decide (M_SideOf ax ay bx by' px py = 0) && (inR px (if bx < ax then bx else ax) (if ax < bx then bx else ax) && inR py (if by' < ay then by' else ay) (if ay < by' then by' else ay))))
theorem side_sgn {ax ay bx by' px py : Int} (h1 : M_IsPoint ax ay = true) (h2 : M_IsPoint bx by' = true) (h3 : M_IsPoint px py = true) : M_SideOf ax ay bx by' px py = sgn (crs ax ay bx by' px py) := by
  unfold M_SideOf
  rw [if_pos (by rw [h1, h2, h3]; rfl)]
theorem wOn2_eq (ax ay bx by' px py : Int) : wOn2 ax ay bx by' px py = M_IsOn ax ay bx by' px py := by
  unfold wOn2 M_IsOn
  by_cases h1 : M_IsSegment ax ay bx by' = true
  · by_cases h2 : M_IsPoint px py = true
    · have h3 := (M_IsSegment_iff _ _ _ _).1 h1
      rw [side_sgn ((M_IsPoint_iff _ _).2 h3.1) ((M_IsPoint_iff _ _).2 h3.2.1) h2, h1, h2]
      have e : ∀ x y : Int, (if y < x then y else x) = min x y := by intro x y; omega
      have e' : ∀ x y : Int, (if x < y then y else x) = max x y := by intro x y; omega
      rw [e, e', e, e', Bool.eq_iff_iff]; simp [On, Inb, inR, and_assoc, sgn_zero]
    · simp [h2]
  · simp [h1]
theorem f177 (ax ay bx by' px py : Int) : Fn Tryz.prog 177 false [.agg [i ax, i ay, i bx, i by'], .agg [i px, i py]] (.bool (M_IsOn ax ay bx by' px py)) := by
  rw [← wOn2_eq]
  refine Fn.by_sx hX (by kernel_rfl) c177 (by kernel_rfl) (by rfl) ?_
  simp [i177, sxa, sxb, sxc, Ex.ok, Ex.val, ← wr_eq]
  repeat' (first | intro _ | (simp [sxa, sxb, sxc, Ex.ok, Ex.val, ← wr_eq, *]) | refine CallS_b (f140 _ _ _ _) (fun h => ?_) (fun h => ?_) | refine CallS_b (f35 _ _) (fun h => ?_) (fun h => ?_) | refine CallS_b (f75 _ _ _) (fun h => ?_) (fun h => ?_) | refine CallS_i (f175 _ _ _ _ _ _) ?_ | refine CondS_d ?_ ?_ | refine CondS_b ?_ ?_ | refine GrdS_d ?_ ?_ | refine GrdS_b ?_ ?_ | refine OkS_i (by omega) ?_ | fail)
  all_goals simp_all [wOn2]
def before (ax ay bx by' : Int) : Bool := decide (ay < by') || (decide (ay = by') && decide (ax < bx))
theorem f34 (ax ay bx by' : Int) : Fn Tryz.prog 34 false [.agg [i ax, i ay], .agg [i bx, i by']] (.bool (before ax ay bx by')) := by
  refine Fn.by_sx hX (by kernel_rfl) c34 (by kernel_rfl) (by rfl) ?_
  simp [i34, sxa, sxb, sxc, Ex.ok, Ex.val, ← wr_eq]
  repeat' (first | intro _ | (simp [sxa, sxb, sxc, Ex.ok, Ex.val, ← wr_eq, *]) | refine CondS_d ?_ ?_ | refine CondS_b ?_ ?_ | refine GrdS_d ?_ ?_ | refine GrdS_b ?_ ?_ | refine OkS_i (by omega) ?_ | fail)
  all_goals simp_all [before]
theorem f203 (ax ay bx by' : Int) : Fn Tryz.prog 203 false [.agg [i ax, i ay, i bx, i by']] (.agg [i bx, i by', i ax, i ay]) := by
  refine Fn.by_sx hX (by kernel_rfl) c203 (by kernel_rfl) (by rfl) ?_
  simp [i203, sxa, sxb, sxc, Ex.ok, Ex.val, ← wr_eq]
theorem f176 (ax ay bx by' : Int) : Fn Tryz.prog 176 false [.agg [i ax, i ay, i bx, i by']] (.agg [i (if before bx by' ax ay then bx else ax), i (if before bx by' ax ay then by' else ay), i (if before bx by' ax ay then ax else bx), i (if before bx by' ax ay then ay else by')]) := by
  refine Fn.by_sx hX (by kernel_rfl) c176 (by kernel_rfl) (by rfl) ?_
  simp [i176, sxa, sxb, sxc, Ex.ok, Ex.val, ← wr_eq]
  repeat' (first | intro _ | (simp [sxa, sxb, sxc, Ex.ok, Ex.val, ← wr_eq, *]) | refine CallS_b (f34 _ _ _ _) (fun h => ?_) (fun h => ?_) | refine CallS_i (f203 _ _ _ _) ?_ | refine CondS_d ?_ ?_ | refine CondS_b ?_ ?_ | refine GrdS_d ?_ ?_ | refine GrdS_b ?_ ?_ | refine OkS_i (by omega) ?_ | fail)
end Go.Eng
namespace Go.Eng
open Go Go.Proofs Geo
set_option linter.unusedSimpArgs false
set_option linter.unusedVariables false
set_option maxRecDepth 20000

def cp (p : Pt) : List PV := [i p.f0, i p.f1]
theorem all_take {α : Type} {l : List α} {f : α → Bool} {k : Nat} (h : k < l.length) : (l.take (k + 1)).all f = ((l.take k).all f && f l[k]) := by
  rw [List.take_add_one, List.getElem?_eq_getElem h, List.all_append]
  simp only [Option.toList_some, List.all_cons, List.all_nil, Bool.and_true]
def eqb (q p : Pt) : Bool := decide (q.f0 = p.f0 ∧ q.f1 = p.f1)
def maybe (c : Bool) (p : Pt) : List Pt := if c = true then [p] else []
/-- the different ends of both that lie on the other one -/
def shl (S T : Sg) (e : List Pt) : Nat → List Pt
  | 0 => []
  | n + 1 => shl S T e n ++ maybe ((if n < 2 then M_IsOn T.f0.f0 T.f0.f1 T.f1.f0 T.f1.f1 (e.getD n ⟨0, 0⟩).f0 (e.getD n ⟨0, 0⟩).f1 else M_IsOn S.f0.f0 S.f0.f1 S.f1.f0 S.f1.f1 (e.getD n ⟨0, 0⟩).f0 (e.getD n ⟨0, 0⟩).f1) && (shl S T e n).all fun q => !(eqb q (e.getD n ⟨0, 0⟩))) (e.getD n ⟨0, 0⟩)
theorem shl_len (S T : Sg) (e : List Pt) : ∀ n, (shl S T e n).length ≤ n
  | 0 => Nat.le_refl _
  | n + 1 => by
    have := shl_len S T e n
    have hm : ∀ c p, (maybe c p).length ≤ 1 := by intro c p; unfold maybe; split <;> simp
    unfold shl
    rw [List.length_append]
    exact Nat.add_le_add this (hm _ _)
def cs (s : Sg) : List PV := [i s.f0.f0, i s.f0.f1, i s.f1.f0, i s.f1.f1]
def ends (S T : Sg) : List Pt := [S.f0, S.f1, T.f0, T.f1]
theorem l208_2 {d : List Pt} {e : List Pt} {p : Pt} {n : Nat} {on : Bool} {V : Env} (hn : n < e.length) (hp : e[n] = p) (hd : d.length ≤ 4) (h5 : V 5 = .lst 2 false (d.map cp)) (h6 : V 6 = .lst 2 false (e.map cp)) (h7 : V 7 = i n) (h8 : V 8 = .bool on) (h9 : V 9 = i 0) :
    sx (FC Tryz.prog) (.loop (.seq (.seq (.ops [s 46 (.mv (t 9)),
  s 47 (.mv (t 5)),
  s 48 (.len false (t 47)),
  s 49 (.bin .lss (t 46) (t 48))])
 (.cond (t 49) .skip (.exit 2)))
 (.seq (.block 3 (.ops [s 52 (.mv (t 8)),
  s 53 (.mv (t 52)),
  sg [(53, true)] 54 (.mv (t 5)),
  sg [(53, true)] 55 (.mv (t 9)),
  sg [(53, true)] 56 (.idx (t 54) (t 55) 2),
  sg [(53, true)] 57 (.ldE 54 56 0 2 true true 2),
  sg [(53, true)] 58 (.mv (t 6)),
  sg [(53, true)] 59 (.mv (t 7)),
  sg [(53, true)] 60 (.idx (t 58) (t 59) 2),
  sg [(53, true)] 61 (.ldE 58 60 0 2 true true 2),
  sg [(53, true)] 62 (.eqa true [0, 0] (t 57) (t 61)),
  s 63 (.pick (t 53) (t 62) (c (.bool false))),
  s 8 (.mv (t 63))]))
 (.ops [s 50 (.mv (t 9)),
  s 51 (.bin .add (t 50) (c (i 1))),
  s 9 (.mv (t 51))])))) (fun x V' => x = .exit 2 ∧ V' 2 = V 2 ∧ V' 3 = V 3 ∧ V' 5 = V 5 ∧ V' 6 = V 6 ∧ V' 7 = V 7 ∧ V' 8 = .bool (on && d.all fun q => !(eqb q p))) V := by
  refine sx_count d.length (fun k V' => V' 2 = V 2 ∧ V' 3 = V 3 ∧ V' 5 = V 5 ∧ V' 6 = V 6 ∧ V' 7 = V 7 ∧ V' 9 = i k ∧ V' 8 = .bool (on && (d.take k).all fun q => !(eqb q p))) 0 (by omega) ?_ ?_
  · simp [h8, h9]
  rintro k V' hk ⟨g2, g3, g5, g6, g7, g9, g8⟩
  have hw' : wr .i64 ((k : Int) + 1) = k + 1 := wr_in (by omega) (by omega)
  simp [sxa, sxb, sxc, Ex.ok, Ex.val, ← wr_eq, g2, g3, g5, g6, g7, g9, g8, h5, h6, h7]
  refine CondS_d (fun hkl => ?_) (fun hkl => ?_)
  · have hkl' : k < d.length := by omega
    rw [all_take hkl', ← Bool.and_assoc]
    generalize (on && (d.take k).all fun q => !(eqb q p)) = b at g8 ⊢
    cases b
    · simp [sxa, sxb, sxc, Ex.ok, Ex.val, ← wr_eq, g2, g3, g5, g6, g7, g9, g8, h5, h6, h7, hw', hkl']
    · simp [sxa, sxb, sxc, Ex.ok, Ex.val, ← wr_eq, g2, g3, g5, g6, g7, g9, g8, h5, h6, h7, hw', hkl', hn, hp, cp, eqb]
  · have : k = d.length := by omega
    subst this
    simp [sxa, sxb, sxc, Ex.ok, Ex.val, ← wr_eq, g2, g3, g5, g6, g7, g9, g8, h5, h6, h7]
theorem f208 (S T : Sg) : Fn Tryz.prog 208 false [.agg (cs S), .agg (cs T)] (i ((shl S T (ends S T) 4).length : Nat)) := by
  refine Fn.by_sx hX (by kernel_rfl) c208 (by kernel_rfl) (by rfl) ?_
  simp [i208, sxa, sxb, sxc, Ex.ok, Ex.val, ← wr_eq]
  simp [cs, sxa, sxb, sxc, Ex.ok, Ex.val, ← wr_eq]
  refine sx_count 4 (fun n V => V 2 = .ptr (cs S) ∧ V 3 = .ptr (cs T) ∧ V 5 = .lst 2 false ((shl S T (ends S T) n).map cp) ∧ V 6 = .lst 2 false ((ends S T).map cp) ∧ V 7 = i n) 0 (by omega) ?_ ?_
  · simp [sxa, sxb, sxc, Ex.ok, Ex.val, ← wr_eq, cs, shl, ends, cp]
  · rintro n V hn ⟨h2, h3, h5, h6, h7⟩
    have hw : wr .i64 ((n : Int) + 1) = n + 1 := wr_in (by omega) (by omega)
    simp [sxa, sxb, sxc, Ex.ok, Ex.val, ← wr_eq, h2, h3, h5, h6, h7]
    refine CondS_d (fun hlt => ?_) (fun hge => ?_)
    · have hlt' : n < (ends S T).length := by simp [ends]; omega
      obtain ⟨M, hM1, hM2⟩ : ∃ M : Bool, ((n : Int) < 2 → M_IsOn T.f0.f0 T.f0.f1 T.f1.f0 T.f1.f1 (ends S T)[n].f0 (ends S T)[n].f1 = M) ∧ (¬ (n : Int) < 2 → M_IsOn S.f0.f0 S.f0.f1 S.f1.f0 S.f1.f1 (ends S T)[n].f0 (ends S T)[n].f1 = M) := by
        by_cases h : (n : Int) < 2
        · exact ⟨_, fun _ => rfl, fun h' => absurd h h'⟩
        · exact ⟨_, fun h' => absurd h' h, fun _ => rfl⟩
      have hu : shl S T (ends S T) (n + 1) = shl S T (ends S T) n ++ maybe (M && (shl S T (ends S T) n).all fun q => !(eqb q (ends S T)[n])) (ends S T)[n] := by
        have e : (ends S T).getD n ⟨0, 0⟩ = (ends S T)[n] := by simp [hlt']
        rw [shl, e]
        by_cases h : n < 2
        · rw [if_pos h, hM1 (by omega)]
        · rw [if_neg h, hM2 (by omega)]
      have hdl := shl_len S T (ends S T) n
      rw [hu]
      clear hu
      generalize shl S T (ends S T) n = d at h5 hdl ⊢
      obtain ⟨X, hX⟩ : ∃ X, (M && d.all fun q => !(eqb q (ends S T)[n])) = X := ⟨_, rfl⟩
      rw [hX]
      have hn4 : n < 4 := by omega
      have fin : ∀ {Q : Ext → Env → Prop} {V1 : Env}, V1 2 = .ptr (cs S) → V1 3 = .ptr (cs T) → V1 5 = .lst 2 false (d.map cp) → V1 6 = .lst 2 false ((ends S T).map cp) → V1 7 = i n → V1 8 = .bool M → V1 9 = i 0 →
          (∀ V2, V2 2 = .ptr (cs S) → V2 3 = .ptr (cs T) → V2 5 = .lst 2 false (d.map cp) → V2 6 = .lst 2 false ((ends S T).map cp) → V2 7 = i n → V2 8 = .bool X → Q (.exit 2) V2) → sx (FC Tryz.prog) (.loop (.seq (.seq (.ops [s 46 (.mv (t 9)),
  s 47 (.mv (t 5)),
  s 48 (.len false (t 47)),
  s 49 (.bin .lss (t 46) (t 48))])
 (.cond (t 49) .skip (.exit 2)))
 (.seq (.block 3 (.ops [s 52 (.mv (t 8)),
  s 53 (.mv (t 52)),
  sg [(53, true)] 54 (.mv (t 5)),
  sg [(53, true)] 55 (.mv (t 9)),
  sg [(53, true)] 56 (.idx (t 54) (t 55) 2),
  sg [(53, true)] 57 (.ldE 54 56 0 2 true true 2),
  sg [(53, true)] 58 (.mv (t 6)),
  sg [(53, true)] 59 (.mv (t 7)),
  sg [(53, true)] 60 (.idx (t 58) (t 59) 2),
  sg [(53, true)] 61 (.ldE 58 60 0 2 true true 2),
  sg [(53, true)] 62 (.eqa true [0, 0] (t 57) (t 61)),
  s 63 (.pick (t 53) (t 62) (c (.bool false))),
  s 8 (.mv (t 63))]))
 (.ops [s 50 (.mv (t 9)),
  s 51 (.bin .add (t 50) (c (i 1))),
  s 9 (.mv (t 51))])))) Q V1 := by
        intro Q V1 a2 a3 a5 a6 a7 a8 a9 hq
        refine sx_mono _ _ _ _ ?_ (l208_2 hlt' rfl (by omega) a5 a6 a7 a8 a9)
        rintro x V2 ⟨rfl, b2, b3, b5, b6, b7, b8⟩
        exact hq V2 (by rw [b2, a2]) (by rw [b3, a3]) (by rw [b5, a5]) (by rw [b6, a6]) (by rw [b7, a7]) (by rw [b8, hX])
      clear hX
      simp [sxa, sxb, sxc, Ex.ok, Ex.val, ← wr_eq, h2, h3, h5, h6, h7, hlt, cs, cp]
      repeat' (first | intro _ | (simp [sxa, sxb, sxc, Ex.ok, Ex.val, ← wr_eq, cs, cp, *]) | refine CallS_i (f216 _ _ _ _ _ _) ?_ | refine CondS_d ?_ ?_ | refine CondS_b ?_ ?_ | refine GrdS_d ?_ ?_ | refine GrdS_b ?_ ?_ | refine OkS_i (by omega) ?_ | fail)
      all_goals try omega
      all_goals refine fin (by simp [sxa, sxb, sxc, Ex.ok, Ex.val, ← wr_eq, h2]) (by simp [sxa, sxb, sxc, Ex.ok, Ex.val, ← wr_eq, h3]) (by simp [sxa, sxb, sxc, Ex.ok, Ex.val, ← wr_eq, h5]) (by simp [sxa, sxb, sxc, Ex.ok, Ex.val, ← wr_eq, h6]) (by simp [sxa, sxb, sxc, Ex.ok, Ex.val, ← wr_eq, h7]) (by simp [sxa, sxb, sxc, Ex.ok, Ex.val, ← wr_eq, *]; try omega) (by simp [sxa, sxb, sxc, Ex.ok, Ex.val, ← wr_eq]) ?_
      all_goals
        rintro V2 b2 b3 b5 b6 b7 b8
        cases X
        all_goals
          simp [sxa, sxb, sxc, Ex.ok, Ex.val, ← wr_eq, b2, b3, b5, b6, b7, b8, hw, hlt', hn4, cs, cp, maybe]
          try (refine OkS_i (by omega) ?_; simp [sxa, sxb, sxc, Ex.ok, Ex.val, ← wr_eq, b2, b3, b5, b6, b7, b8, hw, hlt', hn4, cs, cp, maybe])
    · have : n = 4 := by omega
      subst this
      simp [sxa, sxb, sxc, Ex.ok, Ex.val, ← wr_eq, *]
end Go.Eng
namespace Go.Eng
open Go Go.Proofs Geo
set_option linter.unusedSimpArgs false
set_option linter.unusedVariables false
set_option maxRecDepth 20000

theorem maybe_all (c : Bool) (p : Pt) (f : Pt → Bool) : (maybe c p).all f = (!c || f p) := by cases c <;> simp [maybe]
theorem maybe_len (c : Bool) (p : Pt) : (maybe c p).length = if c = true then 1 else 0 := by cases c <;> simp [maybe]
theorem shl_eq {ax ay bx by' cx cy dx dy : Int} (h1 : M_IsSegment ax ay bx by' = true) (h2 : M_IsSegment cx cy dx dy = true) :
    ((shl ⟨⟨ax, ay⟩, ⟨bx, by'⟩⟩ ⟨⟨cx, cy⟩, ⟨dx, dy⟩⟩ (ends ⟨⟨ax, ay⟩, ⟨bx, by'⟩⟩ ⟨⟨cx, cy⟩, ⟨dx, dy⟩⟩) 4).length : Int) = M_Shared ax ay bx by' cx cy dx dy := by
  obtain ⟨pa, pb, hs⟩ := (M_IsSegment_iff _ _ _ _).1 h1
  obtain ⟨pc, pd, ht⟩ := (M_IsSegment_iff _ _ _ _).1 h2
  have e4 : ∀ {ax ay bx by' px py : Int}, M_IsSegment ax ay bx by' = true → Vl px ∧ Vl py → M_IsOn ax ay bx by' px py = decide (On ax ay bx by' px py) := by
    intro ax ay bx by' px py g1 g2
    unfold M_IsOn
    rw [g1, (M_IsPoint_iff _ _).2 g2, Bool.true_and, Bool.true_and]
  have n01 : eqb ⟨ax, ay⟩ ⟨bx, by'⟩ = false := decide_eq_false hs
  have n23 : eqb ⟨cx, cy⟩ ⟨dx, dy⟩ = false := decide_eq_false ht
  have E0 : (ends ⟨⟨ax, ay⟩, ⟨bx, by'⟩⟩ ⟨⟨cx, cy⟩, ⟨dx, dy⟩⟩).getD 0 ⟨0, 0⟩ = ⟨ax, ay⟩ := rfl
  have E1 : (ends ⟨⟨ax, ay⟩, ⟨bx, by'⟩⟩ ⟨⟨cx, cy⟩, ⟨dx, dy⟩⟩).getD 1 ⟨0, 0⟩ = ⟨bx, by'⟩ := rfl
  have E2 : (ends ⟨⟨ax, ay⟩, ⟨bx, by'⟩⟩ ⟨⟨cx, cy⟩, ⟨dx, dy⟩⟩).getD 2 ⟨0, 0⟩ = ⟨cx, cy⟩ := rfl
  have E3 : (ends ⟨⟨ax, ay⟩, ⟨bx, by'⟩⟩ ⟨⟨cx, cy⟩, ⟨dx, dy⟩⟩).getD 3 ⟨0, 0⟩ = ⟨dx, dy⟩ := rfl
  simp only [shl, E0, E1, E2, E3, e4 h1 pc, e4 h1 pd, e4 h2 pa, e4 h2 pb, Nat.reduceLT, if_true, if_false, List.nil_append, List.all_nil, Bool.and_true, Nat.reduceAdd, List.all_append, maybe_all, n01, n23, Bool.not_false, Bool.or_true]
  generalize hc0 : decide (On cx cy dx dy ax ay) = c0
  generalize hc1 : decide (On cx cy dx dy bx by') = c1
  generalize hc2 : (decide (On ax ay bx by' cx cy) && ((!c0 || !eqb ⟨ax, ay⟩ ⟨cx, cy⟩) && (!c1 || !eqb ⟨bx, by'⟩ ⟨cx, cy⟩))) = c2
  generalize hc3 : (decide (On ax ay bx by' dx dy) && ((!c0 || !eqb ⟨ax, ay⟩ ⟨dx, dy⟩) && (!c1 || !eqb ⟨bx, by'⟩ ⟨dx, dy⟩))) = c3
  rw [List.length_append, List.length_append, List.length_append, maybe_len, maybe_len, maybe_len, maybe_len]
  unfold M_Shared
  have q0 : c0 = true ↔ On cx cy dx dy ax ay := by rw [← hc0, decide_eq_true_iff]
  have q1 : c1 = true ↔ On cx cy dx dy bx by' := by rw [← hc1, decide_eq_true_iff]
  have nn : ∀ (c : Bool) (p q : Pt), (!c || !eqb p q) = true ↔ ¬ (c = true ∧ p.f0 = q.f0 ∧ p.f1 = q.f1) := by
    intro c p q
    unfold eqb
    by_cases h : p.f0 = q.f0 ∧ p.f1 = q.f1
    · rw [decide_eq_true h]; cases c <;> simp [h.1, h.2]
    · rw [decide_eq_false h]
      exact ⟨fun _ k => h k.2, fun _ => by cases c <;> rfl⟩
  have q2 : c2 = true ↔ On ax ay bx by' cx cy ∧ ¬ (On cx cy dx dy ax ay ∧ ax = cx ∧ ay = cy) ∧ ¬ (On cx cy dx dy bx by' ∧ bx = cx ∧ by' = cy) := by
    rw [← hc2, Bool.and_eq_true, Bool.and_eq_true, decide_eq_true_iff, nn, nn, q0, q1]
  have q3 : c3 = true ↔ On ax ay bx by' dx dy ∧ ¬ (On cx cy dx dy ax ay ∧ ax = dx ∧ ay = dy) ∧ ¬ (On cx cy dx dy bx by' ∧ bx = dx ∧ by' = dy) := by
    rw [← hc3, Bool.and_eq_true, Bool.and_eq_true, decide_eq_true_iff, nn, nn, q0, q1]
  rw [← ifc q0, ← ifc q1, ← ifc q2, ← ifc q3]
  cases c0 <;> cases c1 <;> cases c2 <;> cases c3 <;> rfl
def wHowS (ax ay bx by' cx cy dx dy sh : Int) : Int :=
  if M_IsSegment ax ay bx by' = true ∧ M_IsSegment cx cy dx dy = true then
    if max ax bx < min cx dx ∨ max cx dx < min ax bx ∨ max ay by' < min cy dy ∨ max cy dy < min ay by' then 0
    else if sh = 0 then (if wr .i64 (M_SideOf ax ay bx by' cx cy * M_SideOf ax ay bx by' dx dy) < 0 ∧ wr .i64 (M_SideOf cx cy dx dy ax ay * M_SideOf cx cy dx dy bx by') < 0 then 2 else 0)
    else if sh = 1 then 1 else 3
  else 0
theorem wr_sgn (x y : Int) : wr .i64 (sgn x * sgn y) = sgn x * sgn y := by
  have hx := sgn_le x
  have hy := sgn_le y
  have hb := mul_bound (x := sgn x) (y := sgn y) (by omega) (by omega) (by omega) (by omega)
  exact wrap_id (by omega) (by omega)
theorem wHowS_eq (ax ay bx by' cx cy dx dy : Int) : wHowS ax ay bx by' cx cy dx dy ((shl ⟨⟨ax, ay⟩, ⟨bx, by'⟩⟩ ⟨⟨cx, cy⟩, ⟨dx, dy⟩⟩ (ends ⟨⟨ax, ay⟩, ⟨bx, by'⟩⟩ ⟨⟨cx, cy⟩, ⟨dx, dy⟩⟩) 4).length : Int) = M_HowMeet ax ay bx by' cx cy dx dy := by
  unfold wHowS
  by_cases h : M_IsSegment ax ay bx by' = true ∧ M_IsSegment cx cy dx dy = true
  · rw [if_pos h, shl_eq h.1 h.2]
    obtain ⟨pa, pb, hs⟩ := (M_IsSegment_iff _ _ _ _).1 h.1
    obtain ⟨pc, pd, ht⟩ := (M_IsSegment_iff _ _ _ _).1 h.2
    have qa := (M_IsPoint_iff ax ay).2 pa
    have qb := (M_IsPoint_iff bx by').2 pb
    have qc := (M_IsPoint_iff cx cy).2 pc
    have qd := (M_IsPoint_iff dx dy).2 pd
    rw [M_HowMeet_spec pa.1 pa.2 pb.1 pb.2 hs pc.1 pc.2 pd.1 pd.2 ht, side_sgn qa qb qc, side_sgn qa qb qd, side_sgn qc qd qa, side_sgn qc qd qb, wr_sgn, wr_sgn]
    simp only [sgn_mul]
    rfl
  · rw [if_neg h]; unfold M_HowMeet; rw [if_neg h]
theorem f182 (ax ay bx by' cx cy dx dy : Int) : Fn Tryz.prog 182 false [.agg [i ax, i ay, i bx, i by'], .agg [i cx, i cy, i dx, i dy]] (i (M_HowMeet ax ay bx by' cx cy dx dy)) := by
  rw [← wHowS_eq]
  refine Fn.by_sx hX (by kernel_rfl) c182 (by kernel_rfl) (by rfl) ?_
  simp [i182, sxa, sxb, sxc, Ex.ok, Ex.val, ← wr_eq]
  repeat' (first | intro _ | (simp [sxa, sxb, sxc, Ex.ok, Ex.val, ← wr_eq, *]) | refine CallS_b (f185 _ _ _ _) (fun h => ?_) (fun h => ?_) | refine CallS_i (f186 _ _) ?_ | refine CallS_i (f172 _ _) ?_ | refine CallS_i (f208 ⟨⟨ax, ay⟩, ⟨bx, by'⟩⟩ ⟨⟨cx, cy⟩, ⟨dx, dy⟩⟩) ?_ | refine CallS_i (f209 _ _ _ _ _ _) ?_ | refine CondS_d ?_ ?_ | refine CondS_b ?_ ?_ | refine GrdS_d ?_ ?_ | refine GrdS_b ?_ ?_ | refine OkS_i (by omega) ?_ | fail)
  all_goals simp_all [wHowS]
  all_goals omega
end Go.Eng
namespace Go.Eng
open Go Go.Proofs Geo
set_option linter.unusedSimpArgs false
set_option linter.unusedVariables false
set_option maxRecDepth 20000

theorem before_K {ax ay bx by' : Int} (v0 : Vl ax) (v1 : Vl bx) : before ax ay bx by' = decide (K ax ay < K bx by') := by
  unfold before Vl K at *
  rw [Bool.eq_iff_iff]
  simp
  omega
def wM (lx ly hx hy mx my nx ny : Int) : Int :=
  if before (if before nx ny hx hy then nx else hx) (if before nx ny hx hy then ny else hy) (if before lx ly mx my then mx else lx) (if before lx ly mx my then my else ly) then 0
  else if (if before lx ly mx my then mx else lx) = (if before nx ny hx hy then nx else hx) ∧ (if before lx ly mx my then my else ly) = (if before nx ny hx hy then ny else hy) then 1 else 3
theorem wM_eq {lx ly hx hy mx my nx ny : Int} (u0 : Vl lx) (u1 : Vl hx) (u2 : Vl mx) (u3 : Vl nx) :
    wM lx ly hx hy mx my nx ny = if min (K hx hy) (K nx ny) < max (K lx ly) (K mx my) then 0 else if max (K lx ly) (K mx my) = min (K hx hy) (K nx ny) then 1 else 3 := by
  unfold wM
  rw [before_K u3 u1, before_K u0 u2]
  by_cases d1 : K lx ly < K mx my <;> by_cases d2 : K nx ny < K hx hy <;> simp only [d1, d2, decide_true, decide_false, if_true, if_false, Bool.false_eq_true]
  · rw [before_K u3 u2]
    have ki := K_inj (ay := my) (by' := ny) u2 u3
    simp only [decide_eq_true_eq]
    split <;> split <;> (try split) <;> (try split) <;> omega
  · rw [before_K u1 u2]
    have ki := K_inj (ay := my) (by' := hy) u2 u1
    simp only [decide_eq_true_eq]
    split <;> split <;> (try split) <;> (try split) <;> omega
  · rw [before_K u3 u0]
    have ki := K_inj (ay := ly) (by' := ny) u0 u3
    simp only [decide_eq_true_eq]
    split <;> split <;> (try split) <;> (try split) <;> omega
  · rw [before_K u1 u0]
    have ki := K_inj (ay := ly) (by' := hy) u0 u1
    simp only [decide_eq_true_eq]
    split <;> split <;> (try split) <;> (try split) <;> omega
def wHowI (ax ay bx by' cx cy dx dy : Int) : Int :=
  if M_IsSegment ax ay bx by' = true ∧ M_IsSegment cx cy dx dy = true then
    if M_SideOf ax ay bx by' cx cy = 0 ∧ M_SideOf ax ay bx by' dx dy = 0 then
      wM (if before bx by' ax ay then bx else ax) (if before bx by' ax ay then by' else ay) (if before bx by' ax ay then ax else bx) (if before bx by' ax ay then ay else by')
         (if before dx dy cx cy then dx else cx) (if before dx dy cx cy then dy else cy) (if before dx dy cx cy then cx else dx) (if before dx dy cx cy then cy else dy)
    else if wr .i64 (M_SideOf ax ay bx by' cx cy * M_SideOf ax ay bx by' dx dy) < 0 ∧ wr .i64 (M_SideOf cx cy dx dy ax ay * M_SideOf cx cy dx dy bx by') < 0 then 2
    else if M_IsOn ax ay bx by' cx cy = true ∨ M_IsOn ax ay bx by' dx dy = true ∨ M_IsOn cx cy dx dy ax ay = true ∨ M_IsOn cx cy dx dy bx by' = true then 1 else 0
  else 0
theorem wHowI_eq (ax ay bx by' cx cy dx dy : Int) : wHowI ax ay bx by' cx cy dx dy = M_HowMeet ax ay bx by' cx cy dx dy := by
  unfold wHowI M_HowMeet
  by_cases h : M_IsSegment ax ay bx by' = true ∧ M_IsSegment cx cy dx dy = true
  · rw [if_pos h, if_pos h]
    obtain ⟨pa, pb, hs⟩ := (M_IsSegment_iff _ _ _ _).1 h.1
    obtain ⟨pc, pd, ht⟩ := (M_IsSegment_iff _ _ _ _).1 h.2
    have qa := (M_IsPoint_iff ax ay).2 pa
    have qb := (M_IsPoint_iff bx by').2 pb
    have qc := (M_IsPoint_iff cx cy).2 pc
    have qd := (M_IsPoint_iff dx dy).2 pd
    have e4 : ∀ {ax ay bx by' px py : Int}, M_IsSegment ax ay bx by' = true → M_IsPoint px py = true → (M_IsOn ax ay bx by' px py = true ↔ On ax ay bx by' px py) := by
      intro ax ay bx by' px py g1 g2
      unfold M_IsOn
      rw [g1, g2, Bool.true_and, Bool.true_and, decide_eq_true_iff]
    rw [side_sgn qa qb qc, side_sgn qa qb qd, side_sgn qc qd qa, side_sgn qc qd qb, wr_sgn, wr_sgn, before_K pb.1 pa.1, before_K pd.1 pc.1]
    simp only [sgn_mul, sgn_zero, e4 h.1 qc, e4 h.1 qd, e4 h.2 qa, e4 h.2 qb]
    congr 1
    have mm : ∀ a b : Int, a < b → min b a = a ∧ max b a = b ∧ min a b = a ∧ max a b = b := by intro a b h; omega
    have mn' : ∀ a b : Int, ¬ a < b → min b a = b ∧ max b a = a := by intro a b h; omega
    by_cases s1 : K bx by' < K ax ay <;> by_cases s2 : K dx dy < K cx cy <;> simp only [s1, s2, decide_true, decide_false, if_true, if_false, Bool.false_eq_true]
    · rw [wM_eq pb.1 pa.1 pd.1 pc.1, (mm _ _ s1).1, (mm _ _ s1).2.1, (mm _ _ s2).1, (mm _ _ s2).2.1]
    · rw [wM_eq pb.1 pa.1 pc.1 pd.1, (mm _ _ s1).1, (mm _ _ s1).2.1, (mn' _ _ s2).1, (mn' _ _ s2).2]
    · rw [wM_eq pa.1 pb.1 pd.1 pc.1, (mn' _ _ s1).1, (mn' _ _ s1).2, (mm _ _ s2).1, (mm _ _ s2).2.1]
    · rw [wM_eq pa.1 pb.1 pc.1 pd.1, (mn' _ _ s1).1, (mn' _ _ s1).2, (mn' _ _ s2).1, (mn' _ _ s2).2]
  · rw [if_neg h, if_neg h]
set_option maxHeartbeats 2000000 in
theorem f138 (ax ay bx by' cx cy dx dy : Int) : Fn Tryz.prog 138 false [.agg [i ax, i ay, i bx, i by'], .agg [i cx, i cy, i dx, i dy]] (i (M_HowMeet ax ay bx by' cx cy dx dy)) := by
  rw [← wHowI_eq]
  refine Fn.by_sx hX (by kernel_rfl) c138 (by kernel_rfl) (by rfl) ?_
  simp [i138, sxa, sxb, sxc, Ex.ok, Ex.val, ← wr_eq]
  repeat' (first | intro _ | (simp [sxa, sxb, sxc, Ex.ok, Ex.val, ← wr_eq, *]) | refine CallS_b (f140 _ _ _ _) (fun h => ?_) (fun h => ?_) | refine CallS_b (f34 _ _ _ _) (fun h => ?_) (fun h => ?_) | refine CallS_b (f177 _ _ _ _ _ _) (fun h => ?_) (fun h => ?_) | refine CallS_i (f175 _ _ _ _ _ _) ?_ | refine CallS_i (f176 _ _ _ _) ?_ | refine CondS_d ?_ ?_ | refine CondS_b ?_ ?_ | refine GrdS_d ?_ ?_ | refine GrdS_b ?_ ?_ | refine OkS_i (by omega) ?_ | fail)
  all_goals simp_all [wHowI, wM, wr_zero]
  all_goals (intros; omega)
end Go.Eng
namespace Go.Eng
open Go Go.Proofs Geo
set_option linter.unusedSimpArgs false
set_option linter.unusedVariables false
set_option maxRecDepth 20000

def allTo (ok : Nat → Bool) (n : Nat) : Bool := (List.range n).all ok
theorem allTo_bad {ok : Nat → Bool} {n N : Nat} (h : n < N) (hb : ok n = false) : allTo ok N = false := by
  unfold allTo; rw [List.all_eq_false]; exact ⟨n, List.mem_range.2 h, by simp [hb]⟩
theorem allTo_zero {ok : Nat → Bool} : allTo ok 0 = true := rfl
theorem allTo_succ {ok : Nat → Bool} {n : Nat} : allTo ok (n + 1) = (allTo ok n && ok n) := by
  unfold allTo; rw [List.range_succ, List.all_append]; simp
def okAt (l : List Pt) (n : Nat) : Bool := M_IsPoint (l.getD n ⟨0, 0⟩).f0 (l.getD n ⟨0, 0⟩).f1 && !(decide (0 < n) && eqb (l.getD (n - 1) ⟨0, 0⟩) (l.getD n ⟨0, 0⟩))
def wLine (l : List Pt) : Bool := inR l.length 2 10 && allTo (okAt l) l.length
theorem wLine_len {l : List Pt} (h : wLine l = true) : 2 ≤ l.length ∧ l.length ≤ 10 := by
  unfold wLine inR at h
  simp at h
  omega
theorem f183 (l : List Pt) (nl : Bool) (hl : l.length ≤ 1152921504606846976) : Fn Tryz.prog 183 false [.lst 2 nl (l.map cp)] (.bool (wLine l)) := by
  refine Fn.by_sx hX (by kernel_rfl) c183 (by kernel_rfl) (by rfl) ?_
  simp [i183, sxa, sxb, sxc, Ex.ok, Ex.val, ← wr_eq]
  refine sx_count l.length (fun n V => V 0 = .lst 2 nl (l.map cp) ∧ V 3 = i n ∧ allTo (okAt l) n = true) 0 (by omega) (by simp [sxa, sxb, sxc, Ex.ok, Ex.val, ← wr_eq, allTo_zero]) ?_
  rintro n V hn ⟨h0, h3, ha⟩
  simp [sxa, sxb, sxc, Ex.ok, Ex.val, ← wr_eq, h0, h3]
  refine CondS_d (fun hlt => ?_) (fun hge => ?_)
  · have hlt' : n < l.length := by omega
    have hbad : okAt l n = false → wLine l = false := fun h => by simp [wLine, allTo_bad hlt' h]
    rcases Nat.eq_zero_or_pos n with rfl | hpos
    · repeat' (first | intro _ | (simp [sxa, sxb, sxc, Ex.ok, Ex.val, ← wr_eq, cp, allTo_succ, *]) | refine CallS_b (f70 _ _) (fun h => ?_) (fun h => ?_) | refine CondS_d ?_ ?_ | refine CondS_b ?_ ?_ | refine GrdS_d ?_ ?_ | refine GrdS_b ?_ ?_ | refine OkS_i (by omega) ?_ | fail)
      all_goals first | (apply hbad; simp_all [okAt, eqb]; done) | simp_all [okAt, eqb]
      all_goals omega
    · have hw : wr .i64 ((n : Int) + 1) = n + 1 := wr_in (by omega) (by omega)
      have hw2 : wr .i64 ((n : Int) - 1) = ((n - 1 : Nat) : Int) := wrap_down n hpos (by omega)
      have hpos' : (0 : Int) < n := by omega
      have hm : n - 1 < l.length := by omega
      repeat' (first | intro _ | (simp [sxa, sxb, sxc, Ex.ok, Ex.val, ← wr_eq, cp, allTo_succ, *]) | refine CallS_b (f70 _ _) (fun h => ?_) (fun h => ?_) | refine CondS_d ?_ ?_ | refine CondS_b ?_ ?_ | refine GrdS_d ?_ ?_ | refine GrdS_b ?_ ?_ | refine OkS_i (by omega) ?_ | fail)
      all_goals first | (apply hbad; simp_all [okAt, eqb]; done) | simp_all [okAt, eqb]
      all_goals omega
  · have : n = l.length := by omega
    subst this
    repeat' (first | intro _ | (simp [sxa, sxb, sxc, Ex.ok, Ex.val, ← wr_eq, *]) | refine CallS_i (f116 _ _ _) ?_ | refine CondS_d ?_ ?_ | refine CondS_b ?_ ?_ | refine GrdS_d ?_ ?_ | refine GrdS_b ?_ ?_ | refine OkS_i (by omega) ?_ | fail)
    all_goals simp_all [wLine]
theorem f137 (l : List Pt) (nl : Bool) (hl : l.length ≤ 1152921504606846976) : Fn Tryz.prog 137 false [.lst 2 nl (l.map cp)] (.bool (wLine l)) := by
  refine Fn.by_sx hX (by kernel_rfl) c137 (by kernel_rfl) (by rfl) ?_
  simp [i137, sxa, sxb, sxc, Ex.ok, Ex.val, ← wr_eq]
  by_cases hlen : inR l.length 2 10 = true
  · have hL : ¬ l.length < 2 ∧ ¬ 10 < l.length := by simp [inR] at hlen; omega
    have hL1 : ¬ (l.length : Int) < 2 := by omega
    have hL2 : ¬ (10 : Int) < l.length := by omega
    repeat' (first | intro _ | (simp [sxa, sxb, sxc, Ex.ok, Ex.val, ← wr_eq, *]) | refine CondS_d ?_ ?_ | refine CondS_b ?_ ?_ | refine GrdS_d ?_ ?_ | refine GrdS_b ?_ ?_ | refine OkS_i (by omega) ?_ | fail)
    refine sx_count l.length (fun n V => V 0 = .lst 2 nl (l.map cp) ∧ V 13 = .lst 2 nl (l.map cp) ∧ V 14 = i l.length ∧ V 15 = i n ∧ allTo (okAt l) n = true) 0 (by omega) (by simp [sxa, sxb, sxc, Ex.ok, Ex.val, ← wr_eq, allTo_zero]) ?_
    rintro n V hn ⟨h0, h13, h14, h15, ha⟩
    simp [sxa, sxb, sxc, Ex.ok, Ex.val, ← wr_eq, h14, h15]
    refine CondS_d (fun hlt => ?_) (fun hge => ?_)
    · have hlt' : n < l.length := by omega
      have hbad : okAt l n = false → wLine l = false := fun h => by simp [wLine, allTo_bad hlt' h]
      rcases Nat.eq_zero_or_pos n with rfl | hpos
      · repeat' (first | intro _ | (simp [sxa, sxb, sxc, Ex.ok, Ex.val, ← wr_eq, cp, allTo_succ, *]) | refine CallS_b (f35 _ _) (fun h => ?_) (fun h => ?_) | refine CondS_d ?_ ?_ | refine CondS_b ?_ ?_ | refine GrdS_d ?_ ?_ | refine GrdS_b ?_ ?_ | refine OkS_i (by omega) ?_ | fail)
        all_goals first | (apply hbad; simp_all [okAt, eqb]; done) | simp_all [okAt, eqb]
        all_goals omega
      · have hw : wr .i64 ((n : Int) + 1) = n + 1 := wr_in (by omega) (by omega)
        have hw2 : wr .i64 ((n : Int) - 1) = ((n - 1 : Nat) : Int) := wrap_down n hpos (by omega)
        have hpos' : (0 : Int) < n := by omega
        have hm : n - 1 < l.length := by omega
        repeat' (first | intro _ | (simp [sxa, sxb, sxc, Ex.ok, Ex.val, ← wr_eq, cp, allTo_succ, *]) | refine CallS_b (f35 _ _) (fun h => ?_) (fun h => ?_) | refine CondS_d ?_ ?_ | refine CondS_b ?_ ?_ | refine GrdS_d ?_ ?_ | refine GrdS_b ?_ ?_ | refine OkS_i (by omega) ?_ | fail)
        all_goals first | (apply hbad; simp_all [okAt, eqb]; done) | simp_all [okAt, eqb]
        all_goals omega
    · have : n = l.length := by omega
      subst this
      repeat' (first | intro _ | (simp [sxa, sxb, sxc, Ex.ok, Ex.val, ← wr_eq, *]) | refine CondS_d ?_ ?_ | refine CondS_b ?_ ?_ | refine GrdS_d ?_ ?_ | refine GrdS_b ?_ ?_ | refine OkS_i (by omega) ?_ | fail)
      all_goals simp_all [wLine]
  · have hf : wLine l = false := by simp [wLine, hlen]
    have hL : (l.length : Int) < 2 ∨ (10 : Int) < l.length := by simp [inR] at hlen; omega
    rcases hL with h | h
    · repeat' (first | intro _ | (simp [sxa, sxb, sxc, Ex.ok, Ex.val, ← wr_eq, *]) | refine CondS_d ?_ ?_ | refine CondS_b ?_ ?_ | refine GrdS_d ?_ ?_ | refine GrdS_b ?_ ?_ | refine OkS_i (by omega) ?_ | fail)
    · have : ¬ (l.length : Int) < 2 := by omega
      repeat' (first | intro _ | (simp [sxa, sxb, sxc, Ex.ok, Ex.val, ← wr_eq, *]) | refine CondS_d ?_ ?_ | refine CondS_b ?_ ?_ | refine GrdS_d ?_ ?_ | refine GrdS_b ?_ ?_ | refine OkS_i (by omega) ?_ | fail)
end Go.Eng
namespace Go.Eng
open Go Go.Proofs Geo
set_option linter.unusedSimpArgs false
set_option linter.unusedVariables false
set_option maxRecDepth 20000

/-- a list that is built index by index -/
def upTo {α : Type} (f : Nat → α) (n : Nat) : List α := (List.range n).map f
theorem upTo_zero {α : Type} {f : Nat → α} : upTo f 0 = [] := rfl
theorem upTo_succ {α : Type} {f : Nat → α} {n : Nat} : upTo f (n + 1) = upTo f n ++ [f n] := by simp [upTo, List.range_succ]
theorem upTo_length {α : Type} {f : Nat → α} {n : Nat} : (upTo f n).length = n := by simp [upTo]
theorem upTo_get {α : Type} {f : Nat → α} {n k : Nat} (h : k < n) : (upTo f n)[k]? = some (f k) := by simp [upTo, h]
theorem tmod_nat (a b : Nat) : ((a : Int) + 1).tmod (b : Int) = (((a + 1) % b : Nat) : Int) := by
  have : ((a : Int) + 1) = ((a + 1 : Nat) : Int) := rfl
  rw [this, Int.ofNat_tmod]
def sgAt (l : List Pt) (k : Nat) : Sg := ⟨l.getD k ⟨0, 0⟩, l.getD (k + 1) ⟨0, 0⟩⟩
def rgAt (l : List Pt) (k : Nat) : Sg := ⟨l.getD k ⟨0, 0⟩, l.getD ((k + 1) % l.length) ⟨0, 0⟩⟩
def wSegs (l : List Pt) : List Sg := if wLine l = true then upTo (sgAt l) (l.length - 1) else []
theorem f147 (l : List Pt) (nl : Bool) (hl : l.length ≤ 1152921504606846976) : Fn Tryz.prog 147 true [.lst 2 nl (l.map cp)] (.lst 4 false ((wSegs l).map cs)) := by
  refine Fn.by_sx hX (by kernel_rfl) c147 (by kernel_rfl) (by rfl) ?_
  simp [i147, sxa, sxb, sxc, Ex.ok, Ex.val, ← wr_eq]
  by_cases hL : wLine l = true
  · have hn := wLine_len hL
    refine sx_count l.length (fun n V => 1 ≤ n ∧ V 0 = .lst 2 nl (l.map cp) ∧ V 4 = i n ∧ V 3 = .lst 4 false ((upTo (sgAt l) (n - 1)).map cs)) 1 (by omega) (by simp [sxa, sxb, sxc, Ex.ok, Ex.val, ← wr_eq, upTo_zero]) ?_
    rintro n V hn ⟨h1, h0, h4, h3⟩
    simp [sxa, sxb, sxc, Ex.ok, Ex.val, ← wr_eq, h0, h3, h4]
    refine GrdS_d (fun hlt => ?_) (fun hge => ?_)
    · have hlt' : n < l.length := by omega
      have hw : wr .i64 ((n : Int) + 1) = n + 1 := wr_in (by omega) (by omega)
      have hw2 : wr .i64 ((n : Int) - 1) = ((n - 1 : Nat) : Int) := wrap_down n h1 (by omega)
      have hm : n - 1 < l.length := by omega
      have ex : upTo (sgAt l) n = upTo (sgAt l) (n - 1) ++ [⟨l[n - 1], l[n]⟩] := by
        have := upTo_succ (f := sgAt l) (n := n - 1)
        rw [Nat.sub_add_cancel h1] at this
        rw [this]; simp [sgAt, hm, hlt', Nat.sub_add_cancel h1]
      repeat' (first | intro _ | (simp [sxa, sxb, sxc, Ex.ok, Ex.val, ← wr_eq, cp, cs, upTo_length, *]) | refine CallS_i (f183 l nl hl) ?_ | refine CondS_d ?_ ?_ | refine CondS_b ?_ ?_ | refine GrdS_d ?_ ?_ | refine GrdS_b ?_ ?_ | refine OkS_i (by omega) ?_ | fail)
    · have : n = l.length := by omega
      subst this
      repeat' (first | intro _ | (simp [sxa, sxb, sxc, Ex.ok, Ex.val, ← wr_eq, cp, cs, wSegs, *]) | refine CallS_i (f183 l nl hl) ?_ | refine CondS_d ?_ ?_ | refine CondS_b ?_ ?_ | refine GrdS_d ?_ ?_ | refine GrdS_b ?_ ?_ | refine OkS_i (by omega) ?_ | fail)
  · have hf : wSegs l = [] := by simp [wSegs, hL]
    have hL' : wLine l = false := by simpa using hL
    refine sx_count (max 1 l.length) (fun n V => n = 1 ∧ V 0 = .lst 2 nl (l.map cp) ∧ V 4 = i 1 ∧ V 3 = .lst 4 false []) 1 (by omega) (by simp [sxa, sxb, sxc, Ex.ok, Ex.val, ← wr_eq]) ?_
    rintro n V hn ⟨h1, h0, h4, h3⟩
    simp [sxa, sxb, sxc, Ex.ok, Ex.val, ← wr_eq, h0, h3, h4]
    repeat' (first | intro _ | (simp [sxa, sxb, sxc, Ex.ok, Ex.val, ← wr_eq, cp, cs, *]) | refine CallS_i (f183 l nl hl) ?_ | refine CondS_d ?_ ?_ | refine CondS_b ?_ ?_ | refine GrdS_d ?_ ?_ | refine GrdS_b ?_ ?_ | refine OkS_i (by omega) ?_ | fail)
theorem f120 (l : List Pt) (nl : Bool) (hl : l.length ≤ 1152921504606846976) : Fn Tryz.prog 120 true [.lst 2 nl (l.map cp)] (.lst 4 false ((wSegs l).map cs)) := by
  refine Fn.by_sx hX (by kernel_rfl) c120 (by kernel_rfl) (by rfl) ?_
  simp [i120, sxa, sxb, sxc, Ex.ok, Ex.val, ← wr_eq]
  refine CallS_b (f137 l nl hl) (fun hL => ?_) (fun hL => ?_)
  · have hn := wLine_len hL
    repeat' (first | intro _ | (simp [sxa, sxb, sxc, Ex.ok, Ex.val, ← wr_eq, *]) | refine CondS_d ?_ ?_ | refine CondS_b ?_ ?_ | refine GrdS_d ?_ ?_ | refine GrdS_b ?_ ?_ | refine OkS_i (by omega) ?_ | fail)
    refine sx_count l.length (fun n V => 1 ≤ n ∧ V 0 = .lst 2 nl (l.map cp) ∧ V 4 = i n ∧ V 3 = .lst 4 false ((upTo (sgAt l) (n - 1)).map cs)) 1 (by omega) (by simp [sxa, sxb, sxc, Ex.ok, Ex.val, ← wr_eq, upTo_zero]) ?_
    rintro n V hn ⟨h1, h0, h4, h3⟩
    simp [sxa, sxb, sxc, Ex.ok, Ex.val, ← wr_eq, h0, h3, h4]
    refine CondS_d (fun hlt => ?_) (fun hge => ?_)
    · have hlt' : n < l.length := by omega
      have hw : wr .i64 ((n : Int) + 1) = n + 1 := wr_in (by omega) (by omega)
      have hw2 : wr .i64 ((n : Int) - 1) = ((n - 1 : Nat) : Int) := wrap_down n h1 (by omega)
      have hm : n - 1 < l.length := by omega
      have ex : upTo (sgAt l) n = upTo (sgAt l) (n - 1) ++ [⟨l[n - 1], l[n]⟩] := by
        have := upTo_succ (f := sgAt l) (n := n - 1)
        rw [Nat.sub_add_cancel h1] at this
        rw [this]; simp [sgAt, hm, hlt', Nat.sub_add_cancel h1]
      repeat' (first | intro _ | (simp [sxa, sxb, sxc, Ex.ok, Ex.val, ← wr_eq, cp, cs, upTo_length, *]) | refine CondS_d ?_ ?_ | refine CondS_b ?_ ?_ | refine GrdS_d ?_ ?_ | refine GrdS_b ?_ ?_ | refine OkS_i (by omega) ?_ | fail)
    · have : n = l.length := by omega
      subst this
      repeat' (first | intro _ | (simp [sxa, sxb, sxc, Ex.ok, Ex.val, ← wr_eq, cp, cs, wSegs, *]) | refine CondS_d ?_ ?_ | refine CondS_b ?_ ?_ | refine GrdS_d ?_ ?_ | refine GrdS_b ?_ ?_ | refine OkS_i (by omega) ?_ | fail)
  · have hf : wSegs l = [] := by simp [wSegs, hL]
    repeat' (first | intro _ | (simp [sxa, sxb, sxc, Ex.ok, Ex.val, ← wr_eq, cp, cs, *]) | refine CondS_d ?_ ?_ | refine CondS_b ?_ ?_ | refine GrdS_d ?_ ?_ | refine GrdS_b ?_ ?_ | refine OkS_i (by omega) ?_ | fail)
theorem f184 (l : List Pt) (nl : Bool) (hl : l.length ≤ 1000000000000) : Fn Tryz.prog 184 true [.lst 2 nl (l.map cp)] (.lst 4 false ((upTo (rgAt l) l.length).map cs)) := by
  refine Fn.by_sx hX (by kernel_rfl) c184 (by kernel_rfl) (by rfl) ?_
  simp [i184, sxa, sxb, sxc, Ex.ok, Ex.val, ← wr_eq]
  refine sx_count l.length (fun n V => V 0 = .lst 2 nl (l.map cp) ∧ V 4 = i n ∧ V 3 = .lst 4 false ((upTo (rgAt l) n).map cs)) 0 (by omega) (by simp [sxa, sxb, sxc, Ex.ok, Ex.val, ← wr_eq, upTo_zero]) ?_
  rintro n V hn ⟨h0, h4, h3⟩
  simp [sxa, sxb, sxc, Ex.ok, Ex.val, ← wr_eq, h0, h3, h4]
  refine CondS_d (fun hlt => ?_) (fun hge => ?_)
  · have hlt' : n < l.length := by omega
    have hw : wr .i64 ((n : Int) + 1) = n + 1 := wr_in (by omega) (by omega)
    obtain ⟨q, hq, hq'⟩ : ∃ q, (n + 1) % l.length = q ∧ q < l.length := ⟨_, rfl, Nat.mod_lt _ (by omega)⟩
    have h0' : ¬ l.length = 0 := by omega
    have ht := tmod_nat n l.length
    rw [hq] at ht
    have ex : upTo (rgAt l) (n + 1) = upTo (rgAt l) n ++ [⟨l[n], l[q]⟩] := by
      rw [upTo_succ]; simp [rgAt, hq, hq', hlt']
    clear hq
    repeat' (first | intro _ | (simp [sxa, sxb, sxc, Ex.ok, Ex.val, ← wr_eq, cp, cs, upTo_length, *]) | refine CondS_d ?_ ?_ | refine CondS_b ?_ ?_ | refine GrdS_d ?_ ?_ | refine GrdS_b ?_ ?_ | refine OkS_i (by omega) ?_ | fail)
  · have : n = l.length := by omega
    subst this
    repeat' (first | intro _ | (simp [sxa, sxb, sxc, Ex.ok, Ex.val, ← wr_eq, cp, cs, *]) | refine CondS_d ?_ ?_ | refine CondS_b ?_ ?_ | refine GrdS_d ?_ ?_ | refine GrdS_b ?_ ?_ | refine OkS_i (by omega) ?_ | fail)
theorem f139 (l : List Pt) (nl : Bool) (hl : l.length ≤ 1000000000000) : Fn Tryz.prog 139 true [.lst 2 nl (l.map cp)] (.lst 4 false ((upTo (rgAt l) l.length).map cs)) := by
  refine Fn.by_sx hX (by kernel_rfl) c139 (by kernel_rfl) (by rfl) ?_
  simp [i139, sxa, sxb, sxc, Ex.ok, Ex.val, ← wr_eq]
  refine sx_count l.length (fun n V => V 0 = .lst 2 nl (l.map cp) ∧ V 7 = .lst 2 nl (l.map cp) ∧ V 8 = i l.length ∧ V 9 = i n ∧ V 3 = .lst 4 false ((upTo (rgAt l) n).map cs)) 0 (by omega) (by simp [sxa, sxb, sxc, Ex.ok, Ex.val, ← wr_eq, upTo_zero]) ?_
  rintro n V hn ⟨h0, h7, h8, h9, h3⟩
  simp [sxa, sxb, sxc, Ex.ok, Ex.val, ← wr_eq, h8, h9]
  refine CondS_d (fun hlt => ?_) (fun hge => ?_)
  · have hlt' : n < l.length := by omega
    have hw : wr .i64 ((n : Int) + 1) = n + 1 := wr_in (by omega) (by omega)
    obtain ⟨q, hq, hq'⟩ : ∃ q, (n + 1) % l.length = q ∧ q < l.length := ⟨_, rfl, Nat.mod_lt _ (by omega)⟩
    have h0' : ¬ l.length = 0 := by omega
    have ht := tmod_nat n l.length
    rw [hq] at ht
    have ex : upTo (rgAt l) (n + 1) = upTo (rgAt l) n ++ [⟨l[n], l[q]⟩] := by
      rw [upTo_succ]; simp [rgAt, hq, hq', hlt']
    clear hq
    repeat' (first | intro _ | (simp [sxa, sxb, sxc, Ex.ok, Ex.val, ← wr_eq, cp, cs, upTo_length, *]) | refine CondS_d ?_ ?_ | refine CondS_b ?_ ?_ | refine GrdS_d ?_ ?_ | refine GrdS_b ?_ ?_ | refine OkS_i (by omega) ?_ | fail)
  · have : n = l.length := by omega
    subst this
    repeat' (first | intro _ | (simp [sxa, sxb, sxc, Ex.ok, Ex.val, ← wr_eq, cp, cs, *]) | refine CondS_d ?_ ?_ | refine CondS_b ?_ ?_ | refine GrdS_d ?_ ?_ | refine GrdS_b ?_ ?_ | refine OkS_i (by omega) ?_ | fail)
end Go.Eng
namespace Go.Eng
open Go Go.Proofs Geo
set_option linter.unusedSimpArgs false
set_option linter.unusedVariables false
set_option maxRecDepth 20000
set_option maxHeartbeats 1000000

def sMeet (a b : Sg) : Int := M_HowMeet a.f0.f0 a.f0.f1 a.f1.f0 a.f1.f1 b.f0.f0 b.f0.f1 b.f1.f0 b.f1.f1
def sgD (S : List Sg) (n : Nat) : Sg := S.getD n ⟨⟨0, 0⟩, ⟨0, 0⟩⟩
def rowS (S : List Sg) (n k : Nat) : Bool := decide (sMeet (sgD S n) (sgD S k) = if k + 1 = n then 1 else 0)
def wSimple (l : List Pt) : Bool := wLine l && allTo (fun n => allTo (rowS (wSegs l) n) n) (wSegs l).length
theorem l145_2 {S : List Sg} {n : Nat} {V : Env} (hn : n < S.length) (hS : S.length ≤ 1000000000000) (h3 : V 3 = .lst 4 false (S.map cs)) (h4 : V 4 = i n) (h5 : V 5 = i 0) :
    sx (FC Tryz.prog) (.loop (.seq (.seq (.ops [s 15 (.mv (t 5)),
  s 16 (.mv (t 4)),
  s 17 (.bin .lss (t 15) (t 16))])
 (.cond (t 17) .skip (.exit 2)))
 (.seq (.block 3 (.seq (.ops [s 6 (.mv (c (i 0)))])
 (.seq (.seq (.ops [s 20 (.mv (t 5)),
  s 21 (.bin .add (t 20) (c (i 1))),
  s 22 (.mv (t 4)),
  s 23 (.bin .eql (t 21) (t 22))])
 (.cond (t 23) (.ops [s 6 (.mv (c (i 1)))]) .skip))
 (.seq (.ops [s 24 (.mv (t 3)),
  s 25 (.mv (t 4)),
  s 26 (.idx (t 24) (t 25) 4),
  s 27 (.ldE 24 26 0 4 true true 4),
  s 28 (.mv (t 3)),
  s 29 (.mv (t 5)),
  s 30 (.idx (t 28) (t 29) 4),
  s 31 (.ldE 28 30 0 4 true true 4),
  k 32 182 [(t 27), (t 31)] .sc,
  s 33 (.mv (t 6)),
  s 34 (.bin .neq (t 32) (t 33))])
 (.cond (t 34) (.seq (.ops [s 2 (.mv (c (.bool false)))])
 .ret) .skip)))))
 (.ops [s 18 (.mv (t 5)),
  s 19 (.bin .add (t 18) (c (i 1))),
  s 5 (.mv (t 19))])))) (fun x V' => (x = .exit 2 ∧ allTo (rowS S n) n = true ∧ V' 0 = V 0 ∧ V' 3 = V 3 ∧ V' 4 = V 4) ∨ (x = .ret ∧ allTo (rowS S n) n = false ∧ V' 2 = .bool false)) V := by
  refine sx_count n (fun k V' => V' 0 = V 0 ∧ V' 3 = V 3 ∧ V' 4 = V 4 ∧ V' 5 = i k ∧ allTo (rowS S n) k = true) 0 (by omega) ⟨rfl, rfl, rfl, h5, allTo_zero⟩ ?_
  rintro k V' hk ⟨g0, g3, g4, g5, ha⟩
  have hw : wr .i64 ((k : Int) + 1) = k + 1 := wr_in (by omega) (by omega)
  simp [sxa, sxb, sxc, Ex.ok, Ex.val, ← wr_eq, g3, g4, g5, h3, h4]
  refine CondS_d (fun hlt => ?_) (fun hge => ?_)
  · have hk' : k < n := by omega
    have hkS : k < S.length := by omega
    have hbad : rowS S n k = false → allTo (rowS S n) n = false := allTo_bad hk'
    have hgood : rowS S n k = true → allTo (rowS S n) (k + 1) = true := fun h => by rw [allTo_succ, ha, h]; rfl
    have hr : rowS S n k = decide (sMeet S[n] S[k] = if k + 1 = n then 1 else 0) := by simp [rowS, sgD, hn, hkS]
    have hc : ((k : Int) + 1 = n) = (k + 1 = n) := propext ⟨fun h => by omega, fun h => by omega⟩
    by_cases hkn : k + 1 = n
    · repeat' (first | intro _ | (simp [sxa, sxb, sxc, Ex.ok, Ex.val, ← wr_eq, cs, *]) | refine CallS_i (f182 _ _ _ _ _ _ _ _) ?_ | refine CondS_d ?_ ?_ | refine CondS_b ?_ ?_ | refine GrdS_d ?_ ?_ | refine GrdS_b ?_ ?_ | refine OkS_i (by omega) ?_ | fail)
      all_goals first
        | exact hbad (by rw [hr]; simp_all [sMeet])
        | (have h' := hgood (by rw [hr]; simp_all [sMeet]); simp_all)
        | simp_all
    · repeat' (first | intro _ | (simp [sxa, sxb, sxc, Ex.ok, Ex.val, ← wr_eq, cs, *]) | refine CallS_i (f182 _ _ _ _ _ _ _ _) ?_ | refine CondS_d ?_ ?_ | refine CondS_b ?_ ?_ | refine GrdS_d ?_ ?_ | refine GrdS_b ?_ ?_ | refine OkS_i (by omega) ?_ | fail)
      all_goals first
        | exact hbad (by rw [hr]; simp_all [sMeet])
        | (have h' := hgood (by rw [hr]; simp_all [sMeet]); simp_all)
        | simp_all
  · have : k = n := by omega
    subst this
    repeat' (first | intro _ | (simp [sxa, sxb, sxc, Ex.ok, Ex.val, ← wr_eq, *]) | refine CondS_d ?_ ?_ | refine CondS_b ?_ ?_ | refine GrdS_d ?_ ?_ | refine GrdS_b ?_ ?_ | refine OkS_i (by omega) ?_ | fail)
    all_goals simp_all
theorem l106_2 {S : List Sg} {n : Nat} {V : Env} (hn : n < S.length) (hS : S.length ≤ 1000000000000) (h3 : V 3 = .lst 4 false (S.map cs)) (h4 : V 4 = i n) (h17 : V 17 = i n) (h18 : V 18 = i 0) :
    sx (FC Tryz.prog) (.loop (.seq (.ops [s 19 (.bin .lss (t 18) (t 17))])
 (.seq (.cond (t 19) .skip (.exit 2))
 (.seq (.block 3 (.seq (.ops [s 20 (.mv (t 18)),
  s 5 (.mv (t 20))])
 (.seq (.ops [s 6 (.mv (c (i 0)))])
 (.seq (.seq (.ops [s 21 (.mv (t 5)),
  s 22 (.mv (t 4)),
  s 23 (.bin .sub (t 22) (c (i 1))),
  s 24 (.bin .eql (t 21) (t 23))])
 (.cond (t 24) (.ops [s 6 (.mv (c (i 1)))]) .skip))
 (.seq (.ops [s 25 (.mv (t 3)),
  s 26 (.mv (t 4)),
  s 27 (.idx (t 25) (t 26) 4),
  s 28 (.ldE 25 27 0 4 true true 4),
  s 29 (.mv (t 3)),
  s 30 (.mv (t 5)),
  s 31 (.idx (t 29) (t 30) 4),
  s 32 (.ldE 29 31 0 4 true true 4),
  k 33 138 [(t 28), (t 32)] .sc,
  s 34 (.mv (t 6)),
  s 35 (.bin .neq (t 33) (t 34))])
 (.cond (t 35) (.seq (.ops [s 2 (.mv (c (.bool false)))])
 .ret) .skip))))))
 (.ops [s 36 (.bin .add (t 18) (c (i 1))),
  s 18 (.mv (t 36))]))))) (fun x V' => (x = .exit 2 ∧ allTo (rowS S n) n = true ∧ V' 0 = V 0 ∧ V' 3 = V 3 ∧ V' 13 = V 13 ∧ V' 14 = V 14) ∨ (x = .ret ∧ allTo (rowS S n) n = false ∧ V' 2 = .bool false)) V := by
  refine sx_count n (fun k V' => V' 0 = V 0 ∧ V' 3 = V 3 ∧ V' 4 = V 4 ∧ V' 13 = V 13 ∧ V' 14 = V 14 ∧ V' 17 = V 17 ∧ V' 18 = i k ∧ allTo (rowS S n) k = true) 0 (by omega) ⟨rfl, rfl, rfl, rfl, rfl, rfl, h18, allTo_zero⟩ ?_
  rintro k V' hk ⟨g0, g3, g4, g13, g14, g17, g18, ha⟩
  have hw : wr .i64 ((k : Int) + 1) = k + 1 := wr_in (by omega) (by omega)
  have hw2 : wr .i64 ((n : Int) - 1) = n - 1 := wr_in (by omega) (by omega)
  simp [sxa, sxb, sxc, Ex.ok, Ex.val, ← wr_eq, g17, g18, h17]
  refine CondS_d (fun hlt => ?_) (fun hge => ?_)
  · have hk' : k < n := by omega
    have hkS : k < S.length := by omega
    have hbad : rowS S n k = false → allTo (rowS S n) n = false := allTo_bad hk'
    have hgood : rowS S n k = true → allTo (rowS S n) (k + 1) = true := fun h => by rw [allTo_succ, ha, h]; rfl
    have hr : rowS S n k = decide (sMeet S[n] S[k] = if k + 1 = n then 1 else 0) := by simp [rowS, sgD, hn, hkS]
    have hc : ((k : Int) = n - 1) = (k + 1 = n) := propext ⟨fun h => by omega, fun h => by omega⟩
    by_cases hkn : k + 1 = n
    · repeat' (first | intro _ | (simp [sxa, sxb, sxc, Ex.ok, Ex.val, ← wr_eq, cs, *]) | refine CallS_i (f138 _ _ _ _ _ _ _ _) ?_ | refine CondS_d ?_ ?_ | refine CondS_b ?_ ?_ | refine GrdS_d ?_ ?_ | refine GrdS_b ?_ ?_ | refine OkS_i (by omega) ?_ | fail)
      all_goals first
        | exact hbad (by rw [hr]; simp_all [sMeet])
        | (have h' := hgood (by rw [hr]; simp_all [sMeet]); simp_all)
        | simp_all
    · repeat' (first | intro _ | (simp [sxa, sxb, sxc, Ex.ok, Ex.val, ← wr_eq, cs, *]) | refine CallS_i (f138 _ _ _ _ _ _ _ _) ?_ | refine CondS_d ?_ ?_ | refine CondS_b ?_ ?_ | refine GrdS_d ?_ ?_ | refine GrdS_b ?_ ?_ | refine OkS_i (by omega) ?_ | fail)
      all_goals first
        | exact hbad (by rw [hr]; simp_all [sMeet])
        | (have h' := hgood (by rw [hr]; simp_all [sMeet]); simp_all)
        | simp_all
  · have : k = n := by omega
    subst this
    repeat' (first | intro _ | (simp [sxa, sxb, sxc, Ex.ok, Ex.val, ← wr_eq, *]) | refine CondS_d ?_ ?_ | refine CondS_b ?_ ?_ | refine GrdS_d ?_ ?_ | refine GrdS_b ?_ ?_ | refine OkS_i (by omega) ?_ | fail)
    all_goals simp_all
theorem wSegs_len (l : List Pt) : (wSegs l).length ≤ 9 := by
  unfold wSegs
  split
  · rename_i h
    have := wLine_len h
    rw [upTo_length]; omega
  · simp
theorem f145 (l : List Pt) (nl : Bool) (hl : l.length ≤ 1000000000000) : Fn Tryz.prog 145 false [.lst 2 nl (l.map cp)] (.bool (wSimple l)) := by
  refine Fn.by_sx hX (by kernel_rfl) c145 (by kernel_rfl) (by rfl) ?_
  simp [i145, sxa, sxb, sxc, Ex.ok, Ex.val, ← wr_eq]
  refine CallS_l (f147 l nl (by omega)) ?_
  have hS := wSegs_len l
  obtain ⟨S, hSe⟩ : ∃ S, wSegs l = S := ⟨_, rfl⟩
  have hwS : wSimple l = (wLine l && allTo (fun n => allTo (rowS S n) n) S.length) := by rw [← hSe]; rfl
  rw [hSe] at hS ⊢
  simp [sxa, sxb, sxc, Ex.ok, Ex.val, ← wr_eq]
  refine sx_count S.length (fun n V => V 0 = .lst 2 nl (l.map cp) ∧ V 3 = .lst 4 false (S.map cs) ∧ V 4 = i n ∧ allTo (fun n => allTo (rowS S n) n) n = true) 0 (by omega) (by simp [sxa, sxb, sxc, Ex.ok, Ex.val, ← wr_eq, allTo_zero]) ?_
  rintro n V hn ⟨h0, h3, h4, ha⟩
  have hw : wr .i64 ((n : Int) + 1) = n + 1 := wr_in (by omega) (by omega)
  simp [sxa, sxb, sxc, Ex.ok, Ex.val, ← wr_eq, h3, h4]
  refine CondS_d (fun hlt => ?_) (fun hge => ?_)
  · have hlt' : n < S.length := by omega
    have hbad : allTo (rowS S n) n = false → wSimple l = false := fun h => by rw [hwS, allTo_bad (ok := fun n => allTo (rowS S n) n) hlt' h]; simp
    simp [sxa, sxb, sxc, Ex.ok, Ex.val, ← wr_eq]
    refine sx_mono _ _ _ _ ?_ (l145_2 hlt' (by omega) (by simp [sxa, sxb, sxc, Ex.ok, Ex.val, ← wr_eq, h3]) (by simp [sxa, sxb, sxc, Ex.ok, Ex.val, ← wr_eq, h4]) (by simp [sxa, sxb, sxc, Ex.ok, Ex.val, ← wr_eq]))
    rintro x V' (⟨rfl, hall, e0, e3, e4⟩ | ⟨rfl, hall, e2⟩)
    · simp [sxa, sxb, sxc, Ex.ok, Ex.val, ← wr_eq, e0, e3, e4, h0, h3, h4, hw, hlt', allTo_succ, ha, hall]
    · simp [sxa, sxb, sxc, Ex.ok, Ex.val, ← wr_eq, e2, hbad hall]
  · have : n = S.length := by omega
    subst this
    repeat' (first | intro _ | (simp [sxa, sxb, sxc, Ex.ok, Ex.val, ← wr_eq, *]) | refine CallS_i (f183 l nl (by omega)) ?_ | refine CondS_d ?_ ?_ | refine CondS_b ?_ ?_ | refine GrdS_d ?_ ?_ | refine GrdS_b ?_ ?_ | refine OkS_i (by omega) ?_ | fail)
    all_goals simp_all
theorem f106 (l : List Pt) (nl : Bool) (hl : l.length ≤ 1000000000000) : Fn Tryz.prog 106 false [.lst 2 nl (l.map cp)] (.bool (wSimple l)) := by
  refine Fn.by_sx hX (by kernel_rfl) c106 (by kernel_rfl) (by rfl) ?_
  simp [i106, sxa, sxb, sxc, Ex.ok, Ex.val, ← wr_eq]
  refine CallS_b (f137 l nl (by omega)) (fun hL => ?_) (fun hL => ?_)
  · have hS := wSegs_len l
    obtain ⟨S, hSe⟩ : ∃ S, wSegs l = S := ⟨_, rfl⟩
    have hwS : wSimple l = (wLine l && allTo (fun n => allTo (rowS S n) n) S.length) := by rw [← hSe]; rfl
    rw [hSe] at hS
    simp [sxa, sxb, sxc, Ex.ok, Ex.val, ← wr_eq]
    refine CallS_l (f120 l nl (by omega)) ?_
    rw [hSe]
    simp [sxa, sxb, sxc, Ex.ok, Ex.val, ← wr_eq]
    refine sx_count S.length (fun n V => V 3 = .lst 4 false (S.map cs) ∧ V 13 = i S.length ∧ V 14 = i n ∧ allTo (fun n => allTo (rowS S n) n) n = true) 0 (by omega) (by simp [sxa, sxb, sxc, Ex.ok, Ex.val, ← wr_eq, allTo_zero]) ?_
    rintro n V hn ⟨h3, h13, h14, ha⟩
    have hw : wr .i64 ((n : Int) + 1) = n + 1 := wr_in (by omega) (by omega)
    simp [sxa, sxb, sxc, Ex.ok, Ex.val, ← wr_eq, h13, h14]
    refine CondS_d (fun hlt => ?_) (fun hge => ?_)
    · have hlt' : n < S.length := by omega
      have hbad : allTo (rowS S n) n = false → wSimple l = false := fun h => by rw [hwS, allTo_bad (ok := fun n => allTo (rowS S n) n) hlt' h]; simp
      simp [sxa, sxb, sxc, Ex.ok, Ex.val, ← wr_eq, h14]
      refine sx_mono _ _ _ _ ?_ (l106_2 hlt' (by omega) (by simp [sxa, sxb, sxc, Ex.ok, Ex.val, ← wr_eq, h3]) (by simp [sxa, sxb, sxc, Ex.ok, Ex.val, ← wr_eq, h14]) (by simp [sxa, sxb, sxc, Ex.ok, Ex.val, ← wr_eq, h14]) (by simp [sxa, sxb, sxc, Ex.ok, Ex.val, ← wr_eq]))
      rintro x V' (⟨rfl, hall, e0, e3, e13, e14⟩ | ⟨rfl, hall, e2⟩)
      · simp [sxa, sxb, sxc, Ex.ok, Ex.val, ← wr_eq, e3, e13, e14, h3, h13, h14, hw, hlt', allTo_succ, ha, hall]
      · simp [sxa, sxb, sxc, Ex.ok, Ex.val, ← wr_eq, e2, hbad hall]
    · have : n = S.length := by omega
      subst this
      repeat' (first | intro _ | (simp [sxa, sxb, sxc, Ex.ok, Ex.val, ← wr_eq, *]) | refine CondS_d ?_ ?_ | refine CondS_b ?_ ?_ | refine GrdS_d ?_ ?_ | refine GrdS_b ?_ ?_ | refine OkS_i (by omega) ?_ | fail)
      all_goals simp_all
  · have hf : wSimple l = false := by simp [wSimple, hL]
    repeat' (first | intro _ | (simp [sxa, sxb, sxc, Ex.ok, Ex.val, ← wr_eq, *]) | refine CondS_d ?_ ?_ | refine CondS_b ?_ ?_ | refine GrdS_d ?_ ?_ | refine GrdS_b ?_ ?_ | refine OkS_i (by omega) ?_ | fail)
end Go.Eng
namespace Go.Eng
open Go Go.Proofs Geo
set_option linter.unusedSimpArgs false
set_option linter.unusedVariables false
set_option maxRecDepth 20000
set_option maxHeartbeats 1000000

def rowR (S : List Sg) (n k : Nat) : Bool := decide (sMeet (sgD S n) (sgD S k) = if k + 1 = n ∨ (k = 0 ∧ n + 1 = S.length) then 1 else 0)
def sSeg (a : Sg) : Bool := M_IsSegment a.f0.f0 a.f0.f1 a.f1.f0 a.f1.f1
def ringAt (S : List Sg) (n : Nat) : Bool := sSeg (sgD S n) && allTo (rowR S n) n
def wRing (l : List Pt) : Bool := inR l.length 3 10 && allTo (ringAt (upTo (rgAt l) l.length)) l.length
theorem l146_2 {S : List Sg} {n : Nat} {V : Env} (hn : n < S.length) (hS : S.length ≤ 1000000000000) (h3 : V 3 = .lst 4 false (S.map cs)) (h4 : V 4 = i n) (h5 : V 5 = i 0) :
    sx (FC Tryz.prog) (.loop (.seq (.seq (.ops [s 25 (.mv (t 5)),
  s 26 (.mv (t 4)),
  s 27 (.bin .lss (t 25) (t 26))])
 (.cond (t 27) .skip (.exit 2)))
 (.seq (.block 3 (.seq (.ops [s 6 (.mv (c (i 0)))])
 (.seq (.seq (.ops [s 30 (.mv (t 5)),
  s 31 (.bin .add (t 30) (c (i 1))),
  s 32 (.mv (t 4)),
  s 33 (.bin .eql (t 31) (t 32)),
  s 34 (.mv (t 33)),
  sg [(34, false)] 35 (.mv (t 5)),
  sg [(34, false)] 36 (.bin .eql (t 35) (c (i 0))),
  sg [(34, false)] 37 (.mv (t 36)),
  sg [(37, true), (34, false)] 38 (.mv (t 4)),
  sg [(37, true), (34, false)] 39 (.bin .add (t 38) (c (i 1))),
  sg [(37, true), (34, false)] 40 (.mv (t 3)),
  sg [(37, true), (34, false)] 41 (.len false (t 40)),
  sg [(37, true), (34, false)] 42 (.bin .eql (t 39) (t 41)),
  sg [(34, false)] 43 (.pick (t 37) (t 42) (c (.bool false))),
  s 44 (.pick (t 34) (c (.bool true)) (t 43))])
 (.cond (t 44) (.ops [s 6 (.mv (c (i 1)))]) .skip))
 (.seq (.ops [s 45 (.mv (t 3)),
  s 46 (.mv (t 4)),
  s 47 (.idx (t 45) (t 46) 4),
  s 48 (.ldE 45 47 0 4 true true 4),
  s 49 (.mv (t 3)),
  s 50 (.mv (t 5)),
  s 51 (.idx (t 49) (t 50) 4),
  s 52 (.ldE 49 51 0 4 true true 4),
  k 53 182 [(t 48), (t 52)] .sc,
  s 54 (.mv (t 6)),
  s 55 (.bin .neq (t 53) (t 54))])
 (.cond (t 55) (.seq (.ops [s 2 (.mv (c (.bool false)))])
 .ret) .skip)))))
 (.ops [s 28 (.mv (t 5)),
  s 29 (.bin .add (t 28) (c (i 1))),
  s 5 (.mv (t 29))])))) (fun x V' => (x = .exit 2 ∧ allTo (rowR S n) n = true ∧ V' 0 = V 0 ∧ V' 3 = V 3 ∧ V' 4 = V 4) ∨ (x = .ret ∧ allTo (rowR S n) n = false ∧ V' 2 = .bool false)) V := by
  refine sx_count n (fun k V' => V' 0 = V 0 ∧ V' 3 = V 3 ∧ V' 4 = V 4 ∧ V' 5 = i k ∧ allTo (rowR S n) k = true) 0 (by omega) ⟨rfl, rfl, rfl, h5, allTo_zero⟩ ?_
  rintro k V' hk ⟨g0, g3, g4, g5, ha⟩
  have hw : wr .i64 ((k : Int) + 1) = k + 1 := wr_in (by omega) (by omega)
  have hw' : wr .i64 ((n : Int) + 1) = n + 1 := wr_in (by omega) (by omega)
  simp [sxa, sxb, sxc, Ex.ok, Ex.val, ← wr_eq, g3, g4, g5, h3, h4]
  refine CondS_d (fun hlt => ?_) (fun hge => ?_)
  · have hk' : k < n := by omega
    have hkS : k < S.length := by omega
    have hbad : rowR S n k = false → allTo (rowR S n) n = false := allTo_bad hk'
    have hgood : rowR S n k = true → allTo (rowR S n) (k + 1) = true := fun h => by rw [allTo_succ, ha, h]; rfl
    have hr : rowR S n k = decide (sMeet S[n] S[k] = if k + 1 = n ∨ (k = 0 ∧ n + 1 = S.length) then 1 else 0) := by simp [rowR, sgD, hn, hkS]
    rcases Nat.eq_zero_or_pos k with rfl | hkp
    · repeat' (first | intro _ | (simp [sxa, sxb, sxc, Ex.ok, Ex.val, ← wr_eq, cs, *]) | refine CallS_i (f182 _ _ _ _ _ _ _ _) ?_ | refine CondS_d ?_ ?_ | refine CondS_b ?_ ?_ | refine GrdS_d ?_ ?_ | refine GrdS_b ?_ ?_ | refine OkS_i (by omega) ?_ | fail)
      all_goals first
        | exact hbad (by rw [hr]; first | (rw [if_pos (by omega)]; simp_all [sMeet]; done) | (rw [if_neg (by omega)]; simp_all [sMeet]; done))
        | (have h' := hgood (by rw [hr]; first | (rw [if_pos (by omega)]; simp_all [sMeet]; done) | (rw [if_neg (by omega)]; simp_all [sMeet]; done)); simp_all; done)
        | simp_all
    · have hk1 : ¬ (k : Int) = 0 := by omega
      repeat' (first | intro _ | (simp [sxa, sxb, sxc, Ex.ok, Ex.val, ← wr_eq, cs, *]) | refine CallS_i (f182 _ _ _ _ _ _ _ _) ?_ | refine CondS_d ?_ ?_ | refine CondS_b ?_ ?_ | refine GrdS_d ?_ ?_ | refine GrdS_b ?_ ?_ | refine OkS_i (by omega) ?_ | fail)
      all_goals first
        | exact hbad (by rw [hr]; first | (rw [if_pos (by omega)]; simp_all [sMeet]; done) | (rw [if_neg (by omega)]; simp_all [sMeet]; done))
        | (have h' := hgood (by rw [hr]; first | (rw [if_pos (by omega)]; simp_all [sMeet]; done) | (rw [if_neg (by omega)]; simp_all [sMeet]; done)); simp_all; done)
        | simp_all
  · have : k = n := by omega
    subst this
    repeat' (first | intro _ | (simp [sxa, sxb, sxc, Ex.ok, Ex.val, ← wr_eq, *]) | refine CondS_d ?_ ?_ | refine CondS_b ?_ ?_ | refine GrdS_d ?_ ?_ | refine GrdS_b ?_ ?_ | refine OkS_i (by omega) ?_ | fail)
    all_goals simp_all
theorem l107_2 {S : List Sg} {n : Nat} {V : Env} (hn : n < S.length) (hS : S.length ≤ 1000000000000) (h3 : V 3 = .lst 4 false (S.map cs)) (h4 : V 4 = i n) (h28 : V 28 = i n) (h29 : V 29 = i 0) :
    sx (FC Tryz.prog) (.loop (.seq (.ops [s 30 (.bin .lss (t 29) (t 28))])
 (.seq (.cond (t 30) .skip (.exit 2))
 (.seq (.block 3 (.seq (.ops [s 31 (.mv (t 29)),
  s 5 (.mv (t 31))])
 (.seq (.ops [s 6 (.mv (c (i 0)))])
 (.seq (.seq (.ops [s 32 (.mv (t 5)),
  s 33 (.mv (t 4)),
  s 34 (.bin .sub (t 33) (c (i 1))),
  s 35 (.bin .eql (t 32) (t 34)),
  s 36 (.mv (t 35)),
  sg [(36, false)] 37 (.mv (t 5)),
  sg [(36, false)] 38 (.bin .eql (t 37) (c (i 0))),
  sg [(36, false)] 39 (.mv (t 38)),
  sg [(39, true), (36, false)] 40 (.mv (t 4)),
  sg [(39, true), (36, false)] 41 (.mv (t 3)),
  sg [(39, true), (36, false)] 42 (.len false (t 41)),
  sg [(39, true), (36, false)] 43 (.bin .sub (t 42) (c (i 1))),
  sg [(39, true), (36, false)] 44 (.bin .eql (t 40) (t 43)),
  sg [(36, false)] 45 (.pick (t 39) (t 44) (c (.bool false))),
  s 46 (.pick (t 36) (c (.bool true)) (t 45))])
 (.cond (t 46) (.ops [s 6 (.mv (c (i 1)))]) .skip))
 (.seq (.ops [s 47 (.mv (t 3)),
  s 48 (.mv (t 4)),
  s 49 (.idx (t 47) (t 48) 4),
  s 50 (.ldE 47 49 0 4 true true 4),
  s 51 (.mv (t 3)),
  s 52 (.mv (t 5)),
  s 53 (.idx (t 51) (t 52) 4),
  s 54 (.ldE 51 53 0 4 true true 4),
  k 55 138 [(t 50), (t 54)] .sc,
  s 56 (.mv (t 6)),
  s 57 (.bin .neq (t 55) (t 56))])
 (.cond (t 57) (.seq (.ops [s 2 (.mv (c (.bool false)))])
 .ret) .skip))))))
 (.ops [s 58 (.bin .add (t 29) (c (i 1))),
  s 29 (.mv (t 58))]))))) (fun x V' => (x = .exit 2 ∧ allTo (rowR S n) n = true ∧ V' 0 = V 0 ∧ V' 3 = V 3 ∧ V' 18 = V 18 ∧ V' 19 = V 19) ∨ (x = .ret ∧ allTo (rowR S n) n = false ∧ V' 2 = .bool false)) V := by
  refine sx_count n (fun k V' => V' 0 = V 0 ∧ V' 3 = V 3 ∧ V' 4 = V 4 ∧ V' 18 = V 18 ∧ V' 19 = V 19 ∧ V' 28 = V 28 ∧ V' 29 = i k ∧ allTo (rowR S n) k = true) 0 (by omega) ⟨rfl, rfl, rfl, rfl, rfl, rfl, h29, allTo_zero⟩ ?_
  rintro k V' hk ⟨g0, g3, g4, g18, g19, g28, g29, ha⟩
  have hw : wr .i64 ((k : Int) + 1) = k + 1 := wr_in (by omega) (by omega)
  have hw2 : wr .i64 ((n : Int) - 1) = n - 1 := wr_in (by omega) (by omega)
  have hw3 : wr .i64 ((S.length : Int) - 1) = S.length - 1 := wr_in (by omega) (by omega)
  simp [sxa, sxb, sxc, Ex.ok, Ex.val, ← wr_eq, g28, g29, h28]
  refine CondS_d (fun hlt => ?_) (fun hge => ?_)
  · have hk' : k < n := by omega
    have hkS : k < S.length := by omega
    have hbad : rowR S n k = false → allTo (rowR S n) n = false := allTo_bad hk'
    have hgood : rowR S n k = true → allTo (rowR S n) (k + 1) = true := fun h => by rw [allTo_succ, ha, h]; rfl
    have hr : rowR S n k = decide (sMeet S[n] S[k] = if k + 1 = n ∨ (k = 0 ∧ n + 1 = S.length) then 1 else 0) := by simp [rowR, sgD, hn, hkS]
    have hc : ((k : Int) = n - 1) = ((k : Int) + 1 = n) := propext ⟨fun h => by omega, fun h => by omega⟩
    have hc0 : ((0 : Int) = n - 1) = ((n : Int) < 2) := propext ⟨fun h => by omega, fun h => by omega⟩
    have hc1 : ((n : Int) = S.length - 1) = ((n : Int) + 1 = S.length) := propext ⟨fun h => by omega, fun h => by omega⟩
    rcases Nat.eq_zero_or_pos k with rfl | hkp
    · repeat' (first | intro _ | (simp [sxa, sxb, sxc, Ex.ok, Ex.val, ← wr_eq, cs, *]) | refine CallS_i (f138 _ _ _ _ _ _ _ _) ?_ | refine CondS_d ?_ ?_ | refine CondS_b ?_ ?_ | refine GrdS_d ?_ ?_ | refine GrdS_b ?_ ?_ | refine OkS_i (by omega) ?_ | fail)
      all_goals first
        | exact hbad (by rw [hr]; first | (rw [if_pos (by omega)]; simp_all [sMeet]; done) | (rw [if_neg (by omega)]; simp_all [sMeet]; done))
        | (have h' := hgood (by rw [hr]; first | (rw [if_pos (by omega)]; simp_all [sMeet]; done) | (rw [if_neg (by omega)]; simp_all [sMeet]; done)); simp_all; done)
        | simp_all
    · have hk1 : ¬ (k : Int) = 0 := by omega
      repeat' (first | intro _ | (simp [sxa, sxb, sxc, Ex.ok, Ex.val, ← wr_eq, cs, *]) | refine CallS_i (f138 _ _ _ _ _ _ _ _) ?_ | refine CondS_d ?_ ?_ | refine CondS_b ?_ ?_ | refine GrdS_d ?_ ?_ | refine GrdS_b ?_ ?_ | refine OkS_i (by omega) ?_ | fail)
      all_goals first
        | exact hbad (by rw [hr]; first | (rw [if_pos (by omega)]; simp_all [sMeet]; done) | (rw [if_neg (by omega)]; simp_all [sMeet]; done))
        | (have h' := hgood (by rw [hr]; first | (rw [if_pos (by omega)]; simp_all [sMeet]; done) | (rw [if_neg (by omega)]; simp_all [sMeet]; done)); simp_all; done)
        | simp_all
  · have : k = n := by omega
    subst this
    repeat' (first | intro _ | (simp [sxa, sxb, sxc, Ex.ok, Ex.val, ← wr_eq, *]) | refine CondS_d ?_ ?_ | refine CondS_b ?_ ?_ | refine GrdS_d ?_ ?_ | refine GrdS_b ?_ ?_ | refine OkS_i (by omega) ?_ | fail)
    all_goals simp_all
theorem f146 (l : List Pt) (nl : Bool) (hl : l.length ≤ 1000000000000) : Fn Tryz.prog 146 false [.lst 2 nl (l.map cp)] (.bool (wRing l)) := by
  refine Fn.by_sx hX (by kernel_rfl) c146 (by kernel_rfl) (by rfl) ?_
  simp [i146, sxa, sxb, sxc, Ex.ok, Ex.val, ← wr_eq]
  refine CallS_b (f116 _ _ _) (fun hL => ?_) (fun hL => ?_)
  · obtain ⟨S, hSe, hS⟩ : ∃ S, upTo (rgAt l) l.length = S ∧ S.length = l.length := ⟨_, rfl, upTo_length⟩
    have hwS : allTo (ringAt S) S.length = wRing l := by unfold wRing; rw [hSe, hL, hS]; rfl
    repeat' (first | intro _ | (simp [sxa, sxb, sxc, Ex.ok, Ex.val, ← wr_eq, *]) | refine CondS_d ?_ ?_ | refine CondS_b ?_ ?_ | refine GrdS_d ?_ ?_ | refine GrdS_b ?_ ?_ | refine OkS_i (by omega) ?_ | fail)
    refine CallS_l (f184 l nl hl) ?_
    rw [hSe]
    simp [sxa, sxb, sxc, Ex.ok, Ex.val, ← wr_eq]
    refine sx_count S.length (fun n V => V 0 = .lst 2 nl (l.map cp) ∧ V 3 = .lst 4 false (S.map cs) ∧ V 4 = i n ∧ allTo (ringAt S) n = true) 0 (by omega) (by simp [sxa, sxb, sxc, Ex.ok, Ex.val, ← wr_eq, allTo_zero]) ?_
    rintro n V hn ⟨h0, h3, h4, ha⟩
    have hw : wr .i64 ((n : Int) + 1) = n + 1 := wr_in (by omega) (by omega)
    simp [sxa, sxb, sxc, Ex.ok, Ex.val, ← wr_eq, h3, h4]
    refine CondS_d (fun hlt => ?_) (fun hge => ?_)
    · have hlt' : n < S.length := by omega
      have hr : ringAt S n = (sSeg S[n] && allTo (rowR S n) n) := by simp [ringAt, sgD, hlt']
      have hbad : ringAt S n = false → wRing l = false := fun h => by rw [← hwS, allTo_bad hlt' h]
      simp [sxa, sxb, sxc, Ex.ok, Ex.val, ← wr_eq, h3, h4, hlt', cs]
      refine CallS_b (f185 _ _ _ _) (fun hs => ?_) (fun hs => ?_)
      · simp [sxa, sxb, sxc, Ex.ok, Ex.val, ← wr_eq]
        refine sx_mono _ _ _ _ ?_ (l146_2 hlt' (by omega) (by simp [sxa, sxb, sxc, Ex.ok, Ex.val, ← wr_eq, h3]) (by simp [sxa, sxb, sxc, Ex.ok, Ex.val, ← wr_eq, h4]) (by simp [sxa, sxb, sxc, Ex.ok, Ex.val, ← wr_eq]))
        rintro x V' (⟨rfl, hall, e0, e3, e4⟩ | ⟨rfl, hall, e2⟩)
        · simp [sxa, sxb, sxc, Ex.ok, Ex.val, ← wr_eq, e0, e3, e4, h0, h3, h4, hw, hlt', allTo_succ, ha, hall, hr, sSeg, hs, cs]
        · have := hbad (by rw [hr, hall]; simp)
          simp [sxa, sxb, sxc, Ex.ok, Ex.val, ← wr_eq, e2, this]
      · have := hbad (by rw [hr]; simp [sSeg, hs])
        repeat' (first | intro _ | (simp [sxa, sxb, sxc, Ex.ok, Ex.val, ← wr_eq, *]) | refine CondS_d ?_ ?_ | refine CondS_b ?_ ?_ | refine GrdS_d ?_ ?_ | refine GrdS_b ?_ ?_ | refine OkS_i (by omega) ?_ | fail)
    · have : n = S.length := by omega
      subst this
      repeat' (first | intro _ | (simp [sxa, sxb, sxc, Ex.ok, Ex.val, ← wr_eq, *]) | refine CondS_d ?_ ?_ | refine CondS_b ?_ ?_ | refine GrdS_d ?_ ?_ | refine GrdS_b ?_ ?_ | refine OkS_i (by omega) ?_ | fail)
      all_goals simp_all
  · have hf : wRing l = false := by simp [wRing, hL]
    repeat' (first | intro _ | (simp [sxa, sxb, sxc, Ex.ok, Ex.val, ← wr_eq, *]) | refine CondS_d ?_ ?_ | refine CondS_b ?_ ?_ | refine GrdS_d ?_ ?_ | refine GrdS_b ?_ ?_ | refine OkS_i (by omega) ?_ | fail)
theorem f107 (l : List Pt) (nl : Bool) (hl : l.length ≤ 1000000000000) : Fn Tryz.prog 107 false [.lst 2 nl (l.map cp)] (.bool (wRing l)) := by
  refine Fn.by_sx hX (by kernel_rfl) c107 (by kernel_rfl) (by rfl) ?_
  simp [i107, sxa, sxb, sxc, Ex.ok, Ex.val, ← wr_eq]
  by_cases hL : inR l.length 3 10 = true
  · obtain ⟨S, hSe, hS⟩ : ∃ S, upTo (rgAt l) l.length = S ∧ S.length = l.length := ⟨_, rfl, upTo_length⟩
    have hwS : allTo (ringAt S) S.length = wRing l := by unfold wRing; rw [hSe, hL, hS]; rfl
    have hL1 : ¬ (l.length : Int) < 3 := by simp [inR] at hL; omega
    have hL2 : ¬ (10 : Int) < l.length := by simp [inR] at hL; omega
    repeat' (first | intro _ | (simp [sxa, sxb, sxc, Ex.ok, Ex.val, ← wr_eq, *]) | refine CondS_d ?_ ?_ | refine CondS_b ?_ ?_ | refine GrdS_d ?_ ?_ | refine GrdS_b ?_ ?_ | refine OkS_i (by omega) ?_ | fail)
    refine CallS_l (f139 l nl hl) ?_
    rw [hSe]
    simp [sxa, sxb, sxc, Ex.ok, Ex.val, ← wr_eq]
    refine sx_count S.length (fun n V => V 3 = .lst 4 false (S.map cs) ∧ V 18 = i S.length ∧ V 19 = i n ∧ allTo (ringAt S) n = true) 0 (by omega) (by simp [sxa, sxb, sxc, Ex.ok, Ex.val, ← wr_eq, allTo_zero]) ?_
    rintro n V hn ⟨h3, h18, h19, ha⟩
    have hw : wr .i64 ((n : Int) + 1) = n + 1 := wr_in (by omega) (by omega)
    simp [sxa, sxb, sxc, Ex.ok, Ex.val, ← wr_eq, h18, h19]
    refine CondS_d (fun hlt => ?_) (fun hge => ?_)
    · have hlt' : n < S.length := by omega
      have hr : ringAt S n = (sSeg S[n] && allTo (rowR S n) n) := by simp [ringAt, sgD, hlt']
      have hbad : ringAt S n = false → wRing l = false := fun h => by rw [← hwS, allTo_bad hlt' h]
      simp [sxa, sxb, sxc, Ex.ok, Ex.val, ← wr_eq, h3, h19, hlt', cs]
      refine CallS_b (f140 _ _ _ _) (fun hs => ?_) (fun hs => ?_)
      · simp [sxa, sxb, sxc, Ex.ok, Ex.val, ← wr_eq]
        refine sx_mono _ _ _ _ ?_ (l107_2 hlt' (by omega) (by simp [sxa, sxb, sxc, Ex.ok, Ex.val, ← wr_eq, h3]) (by simp [sxa, sxb, sxc, Ex.ok, Ex.val, ← wr_eq, h19]) (by simp [sxa, sxb, sxc, Ex.ok, Ex.val, ← wr_eq, h19]) (by simp [sxa, sxb, sxc, Ex.ok, Ex.val, ← wr_eq]))
        rintro x V' (⟨rfl, hall, e0, e3, e18, e19⟩ | ⟨rfl, hall, e2⟩)
        · simp [sxa, sxb, sxc, Ex.ok, Ex.val, ← wr_eq, e3, e18, e19, h3, h18, h19, hw, hlt', allTo_succ, ha, hall, hr, sSeg, hs, cs]
        · have := hbad (by rw [hr, hall]; simp)
          simp [sxa, sxb, sxc, Ex.ok, Ex.val, ← wr_eq, e2, this]
      · have := hbad (by rw [hr]; simp [sSeg, hs])
        repeat' (first | intro _ | (simp [sxa, sxb, sxc, Ex.ok, Ex.val, ← wr_eq, *]) | refine CondS_d ?_ ?_ | refine CondS_b ?_ ?_ | refine GrdS_d ?_ ?_ | refine GrdS_b ?_ ?_ | refine OkS_i (by omega) ?_ | fail)
    · have : n = S.length := by omega
      subst this
      repeat' (first | intro _ | (simp [sxa, sxb, sxc, Ex.ok, Ex.val, ← wr_eq, *]) | refine CondS_d ?_ ?_ | refine CondS_b ?_ ?_ | refine GrdS_d ?_ ?_ | refine GrdS_b ?_ ?_ | refine OkS_i (by omega) ?_ | fail)
      all_goals simp_all
  · have hf : wRing l = false := by simp [wRing, hL]
    have hL : (l.length : Int) < 3 ∨ (10 : Int) < l.length := by simp [inR] at hL; omega
    rcases hL with h | h
    · repeat' (first | intro _ | (simp [sxa, sxb, sxc, Ex.ok, Ex.val, ← wr_eq, *]) | refine CondS_d ?_ ?_ | refine CondS_b ?_ ?_ | refine GrdS_d ?_ ?_ | refine GrdS_b ?_ ?_ | refine OkS_i (by omega) ?_ | fail)
    · have : ¬ (l.length : Int) < 3 := by omega
      repeat' (first | intro _ | (simp [sxa, sxb, sxc, Ex.ok, Ex.val, ← wr_eq, *]) | refine CondS_d ?_ ?_ | refine CondS_b ?_ ?_ | refine GrdS_d ?_ ?_ | refine GrdS_b ?_ ?_ | refine OkS_i (by omega) ?_ | fail)
end Go.Eng
namespace Go.Eng
open Go Go.Proofs Geo
set_option linter.unusedSimpArgs false
set_option linter.unusedVariables false
set_option maxRecDepth 20000
set_option maxHeartbeats 1000000

def lowAt (s : ByteArray) (n : Nat) : Bool := decide (¬ ((s.data[n]?.getD 0).toNat : Int) < 97 ∧ ¬ (122 : Int) < ((s.data[n]?.getD 0).toNat : Int))
def isNm (s : ByteArray) : Bool := allTo (lowAt s) s.size && inR s.size 1 8
theorem f144 (s : ByteArray) (hs : s.size ≤ 4611686018427387904) : Fn Tryz.prog 144 false [.str s] (.bool (isNm s)) := by
  refine Fn.by_sx hX (by kernel_rfl) c144 (by kernel_rfl) (by rfl) ?_
  simp [i144, sxa, sxb, sxc, Ex.ok, Ex.val, ← wr_eq]
  refine sx_count s.size (fun n V => V 0 = .str s ∧ V 3 = i n ∧ allTo (lowAt s) n = true) 0 (by omega) (by simp [sxa, sxb, sxc, Ex.ok, Ex.val, ← wr_eq, allTo_zero]) ?_
  rintro n V hn ⟨h0, h3, ha⟩
  have hw : wr .i64 ((n : Int) + 1) = n + 1 := wr_in (by omega) (by omega)
  simp [sxa, sxb, sxc, Ex.ok, Ex.val, ← wr_eq, h0, h3]
  refine CondS_d (fun hlt => ?_) (fun hge => ?_)
  · have hlt' : n < s.size := by omega
    have hbad : lowAt s n = false → isNm s = false := fun h => by simp [isNm, allTo_bad hlt' h]
    have hlt2 : n < s.data.size := hlt'
    obtain ⟨b, hb⟩ : ∃ b, (s.data[n].toNat : Int) = b := ⟨_, rfl⟩
    have hr : lowAt s n = decide (¬ b < 97 ∧ ¬ (122 : Int) < b) := by unfold lowAt; rw [Array.getElem?_eq_getElem hlt2]; simp only [Option.getD_some, hb]
    simp [sxa, sxb, sxc, Ex.ok, Ex.val, ← wr_eq, hlt', h0, h3, hb]
    repeat' (first | intro _ | (simp [sxa, sxb, sxc, Ex.ok, Ex.val, ← wr_eq, allTo_succ, *]) | refine CondS_d ?_ ?_ | refine CondS_b ?_ ?_ | refine GrdS_d ?_ ?_ | refine GrdS_b ?_ ?_ | refine OkS_i (by omega) ?_ | fail)
    all_goals first
      | exact hbad (by rw [hr]; simp; omega)
      | (rw [hr]; simp; omega)
      | omega
  · have : n = s.size := by omega
    subst this
    repeat' (first | intro _ | (simp [sxa, sxb, sxc, Ex.ok, Ex.val, ← wr_eq, *]) | refine CallS_i (f116 _ _ _) ?_ | refine CondS_d ?_ ?_ | refine CondS_b ?_ ?_ | refine GrdS_d ?_ ?_ | refine GrdS_b ?_ ?_ | refine OkS_i (by omega) ?_ | fail)
    all_goals simp_all [isNm]
theorem f105 (s : ByteArray) (hs : s.size ≤ 4611686018427387904) : Fn Tryz.prog 105 false [.str s] (.bool (isNm s)) := by
  refine Fn.by_sx hX (by kernel_rfl) c105 (by kernel_rfl) (by rfl) ?_
  simp [i105, sxa, sxb, sxc, Ex.ok, Ex.val, ← wr_eq]
  refine sx_count s.size (fun n V => V 0 = .str s ∧ V 5 = i s.size ∧ V 6 = i n ∧ allTo (lowAt s) n = true) 0 (by omega) (by simp [sxa, sxb, sxc, Ex.ok, Ex.val, ← wr_eq, allTo_zero]) ?_
  rintro n V hn ⟨h0, h5, h6, ha⟩
  have hw : wr .i64 ((n : Int) + 1) = n + 1 := wr_in (by omega) (by omega)
  simp [sxa, sxb, sxc, Ex.ok, Ex.val, ← wr_eq, h5, h6]
  refine CondS_d (fun hlt => ?_) (fun hge => ?_)
  · have hlt' : n < s.size := by omega
    have hbad : lowAt s n = false → isNm s = false := fun h => by simp [isNm, allTo_bad hlt' h]
    have hlt2 : n < s.data.size := hlt'
    obtain ⟨b, hb⟩ : ∃ b, (s.data[n].toNat : Int) = b := ⟨_, rfl⟩
    have hr : lowAt s n = decide (¬ b < 97 ∧ ¬ (122 : Int) < b) := by unfold lowAt; rw [Array.getElem?_eq_getElem hlt2]; simp only [Option.getD_some, hb]
    simp [sxa, sxb, sxc, Ex.ok, Ex.val, ← wr_eq, hlt', h0, h6, hb]
    repeat' (first | intro _ | (simp [sxa, sxb, sxc, Ex.ok, Ex.val, ← wr_eq, allTo_succ, *]) | refine CondS_d ?_ ?_ | refine CondS_b ?_ ?_ | refine GrdS_d ?_ ?_ | refine GrdS_b ?_ ?_ | refine OkS_i (by omega) ?_ | fail)
    all_goals first
      | exact hbad (by rw [hr]; simp; omega)
      | (rw [hr]; simp; omega)
      | omega
  · have : n = s.size := by omega
    subst this
    repeat' (first | intro _ | (simp [sxa, sxb, sxc, Ex.ok, Ex.val, ← wr_eq, *]) | refine CallS_i (f75 _ _ _) ?_ | refine CondS_d ?_ ?_ | refine CondS_b ?_ ?_ | refine GrdS_d ?_ ?_ | refine GrdS_b ?_ ?_ | refine OkS_i (by omega) ?_ | fail)
    all_goals simp_all [isNm]
structure Ft where
  f0 : Int
  f1 : Int
  f2 : Int
  f3 : ByteArray
  f4 : List Pt
  nl : Bool
def ft (x : Ft) : List PV := [i x.f0, i x.f1, i x.f2, .str x.f3, .lst 2 x.nl (x.f4.map cp)]
def wShape (x : Ft) : Bool := if x.f1 = 1 then decide (x.f4.length = 1) && M_IsPoint (x.f4.getD 0 ⟨0, 0⟩).f0 (x.f4.getD 0 ⟨0, 0⟩).f1 else if x.f1 = 2 then wSimple x.f4 else if x.f1 = 3 then wRing x.f4 else false
def wFeat (x : Ft) : Bool := (inR x.f0 1 99 && (inR x.f2 0 9 && (decide (x.f3 = bs []) || isNm x.f3))) && wShape x
def Ft.okay (x : Ft) : Prop := x.f3.size ≤ 4611686018427387904 ∧ x.f4.length ≤ 1000000000000
theorem f115 (x : Ft) (hx : x.okay) : Fn Tryz.prog 115 false [.agg (ft x)] (.bool (wFeat x)) := by
  obtain ⟨hx1, hx2⟩ := hx
  unfold ft
  refine Fn.by_sx hX (by kernel_rfl) c115 (by kernel_rfl) (by rfl) ?_
  simp [i115, sxa, sxb, sxc, Ex.ok, Ex.val, ← wr_eq]
  by_cases hk1 : x.f1 = 1
  · by_cases hl : x.f4.length = 1
    · have hl0 : 0 < x.f4.length := by omega
      repeat' (first | intro _ | (simp [sxa, sxb, sxc, Ex.ok, Ex.val, ← wr_eq, cp, *]) | refine CallS_b (f116 _ _ _) (fun h => ?_) (fun h => ?_) | refine CallS_b (f144 _ hx1) (fun h => ?_) (fun h => ?_) | refine CallS_b (f70 _ _) (fun h => ?_) (fun h => ?_) | refine CondS_d ?_ ?_ | refine CondS_b ?_ ?_ | refine GrdS_d ?_ ?_ | refine GrdS_b ?_ ?_ | refine OkS_i (by omega) ?_ | fail)
      all_goals simp_all [wFeat, wShape]
    · have hlI : ¬ (x.f4.length : Int) = 1 := by omega
      repeat' (first | intro _ | (simp [sxa, sxb, sxc, Ex.ok, Ex.val, ← wr_eq, cp, *]) | refine CallS_b (f116 _ _ _) (fun h => ?_) (fun h => ?_) | refine CallS_b (f144 _ hx1) (fun h => ?_) (fun h => ?_) | refine CondS_d ?_ ?_ | refine CondS_b ?_ ?_ | refine GrdS_d ?_ ?_ | refine GrdS_b ?_ ?_ | refine OkS_i (by omega) ?_ | fail)
      all_goals simp_all [wFeat, wShape]
  · repeat' (first | intro _ | (simp [sxa, sxb, sxc, Ex.ok, Ex.val, ← wr_eq, cp, *]) | refine CallS_b (f116 _ _ _) (fun h => ?_) (fun h => ?_) | refine CallS_b (f144 _ hx1) (fun h => ?_) (fun h => ?_) | refine CallS_i (f145 _ _ hx2) ?_ | refine CallS_i (f146 _ _ hx2) ?_ | refine CondS_d ?_ ?_ | refine CondS_b ?_ ?_ | refine GrdS_d ?_ ?_ | refine GrdS_b ?_ ?_ | refine OkS_i (by omega) ?_ | fail)
    all_goals simp_all [wFeat, wShape]

theorem f62 (x : Ft) (hx : x.okay) : Fn Tryz.prog 62 false [.agg (ft x)] (.bool (wFeat x)) := by
  obtain ⟨hx1, hx2⟩ := hx
  unfold ft
  refine Fn.by_sx hX (by kernel_rfl) c62 (by kernel_rfl) (by rfl) ?_
  simp [i62, sxa, sxb, sxc, Ex.ok, Ex.val, ← wr_eq]
  by_cases hk1 : x.f1 = 1
  · by_cases hl : x.f4.length = 1
    · have hl0 : 0 < x.f4.length := by omega
      repeat' (first | intro _ | (simp [sxa, sxb, sxc, Ex.ok, Ex.val, ← wr_eq, cp, *]) | refine CallS_b (f75 _ _ _) (fun h => ?_) (fun h => ?_) | refine CallS_b (f105 _ hx1) (fun h => ?_) (fun h => ?_) | refine CallS_b (f35 _ _) (fun h => ?_) (fun h => ?_) | refine CondS_d ?_ ?_ | refine CondS_b ?_ ?_ | refine GrdS_d ?_ ?_ | refine GrdS_b ?_ ?_ | refine OkS_i (by omega) ?_ | fail)
      all_goals simp_all [wFeat, wShape]
    · have hlI : ¬ (x.f4.length : Int) = 1 := by omega
      repeat' (first | intro _ | (simp [sxa, sxb, sxc, Ex.ok, Ex.val, ← wr_eq, cp, *]) | refine CallS_b (f75 _ _ _) (fun h => ?_) (fun h => ?_) | refine CallS_b (f105 _ hx1) (fun h => ?_) (fun h => ?_) | refine CondS_d ?_ ?_ | refine CondS_b ?_ ?_ | refine GrdS_d ?_ ?_ | refine GrdS_b ?_ ?_ | refine OkS_i (by omega) ?_ | fail)
      all_goals simp_all [wFeat, wShape]
  · repeat' (first | intro _ | (simp [sxa, sxb, sxc, Ex.ok, Ex.val, ← wr_eq, cp, *]) | refine CallS_b (f75 _ _ _) (fun h => ?_) (fun h => ?_) | refine CallS_b (f105 _ hx1) (fun h => ?_) (fun h => ?_) | refine CallS_i (f106 _ _ hx2) ?_ | refine CallS_i (f107 _ _ hx2) ?_ | refine CondS_d ?_ ?_ | refine CondS_b ?_ ?_ | refine GrdS_d ?_ ?_ | refine GrdS_b ?_ ?_ | refine OkS_i (by omega) ?_ | fail)
    all_goals simp_all [wFeat, wShape]
end Go.Eng
namespace Go.Eng
open Go Go.Proofs Geo
set_option linter.unusedSimpArgs false
set_option linter.unusedVariables false
set_option maxRecDepth 20000
set_option maxHeartbeats 1000000

structure En where
  f0 : Ft
  f1 : Int
  f2 : Int
  f3 : Bool
def en (x : En) : List PV := [i x.f0.f0, i x.f0.f1, i x.f0.f2, .str x.f0.f3, .lst 2 x.f0.nl (x.f0.f4.map cp), i x.f1, i x.f2, .bool x.f3]
/-! sizes -/
def szr (left n : Int) : Int := if left - n < 0 then -1 else left - n
theorem f82 (l : List Pt) (nl : Bool) (left : Int) (h0 : 0 ≤ left) (h1 : left ≤ 1048576) (hl : l.length ≤ 9223372036854775807) : Fn Tryz.prog 82 false [.lst 2 nl (l.map cp), i left] (i (szr left l.length)) := by
  refine Fn.by_sx hX (by kernel_rfl) c82 (by kernel_rfl) (by rfl) ?_
  simp [i82, sxa, sxb, sxc, Ex.ok, Ex.val, ← wr_eq]
  have hw : wr .i64 (left - l.length) = left - l.length := wr_in (by omega) (by omega)
  repeat' (first | intro _ | (simp [sxa, sxb, sxc, Ex.ok, Ex.val, ← wr_eq, *]) | refine CondS_d ?_ ?_ | refine CondS_b ?_ ?_ | refine GrdS_d ?_ ?_ | refine GrdS_b ?_ ?_ | refine OkS_i (by omega) ?_ | fail)
  all_goals (unfold szr; split <;> omega)
def wtF (x : Ft) : Nat := x.f3.size + x.f4.length
def Ft.fits (x : Ft) : Prop := x.f3.size ≤ 9223372036854775807 ∧ x.f4.length ≤ 9223372036854775807
theorem f39 (x : Ft) (left : Int) (h0 : 0 ≤ left) (h1 : left ≤ 1048576) (hx : x.fits) : Fn Tryz.prog 39 false [.agg (ft x), i left] (i (szr left (wtF x : Nat))) := by
  obtain ⟨hx1, hx2⟩ := hx
  unfold ft
  refine Fn.by_sx hX (by kernel_rfl) c39 (by kernel_rfl) (by rfl) ?_
  simp [i39, sxa, sxb, sxc, Ex.ok, Ex.val, ← wr_eq]
  have hw : wr .i64 (left - x.f3.size) = left - x.f3.size := wr_in (by omega) (by omega)
  by_cases hc : left - x.f3.size < 0
  · repeat' (first | intro _ | (simp [sxa, sxb, sxc, Ex.ok, Ex.val, ← wr_eq, *]) | refine CondS_d ?_ ?_ | refine CondS_b ?_ ?_ | refine GrdS_d ?_ ?_ | refine GrdS_b ?_ ?_ | refine OkS_i (by omega) ?_ | fail)
    unfold szr wtF; split <;> omega
  · have hc' := f82 x.f4 x.nl (left - x.f3.size) (by omega) (by omega) hx2
    repeat' (first | intro _ | (simp [sxa, sxb, sxc, Ex.ok, Ex.val, ← wr_eq, *]) | refine CallS_i (hc') ?_ | refine CondS_d ?_ ?_ | refine CondS_b ?_ ?_ | refine GrdS_d ?_ ?_ | refine GrdS_b ?_ ?_ | refine OkS_i (by omega) ?_ | fail)
    all_goals (unfold szr wtF at *; split at * <;> omega)
end Go.Eng
namespace Go.Eng
open Go Go.Proofs Geo
set_option linter.unusedSimpArgs false
set_option linter.unusedVariables false
set_option maxRecDepth 20000
set_option maxHeartbeats 1000000

/-! copies -/
/-- a made slice that is filled as far as n -/
def fillTo {α : Type} (g : α → List PV) (z : List PV) (l : List α) (n : Nat) : List (List PV) := (l.map g).take n ++ List.replicate (l.length - n) z
theorem fillTo_zero {α : Type} {g : α → List PV} {z : List PV} {l : List α} : fillTo g z l 0 = List.replicate l.length z := rfl
theorem fillTo_full {α : Type} {g : α → List PV} {z : List PV} {l : List α} : fillTo g z l l.length = l.map g := by
  unfold fillTo; rw [Nat.sub_self, List.take_of_length_le (by simp)]; simp
theorem fillTo_len {α : Type} {g : α → List PV} {z : List PV} {l : List α} {n : Nat} (h : n ≤ l.length) : (fillTo g z l n).length = l.length := by
  unfold fillTo; simp; omega
theorem fillTo_set {α : Type} {g : α → List PV} {z : List PV} {l : List α} {n : Nat} (h : n < l.length) : (fillTo g z l n).set n (g l[n]) = fillTo g z l (n + 1) := by
  unfold fillTo
  have e : l.length - n = (l.length - (n + 1)) + 1 := by omega
  rw [e, List.replicate_succ, List.set_append_right _ _ (by simp; omega)]
  have e2 : n - ((l.map g).take n).length = 0 := by simp; omega
  rw [e2, List.set_cons_zero, List.take_add_one, List.getElem?_map, List.getElem?_eq_getElem h]
  simp
theorem f127 (x y : Int) : Fn Tryz.prog 127 false [.agg [i x, i y]] (.agg [i x, i y]) := by
  refine Fn.by_sx hX (by kernel_rfl) c127 (by kernel_rfl) (by rfl) ?_
  simp [i127, sxa, sxb, sxc, Ex.ok, Ex.val, ← wr_eq]
theorem f88 (l : List Pt) (nl : Bool) (hl : l.length ≤ 1048576) : Fn Tryz.prog 88 true [.lst 2 nl (l.map cp)] (.lst 2 false (l.map cp)) := by
  refine Fn.by_sx hX (by kernel_rfl) c88 (by kernel_rfl) (by rfl) ?_
  simp [i88, sxa, sxb, sxc, Ex.ok, Ex.val, ← wr_eq]
  repeat' (first | intro _ | (simp [sxa, sxb, sxc, Ex.ok, Ex.val, ← wr_eq, *]) | refine CondS_d ?_ ?_ | refine CondS_b ?_ ?_ | refine GrdS_d ?_ ?_ | refine GrdS_b ?_ ?_ | refine OkS_i (by omega) ?_ | fail)
  refine sx_count l.length (fun n V => V 0 = .lst 2 nl (l.map cp) ∧ V 4 = i n ∧ V 3 = .lst 2 false (fillTo cp [i 0, i 0] l n)) 0 (by omega) (by simp [sxa, sxb, sxc, Ex.ok, Ex.val, ← wr_eq, fillTo_zero]) ?_
  rintro n V hn ⟨h0, h4, h3⟩
  have hw : wr .i64 ((n : Int) + 1) = n + 1 := wr_in (by omega) (by omega)
  simp [sxa, sxb, sxc, Ex.ok, Ex.val, ← wr_eq, h0, h4]
  refine CondS_d (fun hlt => ?_) (fun hge => ?_)
  · have hlt' : n < l.length := by omega
    have hs := fillTo_set (g := cp) (z := [i 0, i 0]) hlt'
    have hfl := fillTo_len (g := cp) (z := [i 0, i 0]) (l := l) (n := n) (by omega)
    simp only [cp] at hs
    repeat' (first | intro _ | (simp [sxa, sxb, sxc, Ex.ok, Ex.val, ← wr_eq, cp, *]) | refine CallS_i (f127 _ _) ?_ | refine CondS_d ?_ ?_ | refine CondS_b ?_ ?_ | refine GrdS_d ?_ ?_ | refine GrdS_b ?_ ?_ | refine OkS_i (by omega) ?_ | fail)
  · have : n = l.length := by omega
    subst this
    repeat' (first | intro _ | (simp [sxa, sxb, sxc, Ex.ok, Ex.val, ← wr_eq, fillTo_full, *]) | refine CondS_d ?_ ?_ | refine CondS_b ?_ ?_ | refine GrdS_d ?_ ?_ | refine GrdS_b ?_ ?_ | refine OkS_i (by omega) ?_ | fail)
def Ft.fr (x : Ft) : Ft := { x with nl := false }
def En.fr (x : En) : En := { x with f0 := x.f0.fr }
theorem f42 (x : Ft) (hl : x.f4.length ≤ 1048576) : Fn Tryz.prog 42 true [.agg (ft x)] (.agg (ft x.fr)) := by
  have hc := f88 x.f4 x.nl hl
  unfold ft Ft.fr
  refine Fn.by_sx hX (by kernel_rfl) c42 (by kernel_rfl) (by rfl) ?_
  simp [i42, sxa, sxb, sxc, Ex.ok, Ex.val, ← wr_eq]
  repeat' (first | intro _ | (simp [sxa, sxb, sxc, Ex.ok, Ex.val, ← wr_eq, *]) | refine CallS_i (hc) ?_ | refine CondS_d ?_ ?_ | refine CondS_b ?_ ?_ | refine GrdS_d ?_ ?_ | refine GrdS_b ?_ ?_ | refine OkS_i (by omega) ?_ | fail)
/-! what is read as it was -/
theorem f130 (x y : Int) : Fn Tryz.prog 130 false [.agg [i x, i y], .agg [i x, i y]] (.bool true) := by
  refine Fn.by_sx hX (by kernel_rfl) c130 (by kernel_rfl) (by rfl) ?_
  simp [i130, sxa, sxb, sxc, Ex.ok, Ex.val, ← wr_eq]
  repeat' (first | intro _ | (simp [sxa, sxb, sxc, Ex.ok, Ex.val, ← wr_eq, *]) | refine CondS_d ?_ ?_ | refine CondS_b ?_ ?_ | refine GrdS_d ?_ ?_ | refine GrdS_b ?_ ?_ | refine OkS_i (by omega) ?_ | fail)
theorem f92 (l : List Pt) (n1 n2 : Bool) (hl : l.length ≤ 1000000000000) : Fn Tryz.prog 92 false [.lst 2 n1 (l.map cp), .lst 2 n2 (l.map cp)] (.bool true) := by
  refine Fn.by_sx hX (by kernel_rfl) c92 (by kernel_rfl) (by rfl) ?_
  simp [i92, sxa, sxb, sxc, Ex.ok, Ex.val, ← wr_eq]
  repeat' (first | intro _ | (simp [sxa, sxb, sxc, Ex.ok, Ex.val, ← wr_eq, *]) | refine CondS_d ?_ ?_ | refine CondS_b ?_ ?_ | refine GrdS_d ?_ ?_ | refine GrdS_b ?_ ?_ | refine OkS_i (by omega) ?_ | fail)
  refine sx_count l.length (fun n V => V 0 = .lst 2 n1 (l.map cp) ∧ V 1 = .lst 2 n2 (l.map cp) ∧ V 5 = i n) 0 (by omega) (by simp [sxa, sxb, sxc, Ex.ok, Ex.val, ← wr_eq]) ?_
  rintro n V hn ⟨h0, h1, h5⟩
  have hw : wr .i64 ((n : Int) + 1) = n + 1 := wr_in (by omega) (by omega)
  simp [sxa, sxb, sxc, Ex.ok, Ex.val, ← wr_eq, h0, h5]
  refine CondS_d (fun hlt => ?_) (fun hge => ?_)
  · have hlt' : n < l.length := by omega
    repeat' (first | intro _ | (simp [sxa, sxb, sxc, Ex.ok, Ex.val, ← wr_eq, cp, *]) | refine CallS_b (f130 _ _) (fun h => ?_) (fun h => ?_) | refine CondS_d ?_ ?_ | refine CondS_b ?_ ?_ | refine GrdS_d ?_ ?_ | refine GrdS_b ?_ ?_ | refine OkS_i (by omega) ?_ | fail)
    all_goals simp_all
  · have : n = l.length := by omega
    subst this
    repeat' (first | intro _ | (simp [sxa, sxb, sxc, Ex.ok, Ex.val, ← wr_eq, *]) | refine CondS_d ?_ ?_ | refine CondS_b ?_ ?_ | refine GrdS_d ?_ ?_ | refine GrdS_b ?_ ?_ | refine OkS_i (by omega) ?_ | fail)
theorem f44 (x : Ft) (n1 n2 : Bool) (hl : x.f4.length ≤ 1000000000000) : Fn Tryz.prog 44 false [.agg (ft { x with nl := n1 }), .agg (ft { x with nl := n2 })] (.bool true) := by
  have hc := f92 x.f4 n1 n2 hl
  unfold ft
  refine Fn.by_sx hX (by kernel_rfl) c44 (by kernel_rfl) (by rfl) ?_
  simp [i44, sxa, sxb, sxc, Ex.ok, Ex.val, ← wr_eq]
  repeat' (first | intro _ | (simp [sxa, sxb, sxc, Ex.ok, Ex.val, ← wr_eq, *]) | refine CallS_i (hc) ?_ | refine CondS_d ?_ ?_ | refine CondS_b ?_ ?_ | refine GrdS_d ?_ ?_ | refine GrdS_b ?_ ?_ | refine OkS_i (by omega) ?_ | fail)
end Go.Eng
namespace Go.Eng
open Go Go.Proofs
set_option linter.unusedSimpArgs false
set_option linter.unusedVariables false
set_option maxRecDepth 20000
set_option maxHeartbeats 1000000

/-! lists of features and of numbers: sizes, copies, what is read as it was -/
def wtToF (l : List Ft) (n : Nat) : Nat := ((l.take n).map fun x => wtF x).sum
theorem wtToF_zero (l : List Ft) : wtToF l 0 = 0 := rfl
theorem wtToF_succ {l : List Ft} {n : Nat} (h : n < l.length) : wtToF l (n + 1) = wtToF l n + wtF l[n] := by
  unfold wtToF
  rw [List.take_add_one, List.getElem?_eq_getElem h, List.map_append, List.sum_append]
  simp
theorem wtToF_le {l : List Ft} {n m : Nat} (h : n ≤ m) : wtToF l n ≤ wtToF l m := by
  unfold wtToF
  have : l.take m = l.take n ++ (l.take m).drop n := by
    have := List.take_append_drop n (l.take m)
    rw [List.take_take, Nat.min_eq_left h] at this
    exact this.symm
  rw [this, List.map_append, List.sum_append]
  omega
def wtLF (l : List Ft) : Nat := l.length + wtToF l l.length
theorem f6 (l : List Ft) (nl : Bool) (left : Int) (h0 : 0 ≤ left) (h1 : left ≤ 1048576) (hl : l.length ≤ 9223372036854775807) (hx : ∀ x ∈ l, x.fits) : Fn Tryz.prog 6 false [.lst 5 nl (l.map ft), i left] (i (szr left (wtLF l : Nat))) := by
  refine Fn.by_sx hX (by kernel_rfl) c6 (by kernel_rfl) (by rfl) ?_
  simp [i6, sxa, sxb, sxc, Ex.ok, Ex.val, ← wr_eq]
  have hw : wr .i64 (left - l.length) = left - l.length := wr_in (by omega) (by omega)
  by_cases hc : left - l.length < 0
  · repeat' (first | intro _ | (simp [sxa, sxb, sxc, Ex.ok, Ex.val, ← wr_eq, *]) | refine CondS_d ?_ ?_ | refine CondS_b ?_ ?_ | refine GrdS_d ?_ ?_ | refine GrdS_b ?_ ?_ | refine OkS_i (by omega) ?_ | fail)
    unfold szr wtLF; split <;> omega
  · repeat' (first | intro _ | (simp [sxa, sxb, sxc, Ex.ok, Ex.val, ← wr_eq, *]) | refine CondS_d ?_ ?_ | refine CondS_b ?_ ?_ | refine GrdS_d ?_ ?_ | refine GrdS_b ?_ ?_ | refine OkS_i (by omega) ?_ | fail)
    refine sx_count l.length (fun n V => V 0 = .lst 5 nl (l.map ft) ∧ V 5 = i n ∧ V 1 = i (left - l.length - wtToF l n) ∧ 0 ≤ left - l.length - wtToF l n) 0 (by omega) (by simp [sxa, sxb, sxc, Ex.ok, Ex.val, ← wr_eq, wtToF_zero]; omega) ?_
    rintro n V hn ⟨h0, h5, h1, hp⟩
    have hw : wr .i64 ((n : Int) + 1) = n + 1 := wr_in (by omega) (by omega)
    simp [sxa, sxb, sxc, Ex.ok, Ex.val, ← wr_eq, h0, h5]
    refine CondS_d (fun hlt => ?_) (fun hge => ?_)
    · have hlt' : n < l.length := by omega
      have hs := wtToF_succ hlt'
      have hle := wtToF_le (l := l) (n := n + 1) (m := l.length) hlt'
      have hc := f39 l[n] (left - l.length - wtToF l n) hp (by omega) (hx _ (List.getElem_mem ..))
      have hz : szr (left - l.length - wtToF l n) (wtF l[n] : Nat) = if left - l.length - wtToF l (n + 1) < 0 then -1 else left - l.length - wtToF l (n + 1) := by
        unfold szr; rw [hs]; split <;> split <;> omega
      rw [hz] at hc
      by_cases hneg : left - l.length - wtToF l (n + 1) < 0
      · rw [if_pos hneg] at hc
        repeat' (first | intro _ | (simp [sxa, sxb, sxc, Ex.ok, Ex.val, ← wr_eq, ft, *]) | refine CallS_i (hc) ?_ | refine CondS_d ?_ ?_ | refine CondS_b ?_ ?_ | refine GrdS_d ?_ ?_ | refine GrdS_b ?_ ?_ | refine OkS_i (by omega) ?_ | fail)
        unfold szr wtLF; split <;> omega
      · rw [if_neg hneg] at hc
        repeat' (first | intro _ | (simp [sxa, sxb, sxc, Ex.ok, Ex.val, ← wr_eq, ft, *]) | refine CallS_i (hc) ?_ | refine CondS_d ?_ ?_ | refine CondS_b ?_ ?_ | refine GrdS_d ?_ ?_ | refine GrdS_b ?_ ?_ | refine OkS_i (by omega) ?_ | fail)
        all_goals omega
    · have : n = l.length := by omega
      subst this
      repeat' (first | intro _ | (simp [sxa, sxb, sxc, Ex.ok, Ex.val, ← wr_eq, *]) | refine CondS_d ?_ ?_ | refine CondS_b ?_ ?_ | refine GrdS_d ?_ ?_ | refine GrdS_b ?_ ?_ | refine OkS_i (by omega) ?_ | fail)
      unfold szr wtLF; split <;> omega
def ftz : List PV := [i 0, i 0, i 0, .str (bs []), .lst 2 true []]
def ftf (x : Ft) : List PV := [i x.f0, i x.f1, i x.f2, .str x.f3, .lst 2 false (x.f4.map cp)]
theorem f9w (l : List Ft) (nl : Bool) (hl : l.length ≤ 1048576) (hx : ∀ x ∈ l, x.f4.length ≤ 1048576) : Fn Tryz.prog 9 true [.lst 5 nl (l.map ft)] (.lst 5 false (l.map ftf)) := by
  refine Fn.by_sx hX (by kernel_rfl) c9 (by kernel_rfl) (by rfl) ?_
  simp [i9, sxa, sxb, sxc, Ex.ok, Ex.val, ← wr_eq]
  repeat' (first | intro _ | (simp [sxa, sxb, sxc, Ex.ok, Ex.val, ← wr_eq, *]) | refine CondS_d ?_ ?_ | refine CondS_b ?_ ?_ | refine GrdS_d ?_ ?_ | refine GrdS_b ?_ ?_ | refine OkS_i (by omega) ?_ | fail)
  refine sx_count l.length (fun n V => V 0 = .lst 5 nl (l.map ft) ∧ V 4 = i n ∧ V 3 = .lst 5 false (fillTo ftf ftz l n)) 0 (by omega) (by simp [sxa, sxb, sxc, Ex.ok, Ex.val, ← wr_eq, fillTo_zero, ftz]) ?_
  rintro n V hn ⟨h0, h4, h3⟩
  have hw : wr .i64 ((n : Int) + 1) = n + 1 := wr_in (by omega) (by omega)
  simp [sxa, sxb, sxc, Ex.ok, Ex.val, ← wr_eq, h0, h4]
  refine CondS_d (fun hlt => ?_) (fun hge => ?_)
  · have hlt' : n < l.length := by omega
    have hs : (fillTo ftf ftz l n).set n [i l[n].f0, i l[n].f1, i l[n].f2, .str l[n].f3, .lst 2 false (l[n].f4.map cp)] = fillTo ftf ftz l (n + 1) := fillTo_set hlt'
    have hfl := fillTo_len (g := ftf) (z := ftz) (l := l) (n := n) (by omega)
    have hc := f42 l[n] (hx _ (List.getElem_mem ..))
    unfold ft Ft.fr at hc
    repeat' (first | intro _ | (simp [sxa, sxb, sxc, Ex.ok, Ex.val, ← wr_eq, ft, *]) | refine CallS_i (hc) ?_ | refine CondS_d ?_ ?_ | refine CondS_b ?_ ?_ | refine GrdS_d ?_ ?_ | refine GrdS_b ?_ ?_ | refine OkS_i (by omega) ?_ | fail)
  · have : n = l.length := by omega
    subst this
    have hfu := fillTo_full (g := ftf) (z := ftz) (l := l)
    repeat' (first | intro _ | (simp [sxa, sxb, sxc, Ex.ok, Ex.val, ← wr_eq, *]) | refine CondS_d ?_ ?_ | refine CondS_b ?_ ?_ | refine GrdS_d ?_ ?_ | refine GrdS_b ?_ ?_ | refine OkS_i (by omega) ?_ | fail)
theorem f9 (l : List Ft) (nl : Bool) (hl : l.length ≤ 1048576) (hx : ∀ x ∈ l, x.f4.length ≤ 1048576) : Fn Tryz.prog 9 true [.lst 5 nl (l.map ft)] (.lst 5 false ((l.map Ft.fr).map ft)) := by
  have := f9w l nl hl hx
  rw [List.map_map]
  exact this
theorem f13 (l : List Ft) (n1 n2 : Bool) (hl : l.length ≤ 1000000000000) (hx : ∀ x ∈ l, x.f4.length ≤ 1000000000000) : Fn Tryz.prog 13 false [.lst 5 n1 (l.map ft), .lst 5 n2 (l.map ft)] (.bool true) := by
  refine Fn.by_sx hX (by kernel_rfl) c13 (by kernel_rfl) (by rfl) ?_
  simp [i13, sxa, sxb, sxc, Ex.ok, Ex.val, ← wr_eq]
  repeat' (first | intro _ | (simp [sxa, sxb, sxc, Ex.ok, Ex.val, ← wr_eq, *]) | refine CondS_d ?_ ?_ | refine CondS_b ?_ ?_ | refine GrdS_d ?_ ?_ | refine GrdS_b ?_ ?_ | refine OkS_i (by omega) ?_ | fail)
  refine sx_count l.length (fun n V => V 0 = .lst 5 n1 (l.map ft) ∧ V 1 = .lst 5 n2 (l.map ft) ∧ V 5 = i n) 0 (by omega) (by simp [sxa, sxb, sxc, Ex.ok, Ex.val, ← wr_eq]) ?_
  rintro n V hn ⟨h0, h1, h5⟩
  have hw : wr .i64 ((n : Int) + 1) = n + 1 := wr_in (by omega) (by omega)
  simp [sxa, sxb, sxc, Ex.ok, Ex.val, ← wr_eq, h0, h5]
  refine CondS_d (fun hlt => ?_) (fun hge => ?_)
  · have hlt' : n < l.length := by omega
    have hc := f44 l[n] l[n].nl l[n].nl (hx _ (List.getElem_mem ..))
    unfold ft at hc
    repeat' (first | intro _ | (simp [sxa, sxb, sxc, Ex.ok, Ex.val, ← wr_eq, ft, *]) | refine CallS_i (hc) ?_ | refine CondS_d ?_ ?_ | refine CondS_b ?_ ?_ | refine GrdS_d ?_ ?_ | refine GrdS_b ?_ ?_ | refine OkS_i (by omega) ?_ | fail)
    all_goals simp_all
  · have : n = l.length := by omega
    subst this
    repeat' (first | intro _ | (simp [sxa, sxb, sxc, Ex.ok, Ex.val, ← wr_eq, *]) | refine CondS_d ?_ ?_ | refine CondS_b ?_ ?_ | refine GrdS_d ?_ ?_ | refine GrdS_b ?_ ?_ | refine OkS_i (by omega) ?_ | fail)
theorem wtLF_len (l : List Ft) : l.length ≤ wtLF l := Nat.le_add_right ..
theorem wtLF_mem {l : List Ft} {x : Ft} (h : x ∈ l) : x.f3.size + x.f4.length ≤ wtLF l := by
  unfold wtLF wtToF
  rw [List.take_of_length_le (Nat.le_refl _)]
  have : ∀ (l : List Ft), x ∈ l → wtF x ≤ (l.map fun x => wtF x).sum := by
    intro l
    induction l with
    | nil => intro h; cases h
    | cons y r ih =>
      intro h
      rw [List.map_cons, List.sum_cons]
      rcases List.mem_cons.1 h with rfl | h
      · exact Nat.le_add_right ..
      · have := ih h; omega
  have := this l h
  have e : wtF x = x.f3.size + x.f4.length := rfl
  omega
theorem f12 (l : List Int) (n1 n2 : Bool) (hl : l.length ≤ 1000000000000) : Fn Tryz.prog 12 false [.lst 1 n1 (l.map fun m => [i m]), .lst 1 n2 (l.map fun m => [i m])] (.bool true) := by
  refine Fn.by_sx hX (by kernel_rfl) c12 (by kernel_rfl) (by rfl) ?_
  simp [i12, sxa, sxb, sxc, Ex.ok, Ex.val, ← wr_eq]
  repeat' (first | intro _ | (simp [sxa, sxb, sxc, Ex.ok, Ex.val, ← wr_eq, *]) | refine CondS_d ?_ ?_ | refine CondS_b ?_ ?_ | refine GrdS_d ?_ ?_ | refine GrdS_b ?_ ?_ | refine OkS_i (by omega) ?_ | fail)
  refine sx_count l.length (fun n V => V 0 = .lst 1 n1 (l.map fun m => [i m]) ∧ V 1 = .lst 1 n2 (l.map fun m => [i m]) ∧ V 5 = i n) 0 (by omega) (by simp [sxa, sxb, sxc, Ex.ok, Ex.val, ← wr_eq]) ?_
  rintro n V hn ⟨h0, h1, h5⟩
  have hw : wr .i64 ((n : Int) + 1) = n + 1 := wr_in (by omega) (by omega)
  simp [sxa, sxb, sxc, Ex.ok, Ex.val, ← wr_eq, h0, h5]
  refine CondS_d (fun hlt => ?_) (fun hge => ?_)
  · have hlt' : n < l.length := by omega
    repeat' (first | intro _ | (simp [sxa, sxb, sxc, Ex.ok, Ex.val, ← wr_eq, *]) | refine CondS_d ?_ ?_ | refine CondS_b ?_ ?_ | refine GrdS_d ?_ ?_ | refine GrdS_b ?_ ?_ | refine OkS_i (by omega) ?_ | fail)
  · have : n = l.length := by omega
    subst this
    repeat' (first | intro _ | (simp [sxa, sxb, sxc, Ex.ok, Ex.val, ← wr_eq, *]) | refine CondS_d ?_ ?_ | refine CondS_b ?_ ?_ | refine GrdS_d ?_ ?_ | refine GrdS_b ?_ ?_ | refine OkS_i (by omega) ?_ | fail)
end Go.Eng
namespace Go.Eng
open Go Go.Proofs Geo
set_option linter.unusedSimpArgs false
set_option linter.unusedVariables false
set_option maxRecDepth 20000
set_option maxHeartbeats 1000000

/-! lengths -/
/-! the first that is found -/
def firstFrom (ok : Nat → Bool) : Nat → Nat → Int
  | 0, _ => -1
  | d + 1, i => if ok i = true then i else firstFrom ok d (i + 1)
theorem firstFrom_step {ok : Nat → Bool} {n N : Nat} (h : n < N) : firstFrom ok (N - n) n = if ok n = true then (n : Int) else firstFrom ok (N - (n + 1)) (n + 1) := by
  rw [show N - n = (N - (n + 1)) + 1 by omega]; rfl
theorem firstFrom_end {ok : Nat → Bool} {N : Nat} : firstFrom ok (N - N) N = -1 := by rw [Nat.sub_self]; rfl
theorem firstFrom_bound {ok : Nat → Bool} : ∀ d n : Nat, -1 ≤ firstFrom ok d n ∧ firstFrom ok d n < (n : Int) + d
  | 0, n => ⟨by simp [firstFrom], by simp [firstFrom]; omega⟩
  | d + 1, n => by
    unfold firstFrom
    split
    · omega
    · have := firstFrom_bound (ok := ok) d (n + 1)
      omega
def ftD : Ft := ⟨0, 0, 0, ⟨#[]⟩, [], true⟩
def hasId (l : List Ft) (id : Int) (n : Nat) : Bool := decide ((l.getD n ftD).f0 = id)
def wFind (l : List Ft) (id : Int) : Int := firstFrom (hasId l id) (l.length - 0) 0
theorem wFind_bound (l : List Ft) (id : Int) : -1 ≤ wFind l id ∧ wFind l id < l.length := by
  have := firstFrom_bound (ok := hasId l id) (l.length - 0) 0
  unfold wFind
  omega
theorem f77 (l : List Ft) (nl : Bool) (id : Int) (hl : l.length ≤ 1000000000000) : Fn Tryz.prog 77 false [.lst 5 nl (l.map ft), i id] (i (wFind l id)) := by
  refine Fn.by_sx hX (by kernel_rfl) c77 (by kernel_rfl) (by rfl) ?_
  simp [i77, sxa, sxb, sxc, Ex.ok, Ex.val, ← wr_eq]
  refine sx_count l.length (fun n V => V 0 = .lst 5 nl (l.map ft) ∧ V 1 = i id ∧ V 5 = i n ∧ wFind l id = firstFrom (hasId l id) (l.length - n) n) 0 (by omega) (by simp [sxa, sxb, sxc, Ex.ok, Ex.val, ← wr_eq]; rfl) ?_
  rintro n V hn ⟨h0, h1, h5, hf⟩
  have hw : wr .i64 ((n : Int) + 1) = n + 1 := wr_in (by omega) (by omega)
  simp [sxa, sxb, sxc, Ex.ok, Ex.val, ← wr_eq, h0, h5]
  refine CondS_d (fun hlt => ?_) (fun hge => ?_)
  · have hlt' : n < l.length := by omega
    rw [firstFrom_step hlt'] at hf
    have hr : hasId l id n = decide (l[n].f0 = id) := by simp [hasId, hlt']
    rw [hr] at hf
    by_cases he : l[n].f0 = id
    · simp only [he, decide_true, if_true] at hf
      repeat' (first | intro _ | (simp [sxa, sxb, sxc, Ex.ok, Ex.val, ← wr_eq, ft, *]) | refine CondS_d ?_ ?_ | refine CondS_b ?_ ?_ | refine GrdS_d ?_ ?_ | refine GrdS_b ?_ ?_ | refine OkS_i (by omega) ?_ | fail)
    · simp only [he, decide_false, Bool.false_eq_true, if_false] at hf
      repeat' (first | intro _ | (simp [sxa, sxb, sxc, Ex.ok, Ex.val, ← wr_eq, ft, *]) | refine CondS_d ?_ ?_ | refine CondS_b ?_ ?_ | refine GrdS_d ?_ ?_ | refine GrdS_b ?_ ?_ | refine OkS_i (by omega) ?_ | fail)
  · have : n = l.length := by omega
    subst this
    rw [firstFrom_end] at hf
    repeat' (first | intro _ | (simp [sxa, sxb, sxc, Ex.ok, Ex.val, ← wr_eq, *]) | refine CondS_d ?_ ?_ | refine CondS_b ?_ ?_ | refine GrdS_d ?_ ?_ | refine GrdS_b ?_ ?_ | refine OkS_i (by omega) ?_ | fail)
theorem f102 (x : Ft) (id : Int) : Fn Tryz.prog 102 false [.agg (ft x), .ptr [i id]] (.bool (decide (x.f0 = id))) := by
  unfold ft
  refine Fn.by_sx hX (by kernel_rfl) c102 (by kernel_rfl) (by rfl) ?_
  simp [i102, sxa, sxb, sxc, Ex.ok, Ex.val, ← wr_eq]
theorem f101 (l : List Ft) (nl : Bool) (id : Int) (hl : l.length ≤ 1000000000000) : Fn Tryz.prog 101 false [.lst 5 nl (l.map ft), .fn 102 [.ptr [i id]]] (i (wFind l id)) := by
  refine Fn.by_sx hX (by kernel_rfl) c101 (by kernel_rfl) (by rfl) ?_
  simp [i101, sxa, sxb, sxc, Ex.ok, Ex.val, ← wr_eq]
  refine sx_count l.length (fun n V => V 0 = .lst 5 nl (l.map ft) ∧ V 1 = .fn 102 [.ptr [i id]] ∧ V 7 = i l.length ∧ V 8 = i n ∧ firstFrom (hasId l id) (l.length - n) n = wFind l id) 0 (by omega) (by simp [sxa, sxb, sxc, Ex.ok, Ex.val, ← wr_eq]; rfl) ?_
  rintro n V hn ⟨h0, h1, h7, h8, hf⟩
  have hw : wr .i64 ((n : Int) + 1) = n + 1 := wr_in (by omega) (by omega)
  simp [sxa, sxb, sxc, Ex.ok, Ex.val, ← wr_eq, h7, h8]
  refine CondS_d (fun hlt => ?_) (fun hge => ?_)
  · have hlt' : n < l.length := by omega
    rw [firstFrom_step hlt'] at hf
    have hr : hasId l id n = decide (l[n].f0 = id) := by simp [hasId, hlt']
    have hc := f102 l[n] id
    rw [← hr] at hc
    clear hr
    unfold ft at hc
    repeat' (first | intro _ | (simp [sxa, sxb, sxc, Ex.ok, Ex.val, ← wr_eq, ft, *]) | refine CondS_d ?_ ?_ | refine CondS_b ?_ ?_ | refine GrdS_d ?_ ?_ | refine GrdS_b ?_ ?_ | refine OkS_i (by omega) ?_ | fail)
    refine CallvS_b (by simpa using hc) (fun h => ?_) (fun h => ?_)
    · rw [h] at hf
      simp only [if_true] at hf
      repeat' (first | intro _ | (simp [sxa, sxb, sxc, Ex.ok, Ex.val, ← wr_eq, *]) | refine CondS_d ?_ ?_ | refine CondS_b ?_ ?_ | refine GrdS_d ?_ ?_ | refine GrdS_b ?_ ?_ | refine OkS_i (by omega) ?_ | fail)
    · rw [h] at hf
      simp only [Bool.false_eq_true, if_false] at hf
      repeat' (first | intro _ | (simp [sxa, sxb, sxc, Ex.ok, Ex.val, ← wr_eq, *]) | refine CondS_d ?_ ?_ | refine CondS_b ?_ ?_ | refine GrdS_d ?_ ?_ | refine GrdS_b ?_ ?_ | refine OkS_i (by omega) ?_ | fail)
  · have : n = l.length := by omega
    subst this
    rw [firstFrom_end] at hf
    repeat' (first | intro _ | (simp [sxa, sxb, sxc, Ex.ok, Ex.val, ← wr_eq, *]) | refine CondS_d ?_ ?_ | refine CondS_b ?_ ?_ | refine GrdS_d ?_ ?_ | refine GrdS_b ?_ ?_ | refine OkS_i (by omega) ?_ | fail)
theorem f58 (l : List Ft) (nl : Bool) (id : Int) (hl : l.length ≤ 1000000000000) : Fn Tryz.prog 58 false [.lst 5 nl (l.map ft), i id] (i (wFind l id)) := by
  refine Fn.by_sx hX (by kernel_rfl) c58 (by kernel_rfl) (by rfl) ?_
  simp [i58, sxa, sxb, sxc, Ex.ok, Ex.val, ← wr_eq]
  repeat' (first | intro _ | (simp [sxa, sxb, sxc, Ex.ok, Ex.val, ← wr_eq, *]) | refine CallS_i (f101 l nl id hl) ?_ | refine CondS_d ?_ ?_ | refine CondS_b ?_ ?_ | refine GrdS_d ?_ ?_ | refine GrdS_b ?_ ?_ | refine OkS_i (by omega) ?_ | fail)
end Go.Eng
namespace Go.Eng
open Go Go.Proofs Geo
set_option linter.unusedSimpArgs false
set_option linter.unusedVariables false
set_option maxRecDepth 20000
set_option maxHeartbeats 1000000

/-! the length of a way -/
def ints (l : List Int) : List (List PV) := l.map fun m => [i m]
theorem find_cases (l : List Ft) (id : Int) : wFind l id = -1 ∨ ∃ k : Nat, wFind l id = k ∧ k < l.length := by
  have := wFind_bound l id
  rcases Int.lt_or_le (wFind l id) 0 with h | h
  · left; omega
  · right; exact ⟨(wFind l id).toNat, by omega, by omega⟩
end Go.Eng
namespace Go.Eng
open Go Go.Proofs Geo
set_option linter.unusedSimpArgs false
set_option linter.unusedVariables false
set_option maxRecDepth 20000
set_option maxHeartbeats 1000000

/-! a source, and a way -/
def srcAt (l : List Ft) (n : Nat) : Bool := wFeat (l.getD n ftD) && !(decide (0 < n) && decide ((l.getD n ftD).f0 ≤ (l.getD (n - 1) ftD).f0))
def wSrc (l : List Ft) : Bool := decide (l.length ≤ 16) && allTo (srcAt l) l.length
theorem f69 (l : List Ft) (nl : Bool) (hl : l.length ≤ 1000000000000) (hb : ∀ x ∈ l, x.okay) : Fn Tryz.prog 69 false [.lst 5 nl (l.map ft)] (.bool (wSrc l)) := by
  refine Fn.by_sx hX (by kernel_rfl) c69 (by kernel_rfl) (by rfl) ?_
  simp [i69, sxa, sxb, sxc, Ex.ok, Ex.val, ← wr_eq]
  refine sx_count l.length (fun n V => V 0 = .lst 5 nl (l.map ft) ∧ V 3 = i n ∧ allTo (srcAt l) n = true) 0 (by omega) (by simp [sxa, sxb, sxc, Ex.ok, Ex.val, ← wr_eq, allTo_zero]) ?_
  rintro n V hn ⟨h0, h3, ha⟩
  simp [sxa, sxb, sxc, Ex.ok, Ex.val, ← wr_eq, h0, h3]
  refine CondS_d (fun hlt => ?_) (fun hge => ?_)
  · have hlt' : n < l.length := by omega
    have hbad : srcAt l n = false → wSrc l = false := fun h => by simp [wSrc, allTo_bad hlt' h]
    have hok : l[n].okay := hb _ (List.getElem_mem ..)
    have hc := f115 l[n] hok
    rcases Nat.eq_zero_or_pos n with rfl | hpos
    · repeat' (first | intro _ | (simp [sxa, sxb, sxc, Ex.ok, Ex.val, ← wr_eq, ft, allTo_succ, *]) | refine CallS_b (hc) (fun h => ?_) (fun h => ?_) | refine CondS_d ?_ ?_ | refine CondS_b ?_ ?_ | refine GrdS_d ?_ ?_ | refine GrdS_b ?_ ?_ | refine OkS_i (by omega) ?_ | fail)
      all_goals first | (apply hbad; simp_all [srcAt]; done) | simp_all [srcAt]
    · have hw : wr .i64 ((n : Int) + 1) = n + 1 := wr_in (by omega) (by omega)
      have hw2 : wr .i64 ((n : Int) - 1) = ((n - 1 : Nat) : Int) := wrap_down n hpos (by omega)
      have hpos' : (0 : Int) < n := by omega
      have hm : n - 1 < l.length := by omega
      repeat' (first | intro _ | (simp [sxa, sxb, sxc, Ex.ok, Ex.val, ← wr_eq, ft, allTo_succ, *]) | refine CallS_b (hc) (fun h => ?_) (fun h => ?_) | refine CondS_d ?_ ?_ | refine CondS_b ?_ ?_ | refine GrdS_d ?_ ?_ | refine GrdS_b ?_ ?_ | refine OkS_i (by omega) ?_ | fail)
      all_goals first | (apply hbad; simp_all [srcAt]; done) | simp_all [srcAt]
      all_goals omega
  · have : n = l.length := by omega
    subst this
    repeat' (first | intro _ | (simp [sxa, sxb, sxc, Ex.ok, Ex.val, ← wr_eq, *]) | refine CondS_d ?_ ?_ | refine CondS_b ?_ ?_ | refine GrdS_d ?_ ?_ | refine GrdS_b ?_ ?_ | refine OkS_i (by omega) ?_ | fail)
    all_goals simp_all [wSrc]
    all_goals omega
theorem f24 (l : List Ft) (nl : Bool) (hl : l.length ≤ 1000000000000) (hb : ∀ x ∈ l, x.okay) : Fn Tryz.prog 24 false [.lst 5 nl (l.map ft)] (.bool (wSrc l)) := by
  refine Fn.by_sx hX (by kernel_rfl) c24 (by kernel_rfl) (by rfl) ?_
  simp [i24, sxa, sxb, sxc, Ex.ok, Ex.val, ← wr_eq]
  by_cases hL : (l.length : Int) > 16
  · have hf : wSrc l = false := by simp [wSrc]; omega
    repeat' (first | intro _ | (simp [sxa, sxb, sxc, Ex.ok, Ex.val, ← wr_eq, *]) | refine CondS_d ?_ ?_ | refine CondS_b ?_ ?_ | refine GrdS_d ?_ ?_ | refine GrdS_b ?_ ?_ | refine OkS_i (by omega) ?_ | fail)
  have hL' : l.length ≤ 16 := by omega
  repeat' (first | intro _ | (simp [sxa, sxb, sxc, Ex.ok, Ex.val, ← wr_eq, *]) | refine CondS_d ?_ ?_ | refine CondS_b ?_ ?_ | refine GrdS_d ?_ ?_ | refine GrdS_b ?_ ?_ | refine OkS_i (by omega) ?_ | fail)
  refine sx_count l.length (fun n V => V 0 = .lst 5 nl (l.map ft) ∧ V 8 = .lst 5 nl (l.map ft) ∧ V 9 = i l.length ∧ V 10 = i n ∧ allTo (srcAt l) n = true) 0 (by omega) (by simp [sxa, sxb, sxc, Ex.ok, Ex.val, ← wr_eq, allTo_zero]) ?_
  rintro n V hn ⟨h0, h8, h9, h10, ha⟩
  simp [sxa, sxb, sxc, Ex.ok, Ex.val, ← wr_eq, h9, h10]
  refine CondS_d (fun hlt => ?_) (fun hge => ?_)
  · have hlt' : n < l.length := by omega
    have hbad : srcAt l n = false → wSrc l = false := fun h => by simp [wSrc, allTo_bad hlt' h]
    have hok : l[n].okay := hb _ (List.getElem_mem ..)
    have hc := f62 l[n] hok
    rcases Nat.eq_zero_or_pos n with rfl | hpos
    · repeat' (first | intro _ | (simp [sxa, sxb, sxc, Ex.ok, Ex.val, ← wr_eq, ft, allTo_succ, *]) | refine CallS_b (hc) (fun h => ?_) (fun h => ?_) | refine CondS_d ?_ ?_ | refine CondS_b ?_ ?_ | refine GrdS_d ?_ ?_ | refine GrdS_b ?_ ?_ | refine OkS_i (by omega) ?_ | fail)
      all_goals first | (apply hbad; simp_all [srcAt]; done) | simp_all [srcAt]
    · have hw : wr .i64 ((n : Int) + 1) = n + 1 := wr_in (by omega) (by omega)
      have hw2 : wr .i64 ((n : Int) - 1) = ((n - 1 : Nat) : Int) := wrap_down n hpos (by omega)
      have hpos' : (0 : Int) < n := by omega
      have hm : n - 1 < l.length := by omega
      repeat' (first | intro _ | (simp [sxa, sxb, sxc, Ex.ok, Ex.val, ← wr_eq, ft, allTo_succ, *]) | refine CallS_b (hc) (fun h => ?_) (fun h => ?_) | refine CondS_d ?_ ?_ | refine CondS_b ?_ ?_ | refine GrdS_d ?_ ?_ | refine GrdS_b ?_ ?_ | refine OkS_i (by omega) ?_ | fail)
      all_goals first | (apply hbad; simp_all [srcAt]; done) | simp_all [srcAt]
      all_goals omega
  · have : n = l.length := by omega
    subst this
    repeat' (first | intro _ | (simp [sxa, sxb, sxc, Ex.ok, Ex.val, ← wr_eq, *]) | refine CondS_d ?_ ?_ | refine CondS_b ?_ ?_ | refine GrdS_d ?_ ?_ | refine GrdS_b ?_ ?_ | refine OkS_i (by omega) ?_ | fail)
    all_goals simp_all [wSrc]
theorem allTo_at {ok : Nat → Bool} {n N : Nat} (h : allTo ok N = true) (hn : n < N) : ok n = true := by
  cases hb : ok n with
  | true => rfl
  | false => rw [allTo_bad hn hb] at h; cases h
def pe (p q : Pt) : Bool := decide (p.f0 = q.f0) && decide (p.f1 = q.f1)
def endA (x : Ft) : Pt := x.f4.getD 0 ⟨0, 0⟩
def endB (x : Ft) : Pt := x.f4.getD (x.f4.length - 1) ⟨0, 0⟩
def hopF (x : Ft) (rank : Int) (p : Pt) : Option Pt := if x.f1 = 2 ∧ ¬ x.f2 < rank then (if pe p (endA x) = true then some (endB x) else if pe p (endB x) = true then some (endA x) else none) else none
def hop (l : List Ft) (rank : Int) (p : Pt) (id : Int) : Option Pt := if wFind l id < 0 then none else hopF (l.getD (wFind l id).toNat ftD) rank p
end Go.Eng
namespace Go.Eng
open Go Go.Proofs Geo
set_option linter.unusedSimpArgs false
set_option linter.unusedVariables false
set_option maxRecDepth 20000
set_option maxHeartbeats 1000000

/-! marks. WRITES -/
def dig1 (m : Nat) : ByteArray := ⟨#[UInt8.ofNat (48 + m % 10)]⟩
def mtd (m : Nat) (acc : ByteArray) : ByteArray := if h : m = 0 then acc else mtd (m / 10) (dig1 m ++ acc)
termination_by m
decreasing_by omega
def mt (k : Int) : ByteArray := if k ≤ 0 then bs [109, 48] else bs [109] ++ mtd k.toNat (bs [])
theorem f45 (k : Int) (hk : k ≤ 1000000000000) : Fn Tryz.prog 45 false [i k] (.str (mt k)) := by
  refine Fn.by_sx hX (by kernel_rfl) c45 (by kernel_rfl) (by rfl) ?_
  simp [i45, sxa, sxb, sxc, Ex.ok, Ex.val, ← wr_eq]
  by_cases h0 : k ≤ 0
  · have : mt k = bs [109, 48] := if_pos h0
    repeat' (first | intro _ | (simp [sxa, sxb, sxc, Ex.ok, Ex.val, ← wr_eq, *]) | refine CondS_d ?_ ?_ | refine CondS_b ?_ ?_ | refine GrdS_d ?_ ?_ | refine GrdS_b ?_ ?_ | refine OkS_i (by omega) ?_ | fail)
  · obtain ⟨N, rfl⟩ : ∃ N : Nat, k = N := ⟨k.toNat, by omega⟩
    obtain ⟨D, hD⟩ : ∃ D, mtd N (bs []) = D := ⟨_, rfl⟩
    have hm : mt (N : Int) = bs [109] ++ D := by unfold mt; rw [if_neg h0, Int.toNat_natCast, hD]
    rw [hm]
    clear hm
    have hN0 : ¬ N = 0 := by omega
    repeat' (first | intro _ | (simp [sxa, sxb, sxc, Ex.ok, Ex.val, ← wr_eq, *]) | refine CondS_d ?_ ?_ | refine CondS_b ?_ ?_ | refine GrdS_d ?_ ?_ | refine GrdS_b ?_ ?_ | refine OkS_i (by omega) ?_ | fail)
    refine sx_down (fun m V => ∃ acc : ByteArray, V 3 = .str acc ∧ V 0 = i m ∧ mtd m acc = D ∧ acc.size + m ≤ N) N ⟨bs [], by simp [sxa, sxb, sxc, Ex.ok, Ex.val, ← wr_eq], by simp [sxa, sxb, sxc, Ex.ok, Ex.val, ← wr_eq], hD, by show 0 + N ≤ N; omega⟩ ?_
    rintro m V ⟨acc, h3, h0, hd, hsz⟩
    simp [sxa, sxb, sxc, Ex.ok, Ex.val, ← wr_eq, h0, h3]
    refine CondS_d (fun hlt => ?_) (fun hge => ?_)
    · have hm0 : ¬ m = 0 := by omega
      have hmt : ((m : Int).tmod 10) = (m : Int) % 10 := Int.tmod_eq_emod_of_nonneg (by omega)
      have hmq : ((m : Int).tdiv 10) = (m : Int) / 10 := Int.tdiv_eq_ediv_of_nonneg (by omega)
      have hw1 : wr .i64 (48 + (m : Int) % 10) = 48 + (m : Int) % 10 := wr_in (by omega) (by omega)
      have hw2 : wr .u8 (48 + (m : Int) % 10) = 48 + (m : Int) % 10 := wr_u8 (by omega) (by omega)
      have hw3 : wr .i64 ((m : Int) / 10) = (m : Int) / 10 := wr_in (by omega) (by omega)
      rw [mtd, dif_neg hm0] at hd
      have hds : (dig1 m).size = 1 := rfl
      have hlt2 : m / 10 < m := by omega
      have htn : (48 + (m : Int) % 10).toNat = 48 + m % 10 := by omega
      have hdd : (⟨#[48 + UInt8.ofNat (m % 10)]⟩ : ByteArray) = dig1 m := by unfold dig1; rw [UInt8.ofNat_add]; rfl
      repeat' (first | intro _ | (simp [sxa, sxb, sxc, Ex.ok, Ex.val, ← wr_eq, *]) | refine CondS_d ?_ ?_ | refine CondS_b ?_ ?_ | refine GrdS_d ?_ ?_ | refine GrdS_b ?_ ?_ | refine OkS_i (by omega) ?_ | fail)
      refine OkS_i ⟨[_], rfl⟩ ?_
      repeat' (first | intro _ | (simp [sxa, sxb, sxc, Ex.ok, Ex.val, ← wr_eq, *]) | refine CondS_d ?_ ?_ | refine CondS_b ?_ ?_ | refine GrdS_d ?_ ?_ | refine GrdS_b ?_ ?_ | refine OkS_i (by omega) ?_ | fail)
      refine ⟨m / 10, hlt2, by omega, hd, ?_⟩
      omega
    · have : m = 0 := by omega
      subst this
      rw [mtd, dif_pos rfl] at hd
      subst hd
      have hb1 : (bs [109]).size = 1 := rfl
      repeat' (first | intro _ | (simp [sxa, sxb, sxc, Ex.ok, Ex.val, ← wr_eq, *]) | refine CondS_d ?_ ?_ | refine CondS_b ?_ ?_ | refine GrdS_d ?_ ?_ | refine GrdS_b ?_ ?_ | refine OkS_i (by omega) ?_ | fail)
      all_goals (rw [hb1]; omega)
/-- a list that is new as far as n, and old behind -/
def mix (a b : List (List PV)) (n : Nat) : List (List PV) := a.take n ++ b.drop n
theorem mix_zero {a b : List (List PV)} : mix a b 0 = b := rfl
theorem mix_full {a b : List (List PV)} (h : a.length = b.length) : mix a b b.length = a := by unfold mix; rw [← h, List.take_length, h, List.drop_length, List.append_nil]
theorem mix_len {a b : List (List PV)} {n : Nat} (h : a.length = b.length) : (mix a b n).length = b.length := by unfold mix; simp; omega
theorem mix_at {a b : List (List PV)} {n : Nat} (h : a.length = b.length) (hn : n < b.length) : (mix a b n)[n]? = some b[n] := by
  unfold mix
  rw [List.getElem?_append_right (by simp; omega), List.getElem?_drop]
  have : n + (n - (a.take n).length) = n := by simp; omega
  rw [this, List.getElem?_eq_getElem hn]
theorem get_of {α : Type} {l : List α} {n : Nat} {x : α} (h : l[n]? = some x) : ∃ hn : n < l.length, l[n] = x := by
  have hn : n < l.length := by
    rcases Nat.lt_or_ge n l.length with h1 | h1
    · exact h1
    · rw [List.getElem?_eq_none h1] at h; cases h
  exact ⟨hn, by rw [List.getElem?_eq_getElem hn] at h; exact Option.some.inj h⟩
theorem mix_set {a b : List (List PV)} {n : Nat} (h : a.length = b.length) (hn : n < b.length) {e : List PV} (he : a[n]? = some e) : (mix a b n).set n e = mix a b (n + 1) := by
  unfold mix
  rw [List.set_append_right _ _ (by simp; omega)]
  have e1 : n - (a.take n).length = 0 := by simp; omega
  rw [e1, List.drop_eq_getElem_cons hn, List.set_cons_zero, List.take_add_one, he]
  simp
def mkInt (k : Int) (j : Nat) : List PV := [i (k + j)]
theorem f17 (l : List Int) (nl : Bool) (k : Int) (hnl : nl = true → l = []) (hk0 : 0 ≤ k) (hk : k + l.length ≤ 1000000000000) :
    FnM Tryz.prog 17 [.lst 1 nl (l.map fun m => [i m]), i k] (i (k + l.length)) (.lst 1 nl (upTo (mkInt k) l.length)) := by
  obtain ⟨b, hb⟩ : ∃ b : List (List PV), (l.map fun m => [i m]) = b := ⟨_, rfl⟩
  have hbl : b.length = l.length := by rw [← hb]; simp
  obtain ⟨a, ha⟩ : ∃ a, upTo (mkInt k) l.length = a := ⟨_, rfl⟩
  have hal : a.length = b.length := by rw [← ha, upTo_length, hbl]
  rw [ha, hb]
  refine FnM.by_sx hX (by kernel_rfl) c17 rfl rfl ?_
  simp [i17, sxa, sxb, sxc, Ex.ok, Ex.val, ← wr_eq]
  refine sx_count l.length (fun n V => V 0 = .lst 1 nl (mix a b n) ∧ V 5 = i n ∧ V 1 = i (k + n)) 0 (by omega) (by simp [sxa, sxb, sxc, Ex.ok, Ex.val, ← wr_eq, mix_zero]) ?_
  rintro n V hn ⟨h0, h5, h1⟩
  have hml := mix_len (n := n) hal
  rw [hbl] at hml
  simp [sxa, sxb, sxc, Ex.ok, Ex.val, ← wr_eq, h0, h5]
  refine CondS_d (fun hlt => ?_) (fun hge => ?_)
  · have hlt' : n < l.length := by omega
    have hnb : n < b.length := by omega
    have hf : nl = false := by cases nl with | false => rfl | true => rw [hnl rfl] at hlt'; simp at hlt'
    subst hf
    have hw : wr .i64 ((n : Int) + 1) = n + 1 := wr_in (by omega) (by omega)
    have hw2 : wr .i64 (k + n + 1) = k + (n + 1) := by rw [wr_in (by omega) (by omega)]; omega
    have hat : (mix a b n)[n]? = some [i l[n]] := by rw [mix_at hal hnb]; subst hb; simp
    obtain ⟨hlm, hat'⟩ := get_of hat
    have hst : (mix a b n).set n [i (k + n)] = mix a b (n + 1) := mix_set hal hnb (by rw [← ha, upTo_get hlt']; rfl)
    repeat' (first | intro _ | (simp [sxa, sxb, sxc, Ex.ok, Ex.val, ← wr_eq, *]) | refine CondS_d ?_ ?_ | refine CondS_b ?_ ?_ | refine GrdS_d ?_ ?_ | refine GrdS_b ?_ ?_ | refine OkS_i (by omega) ?_ | fail)
  · have : n = l.length := by omega
    subst this
    have hfu := mix_full hal
    rw [hbl] at hfu
    repeat' (first | intro _ | (simp [sxa, sxb, sxc, Ex.ok, Ex.val, ← wr_eq, *]) | refine CondS_d ?_ ?_ | refine CondS_b ?_ ?_ | refine GrdS_d ?_ ?_ | refine GrdS_b ?_ ?_ | refine OkS_i (by omega) ?_ | fail)
theorem f18 (l : List Int) (nl : Bool) (k : Int) (hk0 : 0 ≤ k) (hk : k + l.length ≤ 1000000000000) :
    Fn Tryz.prog 18 false [.lst 1 nl (upTo (mkInt k) l.length), i k] (i (k + l.length)) := by
  obtain ⟨a, ha⟩ : ∃ a, upTo (mkInt k) l.length = a := ⟨_, rfl⟩
  have hal : a.length = l.length := by rw [← ha, upTo_length]
  rw [ha]
  refine Fn.by_sx hX (by kernel_rfl) c18 (by kernel_rfl) (by rfl) ?_
  simp [i18, sxa, sxb, sxc, Ex.ok, Ex.val, ← wr_eq]
  refine sx_count l.length (fun n V => V 0 = .lst 1 nl a ∧ V 5 = i n ∧ V 1 = i (k + n)) 0 (by omega) (by simp [sxa, sxb, sxc, Ex.ok, Ex.val, ← wr_eq]) ?_
  rintro n V hn ⟨h0, h5, h1⟩
  simp [sxa, sxb, sxc, Ex.ok, Ex.val, ← wr_eq, h0, h5]
  refine CondS_d (fun hlt => ?_) (fun hge => ?_)
  · have hlt' : n < l.length := by omega
    have hw : wr .i64 ((n : Int) + 1) = n + 1 := wr_in (by omega) (by omega)
    have hw2 : wr .i64 (k + n + 1) = k + (n + 1) := by rw [wr_in (by omega) (by omega)]; omega
    have hat : a[n]? = some [i (k + n)] := by rw [← ha, upTo_get hlt']; rfl
    obtain ⟨hlm, hat'⟩ := get_of hat
    repeat' (first | intro _ | (simp [sxa, sxb, sxc, Ex.ok, Ex.val, ← wr_eq, *]) | refine CondS_d ?_ ?_ | refine CondS_b ?_ ?_ | refine GrdS_d ?_ ?_ | refine GrdS_b ?_ ?_ | refine OkS_i (by omega) ?_ | fail)
  · have : n = l.length := by omega
    subst this
    repeat' (first | intro _ | (simp [sxa, sxb, sxc, Ex.ok, Ex.val, ← wr_eq, *]) | refine CondS_d ?_ ?_ | refine CondS_b ?_ ?_ | refine GrdS_d ?_ ?_ | refine GrdS_b ?_ ?_ | refine OkS_i (by omega) ?_ | fail)
def mkPt (k : Int) (j : Nat) : Pt := ⟨k + 2 * j, k + 2 * j + 1⟩
theorem f46 (l : List Pt) (nl : Bool) (k : Int) (hnl : nl = true → l = []) (hk0 : 0 ≤ k) (hk : k + 2 * l.length ≤ 1000000000000) :
    FnM Tryz.prog 46 [.lst 2 nl (l.map cp), i k] (i (k + 2 * l.length)) (.lst 2 nl ((upTo (mkPt k) l.length).map cp)) := by
  obtain ⟨b, hb⟩ : ∃ b : List (List PV), l.map cp = b := ⟨_, rfl⟩
  have hbl : b.length = l.length := by rw [← hb]; simp
  obtain ⟨a, ha⟩ : ∃ a, (upTo (mkPt k) l.length).map cp = a := ⟨_, rfl⟩
  have hal : a.length = b.length := by rw [← ha, List.length_map, upTo_length, hbl]
  rw [ha, hb]
  refine FnM.by_sx hX (by kernel_rfl) c46 rfl rfl ?_
  simp [i46, sxa, sxb, sxc, Ex.ok, Ex.val, ← wr_eq]
  refine sx_count l.length (fun n V => V 0 = .lst 2 nl (mix a b n) ∧ V 5 = i n ∧ V 1 = i (k + 2 * n)) 0 (by omega) (by simp [sxa, sxb, sxc, Ex.ok, Ex.val, ← wr_eq, mix_zero]) ?_
  rintro n V hn ⟨h0, h5, h1⟩
  have hml := mix_len (n := n) hal
  rw [hbl] at hml
  simp [sxa, sxb, sxc, Ex.ok, Ex.val, ← wr_eq, h0, h5]
  refine CondS_d (fun hlt => ?_) (fun hge => ?_)
  · have hlt' : n < l.length := by omega
    have hnb : n < b.length := by omega
    have hf : nl = false := by cases nl with | false => rfl | true => rw [hnl rfl] at hlt'; simp at hlt'
    subst hf
    have hw : wr .i64 ((n : Int) + 1) = n + 1 := wr_in (by omega) (by omega)
    have hw2 : wr .i64 (k + 2 * n + 1) = k + 2 * n + 1 := wr_in (by omega) (by omega)
    have hw3 : wr .i64 (k + 2 * n + 1 + 1) = k + 2 * (n + 1) := by rw [wr_in (by omega) (by omega)]; omega
    have hat : (mix a b n)[n]? = some [i l[n].f0, i l[n].f1] := by rw [mix_at hal hnb]; subst hb; simp [cp]
    obtain ⟨hlm, hat'⟩ := get_of hat
    have hst : (mix a b n).set n [i (k + 2 * n), i (k + 2 * n + 1)] = mix a b (n + 1) := mix_set hal hnb (by rw [← ha, List.getElem?_map, upTo_get hlt']; rfl)
    repeat' (first | intro _ | (simp [sxa, sxb, sxc, Ex.ok, Ex.val, ← wr_eq, *]) | refine CondS_d ?_ ?_ | refine CondS_b ?_ ?_ | refine GrdS_d ?_ ?_ | refine GrdS_b ?_ ?_ | refine OkS_i (by omega) ?_ | fail)
  · have : n = l.length := by omega
    subst this
    have hfu := mix_full hal
    rw [hbl] at hfu
    repeat' (first | intro _ | (simp [sxa, sxb, sxc, Ex.ok, Ex.val, ← wr_eq, *]) | refine CondS_d ?_ ?_ | refine CondS_b ?_ ?_ | refine GrdS_d ?_ ?_ | refine GrdS_b ?_ ?_ | refine OkS_i (by omega) ?_ | fail)
end Go.Eng
namespace Go.Eng
open Go Go.Proofs Geo
set_option linter.unusedSimpArgs false
set_option linter.unusedVariables false
set_option maxRecDepth 20000
set_option maxHeartbeats 1000000

/-! marks of features. WRITES -/
def kTo (l : List Ft) (k : Int) : Nat → Int
  | 0 => k
  | n + 1 => kTo l k n + 4 + 2 * ((l.getD n ftD).f4.length : Nat)
def mkFt (k : Int) (x : Ft) : Ft := ⟨k, k + 1, k + 2, mt (k + 3), upTo (mkPt (k + 4)) x.f4.length, x.nl⟩
def mkFtAt (l : List Ft) (k : Int) (j : Nat) : Ft := mkFt (kTo l k j) (l.getD j ftD)
def Ft.nlok (x : Ft) : Prop := x.nl = true → x.f4 = []
theorem kTo_mono {l : List Ft} {k : Int} {n m : Nat} (h : n ≤ m) : kTo l k n ≤ kTo l k m := by
  induction m with
  | zero => obtain rfl : n = 0 := by omega
            exact Int.le_refl _
  | succ m ih =>
    rcases Nat.lt_or_ge m n with h1 | h1
    · obtain rfl : n = m + 1 := by omega
      exact Int.le_refl _
    · have := ih h1
      have h2 : kTo l k (m + 1) = kTo l k m + 4 + 2 * ((l.getD m ftD).f4.length : Nat) := rfl
      omega
theorem f15 (l : List Ft) (nl : Bool) (k : Int) (hnl : nl = true → l = []) (hx : ∀ x ∈ l, x.nlok) (hk0 : 0 ≤ k) (hl : l.length ≤ 1000000000) (hk : kTo l k l.length ≤ 1000000000) :
    FnM Tryz.prog 15 [.lst 5 nl (l.map ft), i k] (i (kTo l k l.length)) (.lst 5 nl ((upTo (mkFtAt l k) l.length).map ft)) := by
  obtain ⟨b, hb⟩ : ∃ b : List (List PV), l.map ft = b := ⟨_, rfl⟩
  have hbl : b.length = l.length := by rw [← hb]; simp
  obtain ⟨a, ha⟩ : ∃ a, (upTo (mkFtAt l k) l.length).map ft = a := ⟨_, rfl⟩
  have hal : a.length = b.length := by rw [← ha, List.length_map, upTo_length, hbl]
  rw [ha, hb]
  refine FnM.by_sx hX (by kernel_rfl) c15 rfl rfl ?_
  simp [i15, sxa, sxb, sxc, Ex.ok, Ex.val, ← wr_eq]
  refine sx_count l.length (fun n V => V 0 = .lst 5 nl (mix a b n) ∧ V 5 = i n ∧ V 1 = i (kTo l k n)) 0 (by omega) (by simp [sxa, sxb, sxc, Ex.ok, Ex.val, ← wr_eq, mix_zero, kTo]) ?_
  rintro n V hn ⟨h0, h5, h1⟩
  have hml := mix_len (n := n) hal
  rw [hbl] at hml
  simp [sxa, sxb, sxc, Ex.ok, Ex.val, ← wr_eq, h0, h5]
  refine CondS_d (fun hlt => ?_) (fun hge => ?_)
  · have hlt' : n < l.length := by omega
    have hnb : n < b.length := by omega
    have hf : nl = false := by cases nl with | false => rfl | true => rw [hnl rfl] at hlt'; simp at hlt'
    subst hf
    have hm1 := kTo_mono (l := l) (k := k) (n := 0) (m := n) (by omega)
    have hm2 := kTo_mono (l := l) (k := k) (n := n + 1) (m := l.length) (by omega)
    have hks : kTo l k (n + 1) = kTo l k n + 4 + 2 * (l[n].f4.length : Nat) := by simp [kTo, hlt']
    have hm1 : k ≤ kTo l k n := hm1
    have hmk : ft (mkFtAt l k n) = [i (kTo l k n), i (kTo l k n + 1), i (kTo l k n + 2), .str (mt (kTo l k n + 3)), .lst 2 l[n].nl ((upTo (mkPt (kTo l k n + 4)) l[n].f4.length).map cp)] := by unfold mkFtAt mkFt ft; simp [hlt']
    obtain ⟨x, hxe⟩ : ∃ x, l[n] = x := ⟨_, rfl⟩
    have hxo := hx l[n] (List.getElem_mem ..)
    have hat : (mix a b n)[n]? = some [i x.f0, i x.f1, i x.f2, .str x.f3, .lst 2 x.nl (x.f4.map cp)] := by rw [mix_at hal hnb]; subst hb; simp [ft, hxe]
    rw [hxe] at hks hmk hxo
    obtain ⟨q, hq⟩ : ∃ q, kTo l k n = q := ⟨_, rfl⟩
    rw [hq] at hks hmk h1 hm1
    have hst : (mix a b n).set n [i q, i (q + 1), i (q + 2), .str (mt (q + 3)), .lst 2 x.nl ((upTo (mkPt (q + 4)) x.f4.length).map cp)] = mix a b (n + 1) := mix_set hal hnb (by rw [← ha, List.getElem?_map, upTo_get hlt', Option.map_some, hmk])
    obtain ⟨hlm, hat'⟩ := get_of hat
    have hw : wr .i64 ((n : Int) + 1) = n + 1 := wr_in (by omega) (by omega)
    have w1 : wr .i64 (q + 1) = q + 1 := wr_in (by omega) (by omega)
    have w2 : wr .i64 (q + 1 + 1) = q + 2 := by rw [wr_in (by omega) (by omega)]; omega
    have w3 : wr .i64 (q + 2 + 1) = q + 3 := by rw [wr_in (by omega) (by omega)]; omega
    have w4 : wr .i64 (q + 3 + 1) = q + 4 := by rw [wr_in (by omega) (by omega)]; omega
    have c1 := f45 (q + 3) (by omega)
    have c2 := f46 x.f4 x.nl (q + 4) hxo (by omega) (by omega)
    have hks' : q + 4 + 2 * (x.f4.length : Int) = kTo l k (n + 1) := hks.symm
    clear hks hmk ha hb hq
    rw [hks'] at c2
    repeat' (first | intro _ | (simp [sxa, sxb, sxc, Ex.ok, Ex.val, ← wr_eq, cp, *]) | refine CallS_i (c1) ?_ | refine CallS_i (c2) ?_ | refine CallE_i (c1) ?_ | refine CallE_i (c2) ?_ | refine CondS_d ?_ ?_ | refine CondS_b ?_ ?_ | refine GrdS_d ?_ ?_ | refine GrdS_b ?_ ?_ | refine OkS_i (by omega) ?_ | fail)
  · have : n = l.length := by omega
    subst this
    have hfu := mix_full hal
    rw [hbl] at hfu
    repeat' (first | intro _ | (simp [sxa, sxb, sxc, Ex.ok, Ex.val, ← wr_eq, *]) | refine CondS_d ?_ ?_ | refine CondS_b ?_ ?_ | refine GrdS_d ?_ ?_ | refine GrdS_b ?_ ?_ | refine OkS_i (by omega) ?_ | fail)
theorem kTo_le (l : List Ft) : ∀ n : Nat, n ≤ l.length → ∀ k : Int, kTo l k n ≤ k + 4 * n + 2 * (wtToF l n : Nat)
  | 0, _, k => by simp [kTo]; omega
  | n + 1, hn, k => by
    have h1 := kTo_le l n (by omega) k
    have h2 := wtToF_succ (l := l) (n := n) (by omega)
    have h3 : wtF l[n] = l[n].f3.size + l[n].f4.length := rfl
    have h4 : kTo l k (n + 1) = kTo l k n + 4 + 2 * (l[n].f4.length : Nat) := by simp [kTo, show n < l.length by omega]
    omega
end Go.Eng
namespace Go.Eng
open Go Go.Proofs Geo
set_option linter.unusedSimpArgs false
set_option linter.unusedVariables false
set_option maxRecDepth 20000
set_option maxHeartbeats 1000000

end Go.Eng
namespace Go.Eng
open Go Go.Proofs Geo
set_option linter.unusedSimpArgs false
set_option linter.unusedVariables false
set_option maxRecDepth 20000
set_option maxHeartbeats 1000000

/-! the source of a log. WRITES -/
theorem cp_sc3 (l : List Pt) : (∀ a ∈ l, scL (cp a) = true) = True := by simp only [eq_iff_iff, iff_true]; exact fun _ _ => rfl
theorem f122 (x : Ft) (hx : x.f4.length ≤ 1000000000) : Fn Tryz.prog 122 true [.agg (ft x)] (.agg (ft x.fr)) := by
  have hs := cp_sc3 x.f4
  unfold ft Ft.fr
  refine Fn.by_sx hX (by kernel_rfl) c122 (by kernel_rfl) (by rfl) ?_
  simp [i122, sxa, sxb, sxc, Ex.ok, Ex.val, ← wr_eq]
  repeat' (first | intro _ | (simp [sxa, sxb, sxc, Ex.ok, Ex.val, ← wr_eq, *]) | refine CondS_d ?_ ?_ | refine CondS_b ?_ ?_ | refine GrdS_d ?_ ?_ | refine GrdS_b ?_ ?_ | refine OkS_i (by omega) ?_ | refine OkS_i ⟨by omega, by assumption⟩ ?_ | refine OkS_i ⟨by omega, by assumption, by assumption⟩ ?_ | fail)
  all_goals omega
theorem f103 (l : List Pt) (hl : l.length ≤ 1000000000) : Fn Tryz.prog 103 true [.lst 2 false (l.map cp)] (.lst 2 false (l.map cp)) := by
  have hs := cp_sc3 l
  refine Fn.by_sx hX (by kernel_rfl) c103 (by kernel_rfl) (by rfl) ?_
  simp [i103, sxa, sxb, sxc, Ex.ok, Ex.val, ← wr_eq]
  repeat' (first | intro _ | (simp [sxa, sxb, sxc, Ex.ok, Ex.val, ← wr_eq, *]) | refine CondS_d ?_ ?_ | refine CondS_b ?_ ?_ | refine GrdS_d ?_ ?_ | refine GrdS_b ?_ ?_ | refine OkS_i (by omega) ?_ | refine OkS_i ⟨by omega, by assumption⟩ ?_ | refine OkS_i ⟨by omega, by assumption, by assumption⟩ ?_ | fail)
  all_goals omega
theorem f59 (x : Ft) (hn : x.nl = false) (hx : x.f4.length ≤ 1000000000) : Fn Tryz.prog 59 true [.agg (ft x)] (.agg (ft x.fr)) := by
  have hc := f103 x.f4 hx
  unfold ft Ft.fr
  rw [hn]
  refine Fn.by_sx hX (by kernel_rfl) c59 (by kernel_rfl) (by rfl) ?_
  simp [i59, sxa, sxb, sxc, Ex.ok, Ex.val, ← wr_eq]
  repeat' (first | intro _ | (simp [sxa, sxb, sxc, Ex.ok, Ex.val, ← wr_eq, *]) | refine CallS_i (hc) ?_ | refine CondS_d ?_ ?_ | refine CondS_b ?_ ?_ | refine GrdS_d ?_ ?_ | refine GrdS_b ?_ ?_ | refine OkS_i (by omega) ?_ | refine OkS_i ⟨by omega, by assumption⟩ ?_ | refine OkS_i ⟨by omega, by assumption, by assumption⟩ ?_ | fail)
end Go.Eng
namespace Go.Eng
open Go Go.Proofs Geo
set_option linter.unusedSimpArgs false
set_option linter.unusedVariables false
set_option maxRecDepth 20000
set_option maxHeartbeats 1000000

/-! edits: sizes, copies, what is read again, marks. WRITES -/
structure Ei where
  f0 : Int
  f1 : Ft
  f2 : Int
  f3 : Int
  f4 : Int
def ei (x : Ei) : List PV := [i x.f0, i x.f1.f0, i x.f1.f1, i x.f1.f2, .str x.f1.f3, .lst 2 x.f1.nl (x.f1.f4.map cp), i x.f2, i x.f3, i x.f4]
theorem f7 (x : Ei) (left : Int) (h0 : 0 ≤ left) (h1 : left ≤ 1048576) (hx : x.f1.fits) : Fn Tryz.prog 7 false [.agg (ei x), i left] (i (szr left (wtF x.f1 : Nat))) := by
  unfold ei
  refine Fn.by_sx hX (by kernel_rfl) c7 (by kernel_rfl) (by rfl) ?_
  simp [i7, sxa, sxb, sxc, Ex.ok, Ex.val, ← wr_eq]
  have hc := f39 x.f1 left h0 h1 hx
  unfold ft at hc
  repeat' (first | intro _ | (simp [sxa, sxb, sxc, Ex.ok, Ex.val, ← wr_eq, *]) | refine CallS_i (hc) ?_ | refine CondS_d ?_ ?_ | refine CondS_b ?_ ?_ | refine GrdS_d ?_ ?_ | refine GrdS_b ?_ ?_ | refine OkS_i (by omega) ?_ | fail)
  all_goals (unfold szr at *; split at * <;> omega)
def Ei.fr (x : Ei) : Ei := { x with f1 := x.f1.fr }
theorem f10 (x : Ei) (hl : x.f1.f4.length ≤ 1048576) : Fn Tryz.prog 10 true [.agg (ei x)] (.agg (ei x.fr)) := by
  have hc := f42 x.f1 hl
  unfold ft Ft.fr at hc
  unfold ei Ei.fr Ft.fr
  refine Fn.by_sx hX (by kernel_rfl) c10 (by kernel_rfl) (by rfl) ?_
  simp [i10, sxa, sxb, sxc, Ex.ok, Ex.val, ← wr_eq]
  repeat' (first | intro _ | (simp [sxa, sxb, sxc, Ex.ok, Ex.val, ← wr_eq, *]) | refine CallS_i (hc) ?_ | refine CondS_d ?_ ?_ | refine CondS_b ?_ ?_ | refine GrdS_d ?_ ?_ | refine GrdS_b ?_ ?_ | refine OkS_i (by omega) ?_ | fail)
def eiz : List PV := [i 0, i 0, i 0, i 0, .str (bs []), .lst 2 true [], i 0, i 0, i 0]
theorem f14 (x : Ei) (n1 n2 : Bool) (hl : x.f1.f4.length ≤ 1000000000000) : Fn Tryz.prog 14 false [.agg (ei { x with f1 := { x.f1 with nl := n1 } }), .agg (ei { x with f1 := { x.f1 with nl := n2 } })] (.bool true) := by
  have hc := f44 x.f1 n1 n2 hl
  unfold ft at hc
  unfold ei
  refine Fn.by_sx hX (by kernel_rfl) c14 (by kernel_rfl) (by rfl) ?_
  simp [i14, sxa, sxb, sxc, Ex.ok, Ex.val, ← wr_eq]
  repeat' (first | intro _ | (simp [sxa, sxb, sxc, Ex.ok, Ex.val, ← wr_eq, *]) | refine CallS_i (hc) ?_ | refine CondS_d ?_ ?_ | refine CondS_b ?_ ?_ | refine GrdS_d ?_ ?_ | refine GrdS_b ?_ ?_ | refine OkS_i (by omega) ?_ | fail)
end Go.Eng
namespace Go.Eng
open Go Go.Proofs Geo
set_option linter.unusedSimpArgs false
set_option linter.unusedVariables false
set_option maxRecDepth 20000
set_option maxHeartbeats 1000000

/-! copies of sources. WRITES -/
def frTo (l : List Ft) (n : Nat) : List Ft := (l.take n).map Ft.fr
theorem frTo_succ {l : List Ft} {n : Nat} (h : n < l.length) : frTo l (n + 1) = frTo l n ++ [l[n].fr] := by
  unfold frTo
  rw [List.take_add_one, List.getElem?_eq_getElem h, List.map_append]
  rfl
theorem frTo_all (l : List Ft) : frTo l l.length = l.map Ft.fr := by unfold frTo; rw [List.take_of_length_le (Nat.le_refl _)]
theorem frTo_len {l : List Ft} {n : Nat} (h : n ≤ l.length) : (frTo l n).length = n := by unfold frTo; simp; omega
theorem f83 (l : List Ft) (nl : Bool) (hl : l.length ≤ 1000000000) (hb : ∀ x ∈ l, x.f4.length ≤ 1000000000) : Fn Tryz.prog 83 true [.lst 5 nl (l.map ft)] (.lst 5 false ((l.map Ft.fr).map ft)) := by
  refine Fn.by_sx hX (by kernel_rfl) c83 (by kernel_rfl) (by rfl) ?_
  simp [i83, sxa, sxb, sxc, Ex.ok, Ex.val, ← wr_eq]
  refine sx_count l.length (fun n V => V 0 = .lst 5 nl (l.map ft) ∧ V 4 = i n ∧ V 3 = .lst 5 false ((frTo l n).map ft)) 0 (by omega) (by simp [sxa, sxb, sxc, Ex.ok, Ex.val, ← wr_eq, frTo]) ?_
  rintro n V hn ⟨h0, h4, h3⟩
  have hw : wr .i64 ((n : Int) + 1) = n + 1 := wr_in (by omega) (by omega)
  simp [sxa, sxb, sxc, Ex.ok, Ex.val, ← wr_eq, h0, h4]
  refine CondS_d (fun hlt => ?_) (fun hge => ?_)
  · have hlt' : n < l.length := by omega
    have hnx := frTo_succ hlt'
    have hlen := frTo_len (l := l) (n := n) (by omega)
    have hc := f122 l[n] (hb _ (List.getElem_mem ..))
    unfold ft at hc
    repeat' (first | intro _ | (simp [sxa, sxb, sxc, Ex.ok, Ex.val, ← wr_eq, ft, *]) | refine CallS_i (hc) ?_ | refine CondS_d ?_ ?_ | refine CondS_b ?_ ?_ | refine GrdS_d ?_ ?_ | refine GrdS_b ?_ ?_ | refine OkS_i (by omega) ?_ | fail)
    all_goals omega
  · have : n = l.length := by omega
    subst this
    have ha := frTo_all l
    repeat' (first | intro _ | (simp [sxa, sxb, sxc, Ex.ok, Ex.val, ← wr_eq, *]) | refine CondS_d ?_ ?_ | refine CondS_b ?_ ?_ | refine GrdS_d ?_ ?_ | refine GrdS_b ?_ ?_ | refine OkS_i (by omega) ?_ | fail)
theorem f57 (l : List Ft) (nl : Bool) (hl : l.length ≤ 1000000000) (hb : ∀ x ∈ l, x.f4.length ≤ 1000000000) (hnn : ∀ x ∈ l, x.nl = false) : Fn Tryz.prog 57 true [.lst 5 nl (l.map ft)] (.lst 5 false ((l.map Ft.fr).map ft)) := by
  refine Fn.by_sx hX (by kernel_rfl) c57 (by kernel_rfl) (by rfl) ?_
  simp [i57, sxa, sxb, sxc, Ex.ok, Ex.val, ← wr_eq]
  refine sx_count l.length (fun n V => V 7 = .lst 5 nl (l.map ft) ∧ V 8 = i l.length ∧ V 9 = i n ∧ V 3 = .lst 5 false ((frTo l n).map ft)) 0 (by omega) (by simp [sxa, sxb, sxc, Ex.ok, Ex.val, ← wr_eq, frTo]) ?_
  rintro n V hn ⟨h7, h8, h9, h3⟩
  have hw : wr .i64 ((n : Int) + 1) = n + 1 := wr_in (by omega) (by omega)
  simp [sxa, sxb, sxc, Ex.ok, Ex.val, ← wr_eq, h8, h9]
  refine CondS_d (fun hlt => ?_) (fun hge => ?_)
  · have hlt' : n < l.length := by omega
    have hnx := frTo_succ hlt'
    have hlen := frTo_len (l := l) (n := n) (by omega)
    have hc := f59 l[n] (hnn _ (List.getElem_mem ..)) (hb _ (List.getElem_mem ..))
    have hnn' := hnn _ (List.getElem_mem hlt')
    clear hnn
    unfold ft at hc
    rw [hnn'] at hc
    repeat' (first | intro _ | (simp [sxa, sxb, sxc, Ex.ok, Ex.val, ← wr_eq, ft, *]) | refine CallS_i (hc) ?_ | refine CondS_d ?_ ?_ | refine CondS_b ?_ ?_ | refine GrdS_d ?_ ?_ | refine GrdS_b ?_ ?_ | refine OkS_i (by omega) ?_ | fail)
    all_goals omega
  · have : n = l.length := by omega
    subst this
    have ha := frTo_all l
    repeat' (first | intro _ | (simp [sxa, sxb, sxc, Ex.ok, Ex.val, ← wr_eq, *]) | refine CondS_d ?_ ?_ | refine CondS_b ?_ ?_ | refine GrdS_d ?_ ?_ | refine GrdS_b ?_ ?_ | refine OkS_i (by omega) ?_ | fail)
end Go.Eng
namespace Go.Eng
open Go Go.Proofs Geo
set_option linter.unusedSimpArgs false
set_option linter.unusedVariables false
set_option maxRecDepth 20000
set_option maxHeartbeats 1000000

/-! the plain law of features put and taken -/
def inc (l : List Ft) : Prop := (l.map (·.f0)).Pairwise (· < ·)
theorem inc_of {l : List Ft} (h : ∀ n, 0 < n → (hn : n < l.length) → (l[n - 1]'(by omega)).f0 < l[n].f0) : inc l := by
  unfold inc
  rw [List.pairwise_iff_getElem]
  intro a b ha hb hab
  simp only [List.length_map] at ha hb
  simp only [List.getElem_map]
  induction b with
  | zero => omega
  | succ b ih =>
    have h1 := h (b + 1) (by omega) hb
    simp only [Nat.add_sub_cancel] at h1
    rcases Nat.lt_or_ge a b with h2 | h2
    · have := ih (by omega) h2 (by omega)
      omega
    · obtain rfl : a = b := by omega
      exact h1
theorem inc_at {l : List Ft} (h : inc l) {a b : Nat} (hab : a < b) (hb : b < l.length) : (l[a]'(by omega)).f0 < l[b].f0 := by
  unfold inc at h
  rw [List.pairwise_iff_getElem] at h
  have := h a b (by simpa using (by omega : a < l.length)) (by simpa using hb) hab
  simpa using this
theorem srcAt_iff {l : List Ft} {n : Nat} (hn : n < l.length) : srcAt l n = true ↔ wFeat l[n] = true ∧ (0 < n → (l[n - 1]'(by omega)).f0 < l[n].f0) := by
  unfold srcAt
  have h1 : l.getD n ftD = l[n] := by simp [hn]
  have h2 : l.getD (n - 1) ftD = l[n - 1]'(by omega) := by simp [show n - 1 < l.length by omega]
  rw [h1, h2]
  simp
  intro _
  constructor <;> intro h <;> omega
theorem wSrc_iff {l : List Ft} : wSrc l = true ↔ l.length ≤ 16 ∧ (∀ x ∈ l, wFeat x = true) ∧ inc l := by
  unfold wSrc
  rw [Bool.and_eq_true, decide_eq_true_iff]
  constructor
  · rintro ⟨h1, h2⟩
    refine ⟨h1, fun x hx => ?_, inc_of fun n h0 hn => ?_⟩
    · obtain ⟨n, hn, rfl⟩ := List.getElem_of_mem hx
      exact ((srcAt_iff hn).1 (allTo_at h2 hn)).1
    · exact ((srcAt_iff hn).1 (allTo_at h2 hn)).2 h0
  · rintro ⟨h1, h2, h3⟩
    refine ⟨h1, ?_⟩
    unfold allTo
    rw [List.all_eq_true]
    intro n hn
    have hn := List.mem_range.1 hn
    exact (srcAt_iff hn).2 ⟨h2 _ (List.getElem_mem hn), fun h => inc_at h3 (by omega) hn⟩
def wAtF : List Ft → Int → Nat
  | [], _ => 0
  | x :: r, id => if x.f0 < id then wAtF r id + 1 else 0
theorem wAtF_le : ∀ (l : List Ft) (id : Int), wAtF l id ≤ l.length
  | [], _ => Nat.le_refl _
  | x :: r, id => by have := wAtF_le r id; unfold wAtF; split <;> simp <;> omega
theorem wAtF_lt : ∀ {l : List Ft} {id : Int} {j : Nat} (hj : j < wAtF l id) (h : j < l.length), l[j].f0 < id
  | [], _, _, _, h => by simp at h
  | x :: r, id, 0, hj, h => by
    unfold wAtF at hj
    split at hj
    · assumption
    · omega
  | x :: r, id, j + 1, hj, h => by
    unfold wAtF at hj
    split at hj
    · exact wAtF_lt (l := r) (j := j) (by omega) (by simpa using h)
    · omega
theorem wAtF_stop : ∀ {l : List Ft} {id : Int} (h : wAtF l id < l.length), ¬ l[wAtF l id].f0 < id
  | [], _, h => by simp at h
  | x :: r, id, h => by
    by_cases hx : x.f0 < id
    · have e : wAtF (x :: r) id = wAtF r id + 1 := by simp [wAtF, hx]
      simp only [e, List.getElem_cons_succ]
      exact wAtF_stop (l := r) (by rw [e] at h; simpa using h)
    · have e : wAtF (x :: r) id = 0 := by simp [wAtF, hx]
      simp only [e, List.getElem_cons_zero]
      exact hx
theorem firstFrom_get {ok : Nat → Bool} : ∀ d n : Nat, (0 ≤ firstFrom ok d n → ok (firstFrom ok d n).toNat = true) ∧ (firstFrom ok d n < 0 → ∀ m, n ≤ m → m < n + d → ok m = false)
  | 0, n => ⟨fun h => by simp [firstFrom] at h, fun _ m h1 h2 => by omega⟩
  | d + 1, n => by
    have ih := firstFrom_get (ok := ok) d (n + 1)
    unfold firstFrom
    by_cases h : ok n = true
    · simp only [h, if_true]
      exact ⟨fun _ => by simpa using h, fun h0 => by omega⟩
    · simp only [h, if_false]
      refine ⟨ih.1, fun h0 m h1 h2 => ?_⟩
      rcases Nat.eq_or_lt_of_le h1 with rfl | h1
      · simpa using h
      · exact ih.2 h0 m (by omega) (by omega)
theorem wFind_get {l : List Ft} {id : Int} (h : 0 ≤ wFind l id) : ∃ hk : (wFind l id).toNat < l.length, l[(wFind l id).toNat].f0 = id := by
  have h1 := (firstFrom_get (ok := hasId l id) (l.length - 0) 0).1 h
  have h2 := wFind_bound l id
  have hk : (wFind l id).toNat < l.length := by omega
  refine ⟨hk, ?_⟩
  change hasId l id (wFind l id).toNat = true at h1
  simpa [hasId, hk] using h1
theorem wFind_none {l : List Ft} {id : Int} (h : wFind l id < 0) {n : Nat} (hn : n < l.length) : l[n].f0 ≠ id := by
  have h1 := (firstFrom_get (ok := hasId l id) (l.length - 0) 0).2 h n (by omega) (by omega)
  simpa [hasId, hn] using h1
def hitF (l : List Ft) (f : Ft) : Bool := decide (wAtF l f.f0 < l.length) && decide ((l.getD (wAtF l f.f0) ftD).f0 = f.f0)
def pfS (l : List Ft) (f : Ft) : List Ft := (l.take (wAtF l f.f0)).map Ft.fr ++ f.fr :: (l.drop (if hitF l f = true then wAtF l f.f0 + 1 else wAtF l f.f0)).map Ft.fr
def pfI (l : List Ft) (f : Ft) : List Ft := if 0 ≤ wFind l f.f0 then (l.map Ft.fr).set (wFind l f.f0).toNat f.fr else (l.map Ft.fr).take (wAtF l f.f0) ++ f.fr :: (l.map Ft.fr).drop (wAtF l f.f0)
theorem inc_fr {l : List Ft} : inc (l.map Ft.fr) ↔ inc l := by unfold inc; rw [List.map_map]; rfl
theorem inc_sub {l m : List Ft} (h : l.Sublist m) (hm : inc m) : inc l := List.Pairwise.sublist (h.map _) hm
theorem pfS_inc {l : List Ft} {f : Ft} (h : inc (pfS l f)) : inc l := by
  unfold pfS at h
  have hk := wAtF_le l f.f0
  split at h
  · rename_i hh
    unfold hitF at hh
    simp only [Bool.and_eq_true, decide_eq_true_iff] at hh
    obtain ⟨h1, h2⟩ := hh
    have e : l = l.take (wAtF l f.f0) ++ l[wAtF l f.f0] :: l.drop (wAtF l f.f0 + 1) := by rw [← List.drop_eq_getElem_cons h1, List.take_append_drop]
    unfold inc at h ⊢
    rw [e]
    simp only [List.map_append, List.map_cons, List.map_map] at h ⊢
    have h3 : l[wAtF l f.f0].f0 = f.f0 := by simpa [h1] using h2
    rw [h3]
    exact h
  · rw [← inc_fr]
    refine inc_sub ?_ h
    conv => lhs; rw [← List.take_append_drop (wAtF l f.f0) l, List.map_append]
    exact List.Sublist.append (List.Sublist.refl _) (List.sublist_cons_self _ _)
theorem pfI_inc {l : List Ft} {f : Ft} (h : inc (pfI l f)) : inc l := by
  unfold pfI at h
  split at h
  · rename_i hh
    obtain ⟨hk, he⟩ := wFind_get hh
    unfold inc at h ⊢
    have e : ((l.map Ft.fr).set (wFind l f.f0).toNat f.fr).map (·.f0) = l.map (·.f0) := by
      rw [List.map_set, List.map_map]
      apply List.ext_getElem
      · simp
      · intro n h1 h2
        rw [List.getElem_set]
        split
        · rename_i h3
          subst h3
          have e : f.fr.f0 = f.f0 := rfl
          rw [e, List.getElem_map]
          exact he.symm
        · simp [Ft.fr]
    rw [e] at h
    exact h
  · rw [← inc_fr]
    refine inc_sub ?_ h
    conv => lhs; rw [← List.take_append_drop (wAtF l f.f0) (l.map Ft.fr)]
    exact List.Sublist.append (List.Sublist.refl _) (List.sublist_cons_self _ _)
theorem wAtF_of {l : List Ft} (hi : inc l) {n : Nat} (hn : n < l.length) : wAtF l l[n].f0 = n := by
  have hk := wAtF_le l l[n].f0
  rcases Nat.lt_trichotomy (wAtF l l[n].f0) n with h | h | h
  · have h1 := wAtF_stop (l := l) (id := l[n].f0) (by omega)
    exact absurd (inc_at hi h hn) h1
  · exact h
  · have h1 := wAtF_lt (l := l) (id := l[n].f0) h hn
    omega
theorem pf_eq {l : List Ft} {f : Ft} (hi : inc l) : pfI l f = pfS l f := by
  unfold pfI pfS
  have hle := wAtF_le l f.f0
  by_cases h : 0 ≤ wFind l f.f0
  · obtain ⟨hk, he⟩ := wFind_get h
    have hw := wAtF_of hi hk
    rw [he] at hw
    have hh : hitF l f = true := by unfold hitF; simp [hw, hk, he]
    rw [if_pos h, if_pos hh, ← hw, List.set_eq_take_append_cons_drop, if_pos (by simpa [hw] using hk)]
    simp
  · have hh : ¬ hitF l f = true := by
      intro hc
      unfold hitF at hc
      simp only [Bool.and_eq_true, decide_eq_true_iff] at hc
      obtain ⟨h1, h2⟩ := hc
      exact wFind_none (l := l) (id := f.f0) (by omega) h1 (by simpa [h1] using h2)
    rw [if_neg h, if_neg hh]
    simp
theorem pf_wSrc (l : List Ft) (f : Ft) : wSrc (pfI l f) = wSrc (pfS l f) ∧ (wSrc (pfS l f) = true → pfI l f = pfS l f) := by
  by_cases hi : inc l
  · rw [pf_eq hi]; exact ⟨rfl, fun _ => rfl⟩
  · have h1 : wSrc (pfI l f) = false := Bool.eq_false_iff.2 fun h => hi (pfI_inc (wSrc_iff.1 h).2.2)
    have h2 : wSrc (pfS l f) = false := Bool.eq_false_iff.2 fun h => hi (pfS_inc (wSrc_iff.1 h).2.2)
    exact ⟨by rw [h1, h2], fun h => by rw [h2] at h; cases h⟩
def tkF (l : List Ft) (id : Int) : List Ft := (l.map Ft.fr).take (wFind l id).toNat ++ (l.map Ft.fr).drop ((wFind l id).toNat + 1)
theorem tkF_sub (l : List Ft) (id : Int) : (tkF l id).Sublist (l.map Ft.fr) := by
  unfold tkF
  conv => rhs; rw [← List.take_append_drop (wFind l id).toNat (l.map Ft.fr)]
  exact List.Sublist.append (List.Sublist.refl _) (List.drop_sublist_drop_left _ (by omega))
theorem tkF_src {l : List Ft} {id : Int} (h : wSrc l = true) : wSrc (tkF l id) = true := by
  obtain ⟨h1, h2, h3⟩ := wSrc_iff.1 h
  refine wSrc_iff.2 ⟨?_, fun x hx => ?_, inc_sub (tkF_sub l id) (inc_fr.2 h3)⟩
  · have := (tkF_sub l id).length_le
    rw [List.length_map] at this
    omega
  · obtain ⟨y, hy, rfl⟩ := List.mem_map.1 ((tkF_sub l id).subset hx)
    exact h2 y hy
end Go.Eng
namespace Go.Eng
open Go Go.Proofs Go.Sort Go.Shelf Geo
set_option linter.unusedSimpArgs false
set_option linter.unusedVariables false
set_option maxRecDepth 20000
set_option maxHeartbeats 1000000

/-! places in their order; places that are kept; what is shown: plain laws -/
structure Plc where
  f0 : Int
  f1 : Pt
  f2 : Int
def plcD : Plc := ⟨0, ⟨0, 0⟩, 0⟩
instance : Inhabited Plc := ⟨plcD⟩
def abv (x y : Plc) : Bool := decide (y.f2 < x.f2) || (decide (x.f2 = y.f2) && decide (x.f0 < y.f0))
/-! a place is looked for from behind -/
def pnK (x : Plc) (l : List Plc) : Nat → Nat
  | 0 => 0
  | k + 1 => if abv x (l.getD k plcD) = true then pnK x l k else k + 1
def pnL (x : Plc) (l : List Plc) : List Plc := l.take (pnK x l l.length) ++ x :: l.drop (pnK x l l.length)
def pnTo (d : List Plc) : Nat → List Plc
  | 0 => []
  | n + 1 => pnL (d.getD n plcD) (pnTo d n)
/-! ascending numbers -/
theorem incI_ext : ∀ {l m : List Int}, l.Pairwise (· < ·) → m.Pairwise (· < ·) → (∀ x, x ∈ l ↔ x ∈ m) → l = m
  | [], [], _, _, _ => rfl
  | [], y :: r, _, _, h => by have := (h y).2 (List.mem_cons_self ..); cases this
  | x :: l, [], _, _, h => by have := (h x).1 (List.mem_cons_self ..); cases this
  | x :: l, y :: r, hl, hm, h => by
    have h1 := List.pairwise_cons.1 hl
    have h2 := List.pairwise_cons.1 hm
    have hxy : x = y := by
      rcases List.mem_cons.1 ((h x).1 (List.mem_cons_self ..)) with e | e
      · exact e
      rcases List.mem_cons.1 ((h y).2 (List.mem_cons_self ..)) with e' | e'
      · exact e'.symm
      have := h1.1 y e'
      have := h2.1 x e
      omega
    subst hxy
    rw [incI_ext h1.2 h2.2 fun z => ?_]
    constructor
    · intro hz
      rcases List.mem_cons.1 ((h z).1 (List.mem_cons_of_mem _ hz)) with rfl | e
      · have := h1.1 z hz; omega
      · exact e
    · intro hz
      rcases List.mem_cons.1 ((h z).2 (List.mem_cons_of_mem _ hz)) with rfl | e
      · have := h2.1 z hz; omega
      · exact e
def srI (l : List Int) : List Int := l.mergeSort fun x y => decide (x ≤ y)
def putI : List Int → Int → List Int
  | [], n => [n]
  | x :: r, n => if x < n then x :: putI r n else if x = n then x :: r else n :: x :: r
theorem putI_mem : ∀ {l : List Int} {n x : Int}, x ∈ putI l n ↔ x = n ∨ x ∈ l
  | [], n, x => by simp [putI]
  | y :: r, n, x => by
    unfold putI
    split
    · rw [List.mem_cons, putI_mem, List.mem_cons]
      constructor <;> intro h <;> rcases h with h | h | h <;> simp [h]
    · split
      · rename_i h
        subst h
        simp
      · simp
theorem putI_inc : ∀ {l : List Int} {n : Int}, l.Pairwise (· < ·) → (putI l n).Pairwise (· < ·)
  | [], n, _ => by simp [putI]
  | y :: r, n, h => by
    have h' := List.pairwise_cons.1 h
    unfold putI
    split
    · rename_i hlt
      refine List.pairwise_cons.2 ⟨fun x hx => ?_, putI_inc h'.2⟩
      rcases putI_mem.1 hx with rfl | hx
      · exact hlt
      · exact h'.1 x hx
    · split
      · exact h
      · refine List.pairwise_cons.2 ⟨fun x hx => ?_, h⟩
        rcases List.mem_cons.1 hx with rfl | hx
        · omega
        · have := h'.1 x hx; omega
theorem putI_len : ∀ {l : List Int} {n : Int}, (putI l n).length ≤ l.length + 1
  | [], n => by simp [putI]
  | y :: r, n => by
    have := putI_len (l := r) (n := n)
    unfold putI
    split
    · simp; omega
    · split <;> simp
/-! places that are kept -/
def farSq (a b : Pt) : Int := if (M_IsPoint a.f0 a.f1 && M_IsPoint b.f0 b.f1) = true then (a.f0 - b.f0) * (a.f0 - b.f0) + (a.f1 - b.f1) * (a.f1 - b.f1) else -1
def kpOK (far : Int) (K : List Plc) (x : Plc) : Bool := K.all fun y => decide (far * far ≤ farSq x.f1 y.f1)
def kpTo (far : Int) (S : List Plc) : Nat → List Plc
  | 0 => []
  | n + 1 => if kpOK far (kpTo far S n) (S.getD n plcD) = true then kpTo far S n ++ [S.getD n plcD] else kpTo far S n
def plAt (l : List Plc) (n : Nat) : Bool := (inR (l.getD n plcD).f0 1 99 && (M_IsPoint (l.getD n plcD).f1.f0 (l.getD n plcD).f1.f1 && inR (l.getD n plcD).f2 0 9)) && !(decide (0 < n) && decide ((l.getD n plcD).f0 ≤ (l.getD (n - 1) plcD).f0))
def arePl (l : List Plc) : Bool := decide (l.length ≤ 16) && allTo (plAt l) l.length
def kept (l : List Plc) (far : Int) : List Plc := if (arePl l && inR far 0 200) = true then kpTo far (pnTo l l.length) (pnTo l l.length).length else []
def thin (l : List Plc) (far : Int) : List Int := srI ((kept l far).map (·.f0))
/-! what is shown -/
def rkd (l : List Ft) (r : Int) : List Ft := l.filter fun x => decide (r ≤ x.f2)
def plOf (x : Ft) : Plc := ⟨x.f0, x.f4.getD 0 ⟨0, 0⟩, x.f2⟩
def plsOf (l : List Ft) : List Plc := if wSrc l = true then (l.filter fun x => decide (x.f1 = 1)).map plOf else []
structure Lv where
  f0 : Int
  f1 : Int
  f2 : Int
def lv (x : Lv) : List PV := [i x.f0, i x.f1, i x.f2]
def wLv (v : Lv) : Bool := inR v.f0 0 9 && (inR v.f1 0 200 && inR v.f2 0 100000)
def shT (l : List Ft) (v : Lv) : List Int := thin (plsOf (rkd l v.f0)) v.f1
def shS (l : List Ft) (v : Lv) : List Int := ((rkd l v.f0).filter fun x => !decide (x.f1 = 1) || decide (x.f0 ∈ shT l v)).map (·.f0)
def shown (l : List Ft) (v : Lv) : List Int := if (wSrc l && wLv v) = true then shS l v else []
end Go.Eng
namespace Go.Eng
open Go Go.Proofs Geo
set_option linter.unusedSimpArgs false
set_option linter.unusedVariables false
set_option maxRecDepth 20000
set_option maxHeartbeats 1000000

/-! ascending numbers -/
def fstGe : List Int → Int → Nat
  | [], _ => 0
  | x :: r, n => if x < n then fstGe r n + 1 else 0
theorem fstGe_le : ∀ (l : List Int) (n : Int), fstGe l n ≤ l.length
  | [], _ => Nat.le_refl _
  | x :: r, n => by have := fstGe_le r n; unfold fstGe; split <;> simp <;> omega
theorem fstGe_lt : ∀ {l : List Int} {n : Int} {j : Nat} (hj : j < fstGe l n) (h : j < l.length), l[j] < n
  | [], _, _, _, h => by simp at h
  | x :: r, n, 0, hj, h => by
    unfold fstGe at hj
    split at hj
    · assumption
    · omega
  | x :: r, n, j + 1, hj, h => by
    unfold fstGe at hj
    split at hj
    · exact fstGe_lt (l := r) (j := j) (by omega) (by simpa using h)
    · omega
theorem fstGe_stop : ∀ {l : List Int} {n : Int} (h : fstGe l n < l.length), ¬ l[fstGe l n] < n
  | [], _, h => by simp at h
  | x :: r, n, h => by
    by_cases hx : x < n
    · have e : fstGe (x :: r) n = fstGe r n + 1 := by simp [fstGe, hx]
      simp only [e, List.getElem_cons_succ]
      exact fstGe_stop (l := r) (by rw [e] at h; simpa using h)
    · have e : fstGe (x :: r) n = 0 := by simp [fstGe, hx]
      simp only [e, List.getElem_cons_zero]
      exact hx
theorem putI_eq : ∀ (l : List Int) (n : Int), putI l n = if l[fstGe l n]? = some n then l else l.take (fstGe l n) ++ n :: l.drop (fstGe l n)
  | [], n => by simp [putI, fstGe]
  | x :: r, n => by
    have ih := putI_eq r n
    by_cases hx : x < n
    · have e : fstGe (x :: r) n = fstGe r n + 1 := by simp [fstGe, hx]
      rw [e, List.getElem?_cons_succ]
      unfold putI
      rw [if_pos hx, ih]
      split <;> simp
    · have e : fstGe (x :: r) n = 0 := by simp [fstGe, hx]
      rw [e]
      unfold putI
      rw [if_neg hx]
      by_cases h2 : x = n
      · simp [h2]
      · simp [h2]
theorem scI (l : List Int) : ∀ cs ∈ l.map (fun m => [i m]), scL cs = true := by
  intro cs h
  obtain ⟨m, _, rfl⟩ := List.mem_map.1 h
  rfl
theorem sc_take {L : List (List PV)} (h : ∀ cs ∈ L, scL cs = true) (n : Nat) : ∀ cs ∈ L.take n, scL cs = true := fun cs hc => h cs (List.mem_of_mem_take hc)
theorem sc_drop {L : List (List PV)} (h : ∀ cs ∈ L, scL cs = true) (n : Nat) : ∀ cs ∈ L.drop n, scL cs = true := fun cs hc => h cs (List.mem_of_mem_drop hc)
theorem f126 (l : List Int) (nl : Bool) (n : Int) (hl : l.length ≤ 1048576) : Fn Tryz.prog 126 true [.lst 1 nl (l.map fun m => [i m]), i n] (.lst 1 false ((putI l n).map fun m => [i m])) := by
  have hk := fstGe_le l n
  have hlt := fun j h1 h2 => fstGe_lt (l := l) (n := n) (j := j) h1 h2
  have hst := fstGe_stop (l := l) (n := n)
  have he := putI_eq l n
  obtain ⟨K, hK⟩ : ∃ K, fstGe l n = K := ⟨_, rfl⟩
  simp only [hK] at hk hlt hst he
  refine Fn.by_sx hX (by kernel_rfl) c126 (by kernel_rfl) (by rfl) ?_
  simp [i126, sxa, sxb, sxc, Ex.ok, Ex.val, ← wr_eq]
  refine sx_count K (fun m V => V 0 = .lst 1 nl (l.map fun m => [i m]) ∧ V 1 = i n ∧ V 5 = i m) 0 (by omega) (by simp [sxa, sxb, sxc, Ex.ok, Ex.val, ← wr_eq]) ?_
  rintro m V hm ⟨h0, h1, h5⟩
  have hw : wr .i64 ((m : Int) + 1) = m + 1 := wr_in (by omega) (by omega)
  rcases Nat.lt_or_ge m K with h | h
  · have hml : m < l.length := by omega
    have hI : (m : Int) < l.length := by omega
    have hx := hlt m h hml
    clear hlt hst he
    repeat' (first | intro _ | (simp [sxa, sxb, sxc, Ex.ok, Ex.val, ← wr_eq, *]) | refine CondS_d ?_ ?_ | refine CondS_b ?_ ?_ | refine GrdS_d ?_ ?_ | refine GrdS_b ?_ ?_ | refine OkS_i (by omega) ?_ | refine OkS_i ⟨by omega, by assumption⟩ ?_ | refine OkS_i ⟨by omega, by assumption, by assumption⟩ ?_ | fail)
  · obtain rfl : m = K := by omega
    clear hlt
    have sc0 := scI l
    have sc1 := sc_take sc0 m
    have sc2 := sc_drop sc0 m
    have sc3 : ∀ cs, cs ∈ List.take m (l.map fun m => [i m]) ∨ cs = [i n] → scL cs = true := by
      rintro cs (h | rfl)
      · exact sc1 cs h
      · rfl
    have sc4 : ∀ cs, (∃ a, a ∈ l ∧ [i a] = cs) ∨ cs = [i n] → scL cs = true := by
      rintro cs (⟨a, _, rfl⟩ | rfl) <;> rfl
    have hT1 : (l.map fun m => [i m]).take l.length = l.map fun m => [i m] := List.take_of_length_le (by simp)
    have hT2 : List.take (l.length - m) (List.drop m (l.map fun m => [i m])) = List.drop m (l.map fun m => [i m]) := List.take_of_length_le (by simp)
    by_cases hml : m < l.length
    · have hI : (m : Int) < l.length := by omega
      have hx := hst hml
      clear hst
      by_cases h2 : l[m] = n
      · rw [if_pos (by simp [hml, h2])] at he
        rw [he]
        clear he
        repeat' (first | intro _ | (simp [sxa, sxb, sxc, Ex.ok, Ex.val, ← wr_eq, *]) | refine CondS_d ?_ ?_ | refine CondS_b ?_ ?_ | refine GrdS_d ?_ ?_ | refine GrdS_b ?_ ?_ | refine OkS_i (by omega) ?_ | refine OkS_i ⟨by omega, by assumption⟩ ?_ | refine OkS_i ⟨by omega, by assumption, by assumption⟩ ?_ | fail)
      · rw [if_neg (by simp [hml, h2])] at he
        rw [he]
        clear he
        repeat' (first | intro _ | (simp [sxa, sxb, sxc, Ex.ok, Ex.val, ← wr_eq, *]) | refine CondS_d ?_ ?_ | refine CondS_b ?_ ?_ | refine GrdS_d ?_ ?_ | refine GrdS_b ?_ ?_ | refine OkS_i (by omega) ?_ | refine OkS_i ⟨by omega, by assumption⟩ ?_ | refine OkS_i ⟨by omega, by assumption, by assumption⟩ ?_ | fail)
        all_goals simp_all
    · have hI : ¬ (m : Int) < l.length := by omega
      have hme : m = l.length := by omega
      clear hst
      rw [if_neg (by simp [hme])] at he
      rw [he]
      clear he
      subst hme
      repeat' (first | intro _ | (simp [sxa, sxb, sxc, Ex.ok, Ex.val, ← wr_eq, *]) | refine CondS_d ?_ ?_ | refine CondS_b ?_ ?_ | refine GrdS_d ?_ ?_ | refine GrdS_b ?_ ?_ | refine OkS_i (by omega) ?_ | refine OkS_i ⟨by omega, by assumption⟩ ?_ | refine OkS_i ⟨by omega, by assumption, by assumption⟩ ?_ | fail)
      all_goals simp_all
end Go.Eng
namespace Go.Eng
open Go Go.Proofs
set_option linter.unusedSimpArgs false
set_option linter.unusedVariables false
set_option maxRecDepth 20000
set_option maxHeartbeats 1000000

/-! equality -/
def eqAt (l m : List Pt) (n : Nat) : Bool := eqb (l.getD n ⟨0, 0⟩) (m.getD n ⟨0, 0⟩)
def wEqL (l m : List Pt) : Bool := decide (l.length = m.length) && allTo (eqAt l m) l.length
theorem f192 (l m : List Pt) (n1 n2 : Bool) (hl : l.length ≤ 1000000000000) : Fn Tryz.prog 192 false [.lst 2 n1 (l.map cp), .lst 2 n2 (m.map cp)] (.bool (wEqL l m)) := by
  refine Fn.by_sx hX (by kernel_rfl) c192 (by kernel_rfl) (by rfl) ?_
  simp [i192, sxa, sxb, sxc, Ex.ok, Ex.val, ← wr_eq]
  by_cases hlm : l.length = m.length
  · have hlm' : ((l.length : Nat) : Int) = m.length := by omega
    repeat' (first | intro _ | (simp [sxa, sxb, sxc, Ex.ok, Ex.val, ← wr_eq, *]) | refine CondS_d ?_ ?_ | refine CondS_b ?_ ?_ | refine GrdS_d ?_ ?_ | refine GrdS_b ?_ ?_ | refine OkS_i (by omega) ?_ | fail)
    refine sx_count l.length (fun n V => V 0 = .lst 2 n1 (l.map cp) ∧ V 1 = .lst 2 n2 (m.map cp) ∧ V 5 = i n ∧ allTo (eqAt l m) n = true) 0 (by omega) (by simp [sxa, sxb, sxc, Ex.ok, Ex.val, ← wr_eq, allTo_zero]; try omega) ?_
    rintro n V hn ⟨h0, h1, h5, ha⟩
    have hw : wr .i64 ((n : Int) + 1) = n + 1 := wr_in (by omega) (by omega)
    simp [sxa, sxb, sxc, Ex.ok, Ex.val, ← wr_eq, h0, h5]
    refine CondS_d (fun hlt => ?_) (fun hge => ?_)
    · have hlt' : n < l.length := by omega
      have hltm : n < m.length := by omega
      have hr : eqAt l m n = decide (l[n].f0 = m[n].f0 ∧ l[n].f1 = m[n].f1) := by simp [eqAt, eqb, hlt', hltm]
      have hbad : eqAt l m n = false → wEqL l m = false := fun h => by simp only [wEqL, allTo_bad hlt' h, Bool.and_false]
      have hgood : eqAt l m n = true → allTo (eqAt l m) (n + 1) = true := fun h => by rw [allTo_succ, ha, h]; rfl
      repeat' (first | intro _ | (simp [sxa, sxb, sxc, Ex.ok, Ex.val, ← wr_eq, cp, *]) | refine CondS_d ?_ ?_ | refine CondS_b ?_ ?_ | refine GrdS_d ?_ ?_ | refine GrdS_b ?_ ?_ | refine OkS_i (by omega) ?_ | fail)
      all_goals first
        | exact hbad (by rw [hr]; by_cases q1 : l[n].f0 = m[n].f0 <;> by_cases q2 : l[n].f1 = m[n].f1 <;> simp_all)
        | exact hgood (by rw [hr]; by_cases q1 : l[n].f0 = m[n].f0 <;> by_cases q2 : l[n].f1 = m[n].f1 <;> simp_all)
    · have : n = l.length := by omega
      subst this
      have hr : wEqL l m = true := by unfold wEqL; rw [ha]; simp [hlm]
      repeat' (first | intro _ | (simp [sxa, sxb, sxc, Ex.ok, Ex.val, ← wr_eq, *]) | refine CondS_d ?_ ?_ | refine CondS_b ?_ ?_ | refine GrdS_d ?_ ?_ | refine GrdS_b ?_ ?_ | refine OkS_i (by omega) ?_ | fail)
  · have hr : wEqL l m = false := by simp [wEqL, hlm]
    have hlm' : ¬ ((l.length : Nat) : Int) = m.length := by omega
    repeat' (first | intro _ | (simp [sxa, sxb, sxc, Ex.ok, Ex.val, ← wr_eq, *]) | refine CondS_d ?_ ?_ | refine CondS_b ?_ ?_ | refine GrdS_d ?_ ?_ | refine GrdS_b ?_ ?_ | refine OkS_i (by omega) ?_ | fail)
theorem f104 (l m : List Pt) (n1 n2 : Bool) (hl : l.length ≤ 1000000000000) : Fn Tryz.prog 104 false [.lst 2 n1 (l.map cp), .lst 2 n2 (m.map cp)] (.bool (wEqL l m)) := by
  refine Fn.by_sx hX (by kernel_rfl) c104 (by kernel_rfl) (by rfl) ?_
  simp [i104, sxa, sxb, sxc, Ex.ok, Ex.val, ← wr_eq]
  by_cases hlm : l.length = m.length
  · have hlm' : ((l.length : Nat) : Int) = m.length := by omega
    repeat' (first | intro _ | (simp [sxa, sxb, sxc, Ex.ok, Ex.val, ← wr_eq, *]) | refine CondS_d ?_ ?_ | refine CondS_b ?_ ?_ | refine GrdS_d ?_ ?_ | refine GrdS_b ?_ ?_ | refine OkS_i (by omega) ?_ | fail)
    refine sx_count l.length (fun n V => V 0 = .lst 2 n1 (l.map cp) ∧ V 1 = .lst 2 n2 (m.map cp) ∧ V 12 = i l.length ∧ V 13 = i n ∧ allTo (eqAt l m) n = true) 0 (by omega) (by simp [sxa, sxb, sxc, Ex.ok, Ex.val, ← wr_eq, allTo_zero]; try omega) ?_
    rintro n V hn ⟨h0, h1, h12, h13, ha⟩
    have hw : wr .i64 ((n : Int) + 1) = n + 1 := wr_in (by omega) (by omega)
    simp [sxa, sxb, sxc, Ex.ok, Ex.val, ← wr_eq, h0, h12, h13]
    refine CondS_d (fun hlt => ?_) (fun hge => ?_)
    · have hlt' : n < l.length := by omega
      have hltm : n < m.length := by omega
      have hr : eqAt l m n = decide (l[n].f0 = m[n].f0 ∧ l[n].f1 = m[n].f1) := by simp [eqAt, eqb, hlt', hltm]
      have hbad : eqAt l m n = false → wEqL l m = false := fun h => by simp only [wEqL, allTo_bad hlt' h, Bool.and_false]
      have hgood : eqAt l m n = true → allTo (eqAt l m) (n + 1) = true := fun h => by rw [allTo_succ, ha, h]; rfl
      repeat' (first | intro _ | (simp [sxa, sxb, sxc, Ex.ok, Ex.val, ← wr_eq, cp, *]) | refine CondS_d ?_ ?_ | refine CondS_b ?_ ?_ | refine GrdS_d ?_ ?_ | refine GrdS_b ?_ ?_ | refine OkS_i (by omega) ?_ | fail)
      all_goals first
        | exact hbad (by rw [hr]; by_cases q1 : l[n].f0 = m[n].f0 <;> by_cases q2 : l[n].f1 = m[n].f1 <;> simp_all)
        | exact hgood (by rw [hr]; by_cases q1 : l[n].f0 = m[n].f0 <;> by_cases q2 : l[n].f1 = m[n].f1 <;> simp_all)
    · have : n = l.length := by omega
      subst this
      have hr : wEqL l m = true := by unfold wEqL; rw [ha]; simp [hlm]
      repeat' (first | intro _ | (simp [sxa, sxb, sxc, Ex.ok, Ex.val, ← wr_eq, *]) | refine CondS_d ?_ ?_ | refine CondS_b ?_ ?_ | refine GrdS_d ?_ ?_ | refine GrdS_b ?_ ?_ | refine OkS_i (by omega) ?_ | fail)
  · have hr : wEqL l m = false := by simp [wEqL, hlm]
    have hlm' : ¬ ((l.length : Nat) : Int) = m.length := by omega
    repeat' (first | intro _ | (simp [sxa, sxb, sxc, Ex.ok, Ex.val, ← wr_eq, *]) | refine CondS_d ?_ ?_ | refine CondS_b ?_ ?_ | refine GrdS_d ?_ ?_ | refine GrdS_b ?_ ?_ | refine OkS_i (by omega) ?_ | fail)
def wEqF (x y : Ft) : Bool := decide (x.f0 = y.f0) && (decide (x.f1 = y.f1) && (decide (x.f2 = y.f2) && (decide (x.f3 = y.f3) && wEqL x.f4 y.f4)))
theorem f159 (x y : Ft) (hx : x.f4.length ≤ 1000000000000) : Fn Tryz.prog 159 false [.agg (ft x), .agg (ft y)] (.bool (wEqF x y)) := by
  have hc := f192 x.f4 y.f4 x.nl y.nl hx
  unfold ft
  refine Fn.by_sx hX (by kernel_rfl) c159 (by kernel_rfl) (by rfl) ?_
  simp [i159, sxa, sxb, sxc, Ex.ok, Ex.val, ← wr_eq]
  repeat' (first | intro _ | (simp [sxa, sxb, sxc, Ex.ok, Ex.val, ← wr_eq, *]) | refine CallS_b (hc) (fun h => ?_) (fun h => ?_) | refine CondS_d ?_ ?_ | refine CondS_b ?_ ?_ | refine GrdS_d ?_ ?_ | refine GrdS_b ?_ ?_ | refine OkS_i (by omega) ?_ | fail)
  all_goals simp_all [wEqF]
theorem f61 (x y : Ft) (hx : x.f4.length ≤ 1000000000000) : Fn Tryz.prog 61 false [.agg (ft x), .agg (ft y)] (.bool (wEqF x y)) := by
  have hc := f104 x.f4 y.f4 x.nl y.nl hx
  unfold ft
  refine Fn.by_sx hX (by kernel_rfl) c61 (by kernel_rfl) (by rfl) ?_
  simp [i61, sxa, sxb, sxc, Ex.ok, Ex.val, ← wr_eq]
  repeat' (first | intro _ | (simp [sxa, sxb, sxc, Ex.ok, Ex.val, ← wr_eq, *]) | refine CallS_b (hc) (fun h => ?_) (fun h => ?_) | refine CondS_d ?_ ?_ | refine CondS_b ?_ ?_ | refine GrdS_d ?_ ?_ | refine GrdS_b ?_ ?_ | refine OkS_i (by omega) ?_ | fail)
  all_goals simp_all [wEqF]
end Go.Eng
namespace Go.Eng
open Go Go.Proofs
set_option linter.unusedSimpArgs false
set_option linter.unusedVariables false
set_option maxRecDepth 20000
set_option maxHeartbeats 1000000

/-! the first digit -/
/-! BarParts -/
/-! RoundLength, ScaleStep -/
def rs (k : Nat) : Nat := [1, 2, 5].getD (k % 3) 0 * 10 ^ (k / 3)
/-! ScaleStep -/
/-! BarText -/
/-! references -/
def cap2 (x : Int) : Int := if (200 : Int) < x then 200 else x
def tbox (n : Int) : List PV := if 0 ≤ n ∧ n ≤ 440 then [i (n % 21 * 10), i (n / 21 * 10), i (cap2 (n % 21 * 10 + 10)), i (cap2 (n / 21 * 10 + 10))] else [i 0, i 0, i 0, i 0]
theorem f109 (n : Int) : Fn Tryz.prog 109 false [i n] (.tup [.agg (tbox n), .bool (inR n 0 440)]) := by
  refine Fn.by_sx hX (by kernel_rfl) c109 (by kernel_rfl) (by rfl) ?_
  simp [i109, sxa, sxb, sxc, Ex.ok, Ex.val, ← wr_eq]
  by_cases hr : 0 ≤ n ∧ n ≤ 440
  · have h : inR n 0 440 = true := by simpa [inR] using hr
    have hc := f75 n 0 440
    rw [h] at hc
    have e1 : n.tmod 21 = n % 21 := Int.tmod_eq_emod_of_nonneg (by omega)
    have e3 : n.tdiv 21 = n / 21 := Int.tdiv_eq_ediv_of_nonneg (by omega)
    obtain ⟨d, hd, hd2⟩ : ∃ d, n % 21 = d ∧ 0 ≤ d ∧ d ≤ 20 := ⟨_, rfl, by omega⟩
    obtain ⟨q, hq, hq2⟩ : ∃ q, n / 21 = q ∧ 0 ≤ q ∧ q ≤ 20 := ⟨_, rfl, by omega⟩
    have ht : tbox n = [i (d * 10), i (q * 10), i (cap2 (d * 10 + 10)), i (cap2 (q * 10 + 10))] := by unfold tbox; rw [if_pos hr, hd, hq]
    rw [hd] at e1
    rw [hq] at e3
    have w0 : wr .i64 q = q := wr_in (by omega) (by omega)
    have w1 : wr .i64 (d * 10) = d * 10 := wr_in (by omega) (by omega)
    have w2 : wr .i64 (q * 10) = q * 10 := wr_in (by omega) (by omega)
    have w3 : wr .i64 (d * 10 + 10) = d * 10 + 10 := wr_in (by omega) (by omega)
    have w4 : wr .i64 (q * 10 + 10) = q * 10 + 10 := wr_in (by omega) (by omega)
    rw [h]
    repeat' (first | intro _ | (simp [sxa, sxb, sxc, Ex.ok, Ex.val, ← wr_eq, cap2, *]) | refine CallS_i (hc) ?_ | refine CondS_d ?_ ?_ | refine CondS_b ?_ ?_ | refine GrdS_d ?_ ?_ | refine GrdS_b ?_ ?_ | refine OkS_i (by omega) ?_ | fail)
  · have h : inR n 0 440 = false := by simpa [inR] using fun h => by omega
    have hc := f75 n 0 440
    rw [h] at hc
    have ht : tbox n = [i 0, i 0, i 0, i 0] := by unfold tbox; rw [if_neg hr]
    rw [h]
    repeat' (first | intro _ | (simp [sxa, sxb, sxc, Ex.ok, Ex.val, ← wr_eq, *]) | refine CallS_i (hc) ?_ | refine CondS_d ?_ ?_ | refine CondS_b ?_ ?_ | refine GrdS_d ?_ ?_ | refine GrdS_b ?_ ?_ | refine OkS_i (by omega) ?_ | fail)
end Go.Eng
namespace Go.Eng
open Go Go.Proofs Geo
set_option linter.unusedSimpArgs false
set_option linter.unusedVariables false
set_option maxRecDepth 20000
set_option maxHeartbeats 1000000

/-! boxes -/
def wBox (a b c d : Int) : Bool := M_IsPoint a b && (M_IsPoint c d && (decide (a ≤ c) && decide (b ≤ d)))
theorem f211 (a b c d : Int) : Fn Tryz.prog 211 false [.agg [i a, i b, i c, i d]] (.bool (wBox a b c d)) := by
  refine Fn.by_sx hX (by kernel_rfl) c211 (by kernel_rfl) (by rfl) ?_
  simp [i211, sxa, sxb, sxc, Ex.ok, Ex.val, ← wr_eq]
  repeat' (first | intro _ | (simp [sxa, sxb, sxc, Ex.ok, Ex.val, ← wr_eq, *]) | refine CallS_b (f70 _ _) (fun h => ?_) (fun h => ?_) | refine CondS_d ?_ ?_ | refine CondS_b ?_ ?_ | refine GrdS_d ?_ ?_ | refine GrdS_b ?_ ?_ | refine OkS_i (by omega) ?_ | fail)
  all_goals simp_all [wBox]
  all_goals omega
theorem f205 (a b c d : Int) : Fn Tryz.prog 205 false [.agg [i a, i b, i c, i d]] (.bool (wBox a b c d)) := by
  refine Fn.by_sx hX (by kernel_rfl) c205 (by kernel_rfl) (by rfl) ?_
  simp [i205, sxa, sxb, sxc, Ex.ok, Ex.val, ← wr_eq]
  repeat' (first | intro _ | (simp [sxa, sxb, sxc, Ex.ok, Ex.val, ← wr_eq, *]) | refine CallS_b (f35 _ _) (fun h => ?_) (fun h => ?_) | refine CondS_d ?_ ?_ | refine CondS_b ?_ ?_ | refine GrdS_d ?_ ?_ | refine GrdS_b ?_ ?_ | refine OkS_i (by omega) ?_ | fail)
  all_goals simp_all [wBox]
  all_goals omega
def wInBox (a b c d x y : Int) : Bool := wBox a b c d && (inR x a c && inR y b d)
theorem f194 (a b c d x y : Int) : Fn Tryz.prog 194 false [.agg [i a, i b, i c, i d], .agg [i x, i y]] (.bool (wInBox a b c d x y)) := by
  refine Fn.by_sx hX (by kernel_rfl) c194 (by kernel_rfl) (by rfl) ?_
  simp [i194, sxa, sxb, sxc, Ex.ok, Ex.val, ← wr_eq]
  repeat' (first | intro _ | (simp [sxa, sxb, sxc, Ex.ok, Ex.val, ← wr_eq, *]) | refine CallS_b (f211 _ _ _ _) (fun h => ?_) (fun h => ?_) | refine CallS_b (f116 _ _ _) (fun h => ?_) (fun h => ?_) | refine CondS_d ?_ ?_ | refine CondS_b ?_ ?_ | refine GrdS_d ?_ ?_ | refine GrdS_b ?_ ?_ | refine OkS_i (by omega) ?_ | fail)
  all_goals simp_all [wInBox]
theorem f180 (a b c d x y : Int) : Fn Tryz.prog 180 false [.agg [i a, i b, i c, i d], .agg [i x, i y]] (.bool (wInBox a b c d x y)) := by
  refine Fn.by_sx hX (by kernel_rfl) c180 (by kernel_rfl) (by rfl) ?_
  simp [i180, sxa, sxb, sxc, Ex.ok, Ex.val, ← wr_eq]
  repeat' (first | intro _ | (simp [sxa, sxb, sxc, Ex.ok, Ex.val, ← wr_eq, *]) | refine CallS_b (f205 _ _ _ _) (fun h => ?_) (fun h => ?_) | refine CallS_b (f75 _ _ _) (fun h => ?_) (fun h => ?_) | refine CondS_d ?_ ?_ | refine CondS_b ?_ ?_ | refine GrdS_d ?_ ?_ | refine GrdS_b ?_ ?_ | refine OkS_i (by omega) ?_ | fail)
  all_goals simp_all [wInBox]
def wBM (a b c d p q r s : Int) : Bool := wBox a b c d && (wBox p q r s && (decide (a ≤ r) && (decide (p ≤ c) && (decide (b ≤ s) && decide (q ≤ d)))))
theorem f213 (a b c d p q r s : Int) : Fn Tryz.prog 213 false [.agg [i a, i b, i c, i d], .agg [i p, i q, i r, i s]] (.bool (wBM a b c d p q r s)) := by
  refine Fn.by_sx hX (by kernel_rfl) c213 (by kernel_rfl) (by rfl) ?_
  simp [i213, sxa, sxb, sxc, Ex.ok, Ex.val, ← wr_eq]
  repeat' (first | intro _ | (simp [sxa, sxb, sxc, Ex.ok, Ex.val, ← wr_eq, *]) | refine CallS_b (f211 _ _ _ _) (fun h => ?_) (fun h => ?_) | refine CondS_d ?_ ?_ | refine CondS_b ?_ ?_ | refine GrdS_d ?_ ?_ | refine GrdS_b ?_ ?_ | refine OkS_i (by omega) ?_ | fail)
  all_goals simp_all [wBM]
  all_goals omega
theorem f215 (a b c d p q r s : Int) : Fn Tryz.prog 215 false [.agg [i a, i b, i c, i d], .agg [i p, i q, i r, i s]] (.tup [i (wr .i64 ((if r < c then r else c) - (if a < p then p else a))), i (wr .i64 ((if s < d then s else d) - (if b < q then q else b)))]) := by
  refine Fn.by_sx hX (by kernel_rfl) c215 (by kernel_rfl) (by rfl) ?_
  simp [i215, sxa, sxb, sxc, Ex.ok, Ex.val, ← wr_eq]
theorem wBox_iff {a b c d : Int} : wBox a b c d = true ↔ ((0 ≤ a ∧ a ≤ 200) ∧ (0 ≤ b ∧ b ≤ 200)) ∧ ((0 ≤ c ∧ c ≤ 200) ∧ (0 ≤ d ∧ d ≤ 200)) ∧ a ≤ c ∧ b ≤ d := by
  unfold wBox M_IsPoint; simp [and_assoc]
theorem f207 (a b c d p q r s : Int) : Fn Tryz.prog 207 false [.agg [i a, i b, i c, i d], .agg [i p, i q, i r, i s]] (.bool (wBM a b c d p q r s)) := by
  refine Fn.by_sx hX (by kernel_rfl) c207 (by kernel_rfl) (by rfl) ?_
  simp [i207, sxa, sxb, sxc, Ex.ok, Ex.val, ← wr_eq]
  have hc := f215 a b c d p q r s
  obtain ⟨u, hu⟩ : ∃ u, wr .i64 ((if r < c then r else c) - (if a < p then p else a)) = u := ⟨_, rfl⟩
  obtain ⟨v, hv⟩ : ∃ v, wr .i64 ((if s < d then s else d) - (if b < q then q else b)) = v := ⟨_, rfl⟩
  have key : wBox a b c d = true → wBox p q r s = true → (wBM a b c d p q r s = (decide (0 ≤ u) && decide (0 ≤ v))) := by
    intro h1 h2
    have h1' := wBox_iff.1 h1
    have h2' := wBox_iff.1 h2
    rw [wr_in (by split <;> split <;> omega) (by split <;> split <;> omega)] at hu hv
    unfold wBM
    rw [h1, h2, Bool.eq_iff_iff]
    simp
    subst hu hv
    constructor <;> intro h <;> omega
  have kf1 : wBox a b c d = false → wBM a b c d p q r s = false := fun h => by simp [wBM, h]
  have kf2 : wBox p q r s = false → wBM a b c d p q r s = false := fun h => by simp [wBM, h]
  rw [hu, hv] at hc
  clear hu hv
  repeat' (first | intro _ | (simp [sxa, sxb, sxc, Ex.ok, Ex.val, ← wr_eq, *]) | refine CallS_b (f205 _ _ _ _) (fun h => ?_) (fun h => ?_) | refine CallS_i (hc) ?_ | refine CondS_d ?_ ?_ | refine CondS_b ?_ ?_ | refine GrdS_d ?_ ?_ | refine GrdS_b ?_ ?_ | refine OkS_i (by omega) ?_ | fail)
  all_goals simp_all
/-! the box of points -/
structure Bx where
  f0 : Int
  f1 : Int
  f2 : Int
  f3 : Int
def bx (b : Bx) : List PV := [i b.f0, i b.f1, i b.f2, i b.f3]
def bxZ : Bx := ⟨0, 0, 0, 0⟩
def bxPut (b : Bx) (p : Pt) : Bx := ⟨min b.f0 p.f0, min b.f1 p.f1, max b.f2 p.f0, max b.f3 p.f1⟩
def bxTo (l : List Pt) (n : Nat) : Bx := (l.take n).foldl bxPut ⟨(l.getD 0 ⟨0, 0⟩).f0, (l.getD 0 ⟨0, 0⟩).f1, (l.getD 0 ⟨0, 0⟩).f0, (l.getD 0 ⟨0, 0⟩).f1⟩
theorem bxTo_succ {l : List Pt} {n : Nat} (h : n < l.length) : bxTo l (n + 1) = bxPut (bxTo l n) l[n] := by
  unfold bxTo
  rw [List.take_add_one, List.getElem?_eq_getElem h, List.foldl_append]
  rfl
def ptOkAt (l : List Pt) (n : Nat) : Bool := M_IsPoint (l.getD n ⟨0, 0⟩).f0 (l.getD n ⟨0, 0⟩).f1
def wBoxB (l : List Pt) : Bool := !decide (l.length = 0) && allTo (ptOkAt l) l.length
def wBoxOf (l : List Pt) : Bx := if wBoxB l = true then bxTo l l.length else bxZ
theorem f212 (l : List Pt) (nl : Bool) (hl : l.length ≤ 1000000000000) : Fn Tryz.prog 212 false [.lst 2 nl (l.map cp)] (.tup [.agg (bx (wBoxOf l)), .bool (wBoxB l)]) := by
  refine Fn.by_sx hX (by kernel_rfl) c212 (by kernel_rfl) (by rfl) ?_
  simp [i212, sxa, sxb, sxc, Ex.ok, Ex.val, ← wr_eq]
  by_cases h0 : l.length = 0
  · have hB : wBoxB l = false := by simp [wBoxB, h0]
    have hO : wBoxOf l = bxZ := by simp [wBoxOf, hB]
    rw [hB, hO]
    obtain rfl := List.length_eq_zero_iff.1 h0
    clear hB hO
    repeat' (first | intro _ | (simp [sxa, sxb, sxc, Ex.ok, Ex.val, ← wr_eq, bx, bxZ, *]) | refine CondS_d ?_ ?_ | refine CondS_b ?_ ?_ | refine GrdS_d ?_ ?_ | refine GrdS_b ?_ ?_ | refine OkS_i (by omega) ?_ | fail)
  have hp : 0 < l.length := by omega
  have hne : ¬ l = [] := fun h => h0 (by rw [h]; rfl)
  have h0z : bxTo l 0 = ⟨l[0].f0, l[0].f1, l[0].f0, l[0].f1⟩ := by unfold bxTo; simp [hp]
  repeat' (first | intro _ | (simp [sxa, sxb, sxc, Ex.ok, Ex.val, ← wr_eq, cp, *]) | refine CondS_d ?_ ?_ | refine CondS_b ?_ ?_ | refine GrdS_d ?_ ?_ | refine GrdS_b ?_ ?_ | refine OkS_i (by omega) ?_ | fail)
  refine sx_count l.length (fun n V => V 0 = .lst 2 nl (l.map cp) ∧ V 5 = i n ∧ V 4 = .ptr (bx (bxTo l n)) ∧ V 2 = .ptr [i 0, i 0, i 0, i 0] ∧ allTo (ptOkAt l) n = true) 0 (by omega) (by rw [h0z]; simp [sxa, sxb, sxc, Ex.ok, Ex.val, ← wr_eq, allTo_zero, bx]) ?_
  rintro n V hn ⟨g0, g5, g4, g2, ga⟩
  simp [sxa, sxb, sxc, Ex.ok, Ex.val, ← wr_eq, g0, g5]
  refine CondS_d (fun hlt => ?_) (fun hge => ?_)
  · have hlt' : n < l.length := by omega
    have hbad : ptOkAt l n = false → wBoxB l = false := fun h => by simp [wBoxB, allTo_bad hlt' h]
    have hpo : ptOkAt l n = M_IsPoint l[n].f0 l[n].f1 := by simp [ptOkAt, hlt']
    have hs := bxTo_succ hlt'
    obtain ⟨⟨b0, b1, b2, b3⟩, hb⟩ : ∃ b, bxTo l n = b := ⟨_, rfl⟩
    rw [hb] at hs g4
    unfold bxPut at hs
    unfold bx at g4
    have hw : wr .i64 ((n : Int) + 1) = n + 1 := wr_in (by omega) (by omega)
    by_cases hP : M_IsPoint l[n].f0 l[n].f1 = true
    · have hc := f70 l[n].f0 l[n].f1
      rw [hP] at hc hpo
      have hall := allTo_succ (ok := ptOkAt l) (n := n)
      rw [ga, hpo] at hall
      repeat' (first | intro _ | (simp [sxa, sxb, sxc, Ex.ok, Ex.val, ← wr_eq, cp, bx, *]) | refine CallS_i (hc) ?_ | refine CallS_i (f172 _ _) ?_ | refine CallS_i (f186 _ _) ?_ | refine CondS_d ?_ ?_ | refine CondS_b ?_ ?_ | refine GrdS_d ?_ ?_ | refine GrdS_b ?_ ?_ | refine OkS_i (by omega) ?_ | fail)
    · have hP' : M_IsPoint l[n].f0 l[n].f1 = false := by simpa using hP
      have hc := f70 l[n].f0 l[n].f1
      rw [hP'] at hc hpo
      have hB := hbad hpo
      have hO : wBoxOf l = bxZ := by simp [wBoxOf, hB]
      rw [hB, hO]
      repeat' (first | intro _ | (simp [sxa, sxb, sxc, Ex.ok, Ex.val, ← wr_eq, cp, bx, bxZ, *]) | refine CallS_i (hc) ?_ | refine CondS_d ?_ ?_ | refine CondS_b ?_ ?_ | refine GrdS_d ?_ ?_ | refine GrdS_b ?_ ?_ | refine OkS_i (by omega) ?_ | fail)
  · have : n = l.length := by omega
    subst this
    have hB : wBoxB l = true := by simp [wBoxB, h0, ga]
    have hO : wBoxOf l = bxTo l l.length := by simp [wBoxOf, hB]
    rw [hB, hO]
    repeat' (first | intro _ | (simp [sxa, sxb, sxc, Ex.ok, Ex.val, ← wr_eq, bx, *]) | refine CondS_d ?_ ?_ | refine CondS_b ?_ ?_ | refine GrdS_d ?_ ?_ | refine GrdS_b ?_ ?_ | refine OkS_i (by omega) ?_ | fail)
theorem mn_if (x y : Int) : (if y < x then y else x) = min x y := by omega
theorem mx_if (x y : Int) : (if x < y then y else x) = max x y := by omega
theorem f206 (l : List Pt) (nl : Bool) (hl : l.length ≤ 1000000000000) : Fn Tryz.prog 206 false [.lst 2 nl (l.map cp)] (.tup [.agg (bx (wBoxOf l)), .bool (wBoxB l)]) := by
  refine Fn.by_sx hX (by kernel_rfl) c206 (by kernel_rfl) (by rfl) ?_
  simp [i206, sxa, sxb, sxc, Ex.ok, Ex.val, ← wr_eq]
  by_cases h0 : l.length = 0
  · have hB : wBoxB l = false := by simp [wBoxB, h0]
    have hO : wBoxOf l = bxZ := by simp [wBoxOf, hB]
    rw [hB, hO]
    obtain rfl := List.length_eq_zero_iff.1 h0
    clear hB hO
    repeat' (first | intro _ | (simp [sxa, sxb, sxc, Ex.ok, Ex.val, ← wr_eq, bx, bxZ, *]) | refine CondS_d ?_ ?_ | refine CondS_b ?_ ?_ | refine GrdS_d ?_ ?_ | refine GrdS_b ?_ ?_ | refine OkS_i (by omega) ?_ | fail)
  have hp : 0 < l.length := by omega
  have hne : ¬ l = [] := fun h => h0 (by rw [h]; rfl)
  have h0z : bxTo l 0 = ⟨l[0].f0, l[0].f1, l[0].f0, l[0].f1⟩ := by unfold bxTo; simp [hp]
  repeat' (first | intro _ | (simp [sxa, sxb, sxc, Ex.ok, Ex.val, ← wr_eq, cp, *]) | refine CondS_d ?_ ?_ | refine CondS_b ?_ ?_ | refine GrdS_d ?_ ?_ | refine GrdS_b ?_ ?_ | refine OkS_i (by omega) ?_ | fail)
  refine sx_count l.length (fun n V => V 0 = .lst 2 nl (l.map cp) ∧ V 18 = .lst 2 nl (l.map cp) ∧ V 19 = i l.length ∧ V 20 = i n ∧ V 4 = .ptr (bx (bxTo l n)) ∧ V 2 = .ptr [i 0, i 0, i 0, i 0] ∧ allTo (ptOkAt l) n = true) 0 (by omega) (by rw [h0z]; simp [sxa, sxb, sxc, Ex.ok, Ex.val, ← wr_eq, allTo_zero, bx]) ?_
  rintro n V hn ⟨g0, g18, g19, g20, g4, g2, ga⟩
  simp [sxa, sxb, sxc, Ex.ok, Ex.val, ← wr_eq, g19, g20]
  refine CondS_d (fun hlt => ?_) (fun hge => ?_)
  · have hlt' : n < l.length := by omega
    have hbad : ptOkAt l n = false → wBoxB l = false := fun h => by simp [wBoxB, allTo_bad hlt' h]
    have hpo : ptOkAt l n = M_IsPoint l[n].f0 l[n].f1 := by simp [ptOkAt, hlt']
    have hs := bxTo_succ hlt'
    obtain ⟨⟨b0, b1, b2, b3⟩, hb⟩ : ∃ b, bxTo l n = b := ⟨_, rfl⟩
    rw [hb] at hs g4
    unfold bxPut at hs
    unfold bx at g4
    have hw : wr .i64 ((n : Int) + 1) = n + 1 := wr_in (by omega) (by omega)
    by_cases hP : M_IsPoint l[n].f0 l[n].f1 = true
    · have hc := f35 l[n].f0 l[n].f1
      rw [hP] at hc hpo
      have hall := allTo_succ (ok := ptOkAt l) (n := n)
      rw [ga, hpo] at hall
      repeat' (first | intro _ | (simp [sxa, sxb, sxc, Ex.ok, Ex.val, ← wr_eq, cp, bx, mn_if, mx_if, *]) | refine CallS_i (hc) ?_ | refine CondS_d ?_ ?_ | refine CondS_b ?_ ?_ | refine GrdS_d ?_ ?_ | refine GrdS_b ?_ ?_ | refine OkS_i (by omega) ?_ | fail)
    · have hP' : M_IsPoint l[n].f0 l[n].f1 = false := by simpa using hP
      have hc := f35 l[n].f0 l[n].f1
      rw [hP'] at hc hpo
      have hB := hbad hpo
      have hO : wBoxOf l = bxZ := by simp [wBoxOf, hB]
      rw [hB, hO]
      repeat' (first | intro _ | (simp [sxa, sxb, sxc, Ex.ok, Ex.val, ← wr_eq, cp, bx, bxZ, *]) | refine CallS_i (hc) ?_ | refine CondS_d ?_ ?_ | refine CondS_b ?_ ?_ | refine GrdS_d ?_ ?_ | refine GrdS_b ?_ ?_ | refine OkS_i (by omega) ?_ | fail)
  · have : n = l.length := by omega
    subst this
    have hB : wBoxB l = true := by simp [wBoxB, h0, ga]
    have hO : wBoxOf l = bxTo l l.length := by simp [wBoxOf, hB]
    rw [hB, hO]
    repeat' (first | intro _ | (simp [sxa, sxb, sxc, Ex.ok, Ex.val, ← wr_eq, bx, *]) | refine CondS_d ?_ ?_ | refine CondS_b ?_ ?_ | refine GrdS_d ?_ ?_ | refine GrdS_b ?_ ?_ | refine OkS_i (by omega) ?_ | fail)
end Go.Eng
namespace Go.Eng
open Go Go.Proofs Geo
set_option linter.unusedSimpArgs false
set_option linter.unusedVariables false
set_option maxRecDepth 20000
set_option maxHeartbeats 1000000

/-! segments that meet boxes -/
def sdN (k a b c d : Int) (C : List Pt) (n : Nat) : Nat := (C.take n).countP fun p => decide (M_SideOf a b c d p.f0 p.f1 = k)
theorem sdN_zero (k a b c d : Int) (C : List Pt) : sdN k a b c d C 0 = 0 := rfl
theorem sdN_succ {k a b c d : Int} {C : List Pt} {n : Nat} (h : n < C.length) : sdN k a b c d C (n + 1) = sdN k a b c d C n + if M_SideOf a b c d C[n].f0 C[n].f1 = k then 1 else 0 := by
  unfold sdN
  rw [List.take_add_one, List.getElem?_eq_getElem h, List.countP_append]
  simp [List.countP_cons]
theorem sdN_le (k a b c d : Int) (C : List Pt) (n : Nat) : sdN k a b c d C n ≤ n := by
  unfold sdN
  refine Nat.le_trans List.countP_le_length ?_
  simp; omega
def wCor (p q r s : Int) : List Pt := [⟨p, q⟩, ⟨p, s⟩, ⟨r, s⟩, ⟨r, q⟩]
def wCor2 (p q r s : Int) : List Pt := [⟨p, q⟩, ⟨r, s⟩, ⟨p, s⟩, ⟨r, q⟩]
theorem sdN_cor (k a b c d p q r s : Int) : sdN k a b c d (wCor2 p q r s) 4 = sdN k a b c d (wCor p q r s) 4 := by
  unfold sdN wCor wCor2
  simp [List.countP_cons]
  omega
def wMB (a b c d p q r s : Int) : Bool := M_IsSegment a b c d && (wBM (wBoxOf [⟨a, b⟩, ⟨c, d⟩]).f0 (wBoxOf [⟨a, b⟩, ⟨c, d⟩]).f1 (wBoxOf [⟨a, b⟩, ⟨c, d⟩]).f2 (wBoxOf [⟨a, b⟩, ⟨c, d⟩]).f3 p q r s && (decide (sdN 1 a b c d (wCor p q r s) 4 < 4) && decide (sdN (-1) a b c d (wCor p q r s) 4 < 4)))
theorem f195 (a b c d p q r s : Int) : Fn Tryz.prog 195 false [.agg [i a, i b, i c, i d], .agg [i p, i q, i r, i s]] (.bool (wMB a b c d p q r s)) := by
  have hb := f212 [⟨a, b⟩, ⟨c, d⟩] false (by simp)
  simp only [List.map, cp] at hb
  unfold wMB
  obtain ⟨⟨o0, o1, o2, o3⟩, ho⟩ : ∃ O, wBoxOf [⟨a, b⟩, ⟨c, d⟩] = O := ⟨_, rfl⟩
  obtain ⟨B, hB⟩ : ∃ B, wBoxB [⟨a, b⟩, ⟨c, d⟩] = B := ⟨_, rfl⟩
  rw [ho, hB] at hb
  rw [ho]
  simp only [bx] at hb
  clear ho hB
  refine Fn.by_sx hX (by kernel_rfl) c195 (by kernel_rfl) (by rfl) ?_
  simp [i195, sxa, sxb, sxc, Ex.ok, Ex.val, ← wr_eq]
  refine CallS_s hb rfl ?_
  by_cases h1 : M_IsSegment a b c d = true
  case neg =>
    have h1 : M_IsSegment a b c d = false := by simpa using h1
    have h1' := f185 a b c d
    rw [h1] at h1'
    repeat' (first | intro _ | (simp [sxa, sxb, sxc, Ex.ok, Ex.val, ← wr_eq, *]) | refine CallS_i (h1') ?_ | refine CondS_d ?_ ?_ | refine CondS_b ?_ ?_ | refine GrdS_d ?_ ?_ | refine GrdS_b ?_ ?_ | refine OkS_i (by omega) ?_ | fail)
  have h1' := f185 a b c d
  rw [h1] at h1'
  by_cases h2 : wBM o0 o1 o2 o3 p q r s = true
  case neg =>
    have h2 : wBM o0 o1 o2 o3 p q r s = false := by simpa using h2
    have h2' := f213 o0 o1 o2 o3 p q r s
    rw [h2] at h2'
    repeat' (first | intro _ | (simp [sxa, sxb, sxc, Ex.ok, Ex.val, ← wr_eq, *]) | refine CallS_i (h1') ?_ | refine CallS_i (h2') ?_ | refine CondS_d ?_ ?_ | refine CondS_b ?_ ?_ | refine GrdS_d ?_ ?_ | refine GrdS_b ?_ ?_ | refine OkS_i (by omega) ?_ | fail)
  have h2' := f213 o0 o1 o2 o3 p q r s
  rw [h2] at h2'
  repeat' (first | intro _ | (simp [sxa, sxb, sxc, Ex.ok, Ex.val, ← wr_eq, *]) | refine CallS_i (h1') ?_ | refine CallS_i (h2') ?_ | refine CondS_d ?_ ?_ | refine CondS_b ?_ ?_ | refine GrdS_d ?_ ?_ | refine GrdS_b ?_ ?_ | refine OkS_i (by omega) ?_ | fail)
  obtain ⟨C, hC⟩ : ∃ C, wCor p q r s = C := ⟨_, rfl⟩
  have hCl : C.length = 4 := by rw [← hC]; rfl
  refine sx_count 4 (fun n V => V 2 = .ptr [i a, i b, i c, i d] ∧ V 7 = .lst 2 false (C.map cp) ∧ V 8 = i (sdN 1 a b c d C n : Nat) ∧ V 9 = i (sdN (-1) a b c d C n : Nat) ∧ V 10 = i n) 0 (by omega) (by rw [← hC]; simp [sxa, sxb, sxc, Ex.ok, Ex.val, ← wr_eq, wCor, cp, sdN_zero]) ?_
  rintro n V hn ⟨g2, g7, g8, g9, g10⟩
  simp [sxa, sxb, sxc, Ex.ok, Ex.val, ← wr_eq, g10]
  refine CondS_d (fun hlt => ?_) (fun hge => ?_)
  · have hlt' : n < C.length := by omega
    have hw : wr .i64 ((n : Int) + 1) = n + 1 := wr_in (by omega) (by omega)
    have hc := f209 a b c d C[n].f0 C[n].f1
    have s1 := sdN_succ (k := 1) (a := a) (b := b) (c := c) (d := d) hlt'
    have s2 := sdN_succ (k := -1) (a := a) (b := b) (c := c) (d := d) hlt'
    have l1 := sdN_le 1 a b c d C n
    have l2 := sdN_le (-1) a b c d C n
    obtain ⟨z, hz⟩ : ∃ z, M_SideOf a b c d C[n].f0 C[n].f1 = z := ⟨_, rfl⟩
    rw [hz] at hc s1 s2
    obtain ⟨m1, e1⟩ : ∃ m, sdN 1 a b c d C n = m := ⟨_, rfl⟩
    obtain ⟨m2, e2⟩ : ∃ m, sdN (-1) a b c d C n = m := ⟨_, rfl⟩
    rw [e1] at s1 g8 l1
    rw [e2] at s2 g9 l2
    have hw1 : wr .i64 ((m1 : Int) + 1) = m1 + 1 := wr_in (by omega) (by omega)
    have hw2 : wr .i64 ((m2 : Int) + 1) = m2 + 1 := wr_in (by omega) (by omega)
    have hn4 : n < 4 := by omega
    clear hCl
    by_cases z1 : z = 1
    · subst z1
      simp at s1 s2
      repeat' (first | intro _ | (simp [sxa, sxb, sxc, Ex.ok, Ex.val, ← wr_eq, cp, *]) | refine CallS_i (hc) ?_ | refine CondS_d ?_ ?_ | refine CondS_b ?_ ?_ | refine GrdS_d ?_ ?_ | refine GrdS_b ?_ ?_ | refine OkS_i (by omega) ?_ | fail)
    by_cases z2 : z = -1
    · subst z2
      simp at s1 s2
      repeat' (first | intro _ | (simp [sxa, sxb, sxc, Ex.ok, Ex.val, ← wr_eq, cp, *]) | refine CallS_i (hc) ?_ | refine CondS_d ?_ ?_ | refine CondS_b ?_ ?_ | refine GrdS_d ?_ ?_ | refine GrdS_b ?_ ?_ | refine OkS_i (by omega) ?_ | fail)
    simp only [z1, z2, if_false, Nat.add_zero] at s1 s2
    repeat' (first | intro _ | (simp [sxa, sxb, sxc, Ex.ok, Ex.val, ← wr_eq, cp, *]) | refine CallS_i (hc) ?_ | refine CondS_d ?_ ?_ | refine CondS_b ?_ ?_ | refine GrdS_d ?_ ?_ | refine GrdS_b ?_ ?_ | refine OkS_i (by omega) ?_ | fail)
  · have : n = 4 := by omega
    subst this
    rw [hC]
    repeat' (first | intro _ | (simp [sxa, sxb, sxc, Ex.ok, Ex.val, ← wr_eq, *]) | refine CondS_d ?_ ?_ | refine CondS_b ?_ ?_ | refine GrdS_d ?_ ?_ | refine GrdS_b ?_ ?_ | refine OkS_i (by omega) ?_ | fail)
    all_goals first | omega | (rw [Bool.eq_iff_iff]; simp; omega)
theorem f181 (a b c d p q r s : Int) : Fn Tryz.prog 181 false [.agg [i a, i b, i c, i d], .agg [i p, i q, i r, i s]] (.bool (wMB a b c d p q r s)) := by
  have hb := f206 [⟨a, b⟩, ⟨c, d⟩] false (by simp)
  simp only [List.map, cp] at hb
  unfold wMB
  obtain ⟨⟨o0, o1, o2, o3⟩, ho⟩ : ∃ O, wBoxOf [⟨a, b⟩, ⟨c, d⟩] = O := ⟨_, rfl⟩
  obtain ⟨B, hB⟩ : ∃ B, wBoxB [⟨a, b⟩, ⟨c, d⟩] = B := ⟨_, rfl⟩
  rw [ho, hB] at hb
  rw [ho]
  simp only [bx] at hb
  clear ho hB
  refine Fn.by_sx hX (by kernel_rfl) c181 (by kernel_rfl) (by rfl) ?_
  simp [i181, sxa, sxb, sxc, Ex.ok, Ex.val, ← wr_eq]
  by_cases h1 : M_IsSegment a b c d = true
  case neg =>
    have h1 : M_IsSegment a b c d = false := by simpa using h1
    have h1' := f140 a b c d
    rw [h1] at h1'
    repeat' (first | intro _ | (simp [sxa, sxb, sxc, Ex.ok, Ex.val, ← wr_eq, *]) | refine CallS_i (h1') ?_ | refine CondS_d ?_ ?_ | refine CondS_b ?_ ?_ | refine GrdS_d ?_ ?_ | refine GrdS_b ?_ ?_ | refine OkS_i (by omega) ?_ | fail)
  have h1' := f140 a b c d
  rw [h1] at h1'
  by_cases h3 : wBox p q r s = true
  case neg =>
    have h3 : wBox p q r s = false := by simpa using h3
    have h3' := f205 p q r s
    rw [h3] at h3'
    have h4 : wBM o0 o1 o2 o3 p q r s = false := by unfold wBM; rw [h3]; simp
    repeat' (first | intro _ | (simp [sxa, sxb, sxc, Ex.ok, Ex.val, ← wr_eq, *]) | refine CallS_i (h1') ?_ | refine CallS_i (h3') ?_ | refine CondS_d ?_ ?_ | refine CondS_b ?_ ?_ | refine GrdS_d ?_ ?_ | refine GrdS_b ?_ ?_ | refine OkS_i (by omega) ?_ | fail)
  have h3' := f205 p q r s
  rw [h3] at h3'
  by_cases h2 : wBM o0 o1 o2 o3 p q r s = true
  case neg =>
    have h2 : wBM o0 o1 o2 o3 p q r s = false := by simpa using h2
    have h2' := f207 o0 o1 o2 o3 p q r s
    rw [h2] at h2'
    repeat' (first | intro _ | (simp [sxa, sxb, sxc, Ex.ok, Ex.val, ← wr_eq, *]) | refine CallS_i (h1') ?_ | refine CallS_i (h3') ?_ | refine CallS_i (hb) ?_ | refine CallS_i (h2') ?_ | refine CondS_d ?_ ?_ | refine CondS_b ?_ ?_ | refine GrdS_d ?_ ?_ | refine GrdS_b ?_ ?_ | refine OkS_i (by omega) ?_ | fail)
  have h2' := f207 o0 o1 o2 o3 p q r s
  rw [h2] at h2'
  repeat' (first | intro _ | (simp [sxa, sxb, sxc, Ex.ok, Ex.val, ← wr_eq, *]) | refine CallS_i (h1') ?_ | refine CallS_i (h3') ?_ | refine CallS_i (hb) ?_ | refine CallS_i (h2') ?_ | refine CondS_d ?_ ?_ | refine CondS_b ?_ ?_ | refine GrdS_d ?_ ?_ | refine GrdS_b ?_ ?_ | refine OkS_i (by omega) ?_ | fail)
  rw [← sdN_cor, ← sdN_cor]
  obtain ⟨C, hC⟩ : ∃ C, wCor2 p q r s = C := ⟨_, rfl⟩
  have hCl : C.length = 4 := by rw [← hC]; rfl
  refine sx_count 4 (fun n V => V 2 = .ptr [i a, i b, i c, i d] ∧ V 50 = .lst 2 false (C.map cp) ∧ V 51 = i 4 ∧ V 7 = i (sdN 1 a b c d C n : Nat) ∧ V 8 = i (sdN (-1) a b c d C n : Nat) ∧ V 52 = i n) 0 (by omega) (by rw [← hC]; simp [sxa, sxb, sxc, Ex.ok, Ex.val, ← wr_eq, wCor2, cp, sdN_zero]) ?_
  rintro n V hn ⟨g2, g7, gl, g8, g9, g10⟩
  simp [sxa, sxb, sxc, Ex.ok, Ex.val, ← wr_eq, g10, gl]
  refine CondS_d (fun hlt => ?_) (fun hge => ?_)
  · have hlt' : n < C.length := by omega
    have hw : wr .i64 ((n : Int) + 1) = n + 1 := wr_in (by omega) (by omega)
    have hc := f175 a b c d C[n].f0 C[n].f1
    have s1 := sdN_succ (k := 1) (a := a) (b := b) (c := c) (d := d) hlt'
    have s2 := sdN_succ (k := -1) (a := a) (b := b) (c := c) (d := d) hlt'
    have l1 := sdN_le 1 a b c d C n
    have l2 := sdN_le (-1) a b c d C n
    obtain ⟨z, hz⟩ : ∃ z, M_SideOf a b c d C[n].f0 C[n].f1 = z := ⟨_, rfl⟩
    rw [hz] at hc s1 s2
    obtain ⟨m1, e1⟩ : ∃ m, sdN 1 a b c d C n = m := ⟨_, rfl⟩
    obtain ⟨m2, e2⟩ : ∃ m, sdN (-1) a b c d C n = m := ⟨_, rfl⟩
    rw [e1] at s1 g8 l1
    rw [e2] at s2 g9 l2
    have hw1 : wr .i64 ((m1 : Int) + 1) = m1 + 1 := wr_in (by omega) (by omega)
    have hw2 : wr .i64 ((m2 : Int) + 1) = m2 + 1 := wr_in (by omega) (by omega)
    have hn4 : n < 4 := by omega
    clear hCl
    by_cases z1 : z = 1
    · subst z1
      simp at s1 s2
      repeat' (first | intro _ | (simp [sxa, sxb, sxc, Ex.ok, Ex.val, ← wr_eq, cp, *]) | refine CallS_i (hc) ?_ | refine CondS_d ?_ ?_ | refine CondS_b ?_ ?_ | refine GrdS_d ?_ ?_ | refine GrdS_b ?_ ?_ | refine OkS_i (by omega) ?_ | fail)
    by_cases z2 : z = -1
    · subst z2
      simp at s1 s2
      repeat' (first | intro _ | (simp [sxa, sxb, sxc, Ex.ok, Ex.val, ← wr_eq, cp, *]) | refine CallS_i (hc) ?_ | refine CondS_d ?_ ?_ | refine CondS_b ?_ ?_ | refine GrdS_d ?_ ?_ | refine GrdS_b ?_ ?_ | refine OkS_i (by omega) ?_ | fail)
    simp only [z1, z2, if_false, Nat.add_zero] at s1 s2
    repeat' (first | intro _ | (simp [sxa, sxb, sxc, Ex.ok, Ex.val, ← wr_eq, cp, *]) | refine CallS_i (hc) ?_ | refine CondS_d ?_ ?_ | refine CondS_b ?_ ?_ | refine GrdS_d ?_ ?_ | refine GrdS_b ?_ ?_ | refine OkS_i (by omega) ?_ | fail)
  · have : n = 4 := by omega
    subst this
    rw [hC]
    repeat' (first | intro _ | (simp [sxa, sxb, sxc, Ex.ok, Ex.val, ← wr_eq, *]) | refine CondS_d ?_ ?_ | refine CondS_b ?_ ?_ | refine GrdS_d ?_ ?_ | refine GrdS_b ?_ ?_ | refine OkS_i (by omega) ?_ | fail)
    all_goals first | omega | (rw [Bool.eq_iff_iff]; simp; omega)
end Go.Eng
namespace Go.Eng
open Go Go.Proofs Geo
set_option linter.unusedSimpArgs false
set_option linter.unusedVariables false
set_option maxRecDepth 20000
set_option maxHeartbeats 1000000

/-! the parts of features, and the tiles they touch -/
def wRSegs (l : List Pt) : List Sg := if wRing l = true then upTo (rgAt l) l.length else []
theorem wRSegs_len (l : List Pt) : (wRSegs l).length ≤ 10 := by
  unfold wRSegs
  split
  · rename_i h
    unfold wRing at h
    simp [inR] at h
    rw [upTo_length]; omega
  · simp
theorem f193 (l : List Pt) (nl : Bool) (hl : l.length ≤ 1000000000000) : Fn Tryz.prog 193 true [.lst 2 nl (l.map cp)] (.lst 4 false ((wRSegs l).map cs)) := by
  have hc := f146 l nl hl
  refine Fn.by_sx hX (by kernel_rfl) c193 (by kernel_rfl) (by rfl) ?_
  simp [i193, sxa, sxb, sxc, Ex.ok, Ex.val, ← wr_eq]
  by_cases h : wRing l = true
  · have e : wRSegs l = upTo (rgAt l) l.length := if_pos h
    rw [h] at hc
    rw [e]
    repeat' (first | intro _ | (simp [sxa, sxb, sxc, Ex.ok, Ex.val, ← wr_eq, *]) | refine CallS_i (hc) ?_ | refine CallS_i (f184 l nl hl) ?_ | refine CondS_d ?_ ?_ | refine CondS_b ?_ ?_ | refine GrdS_d ?_ ?_ | refine GrdS_b ?_ ?_ | refine OkS_i (by omega) ?_ | fail)
  · have e : wRSegs l = [] := if_neg h
    rw [show wRing l = false by simpa using h] at hc
    rw [e]
    repeat' (first | intro _ | (simp [sxa, sxb, sxc, Ex.ok, Ex.val, ← wr_eq, *]) | refine CallS_i (hc) ?_ | refine CondS_d ?_ ?_ | refine CondS_b ?_ ?_ | refine GrdS_d ?_ ?_ | refine GrdS_b ?_ ?_ | refine OkS_i (by omega) ?_ | fail)
theorem f204 (l : List Pt) (nl : Bool) (hl : l.length ≤ 1000000000000) : Fn Tryz.prog 204 true [.lst 2 nl (l.map cp)] (.lst 4 false ((wRSegs l).map cs)) := by
  have hc := f107 l nl hl
  refine Fn.by_sx hX (by kernel_rfl) c204 (by kernel_rfl) (by rfl) ?_
  simp [i204, sxa, sxb, sxc, Ex.ok, Ex.val, ← wr_eq]
  by_cases h : wRing l = true
  · have e : wRSegs l = upTo (rgAt l) l.length := if_pos h
    rw [h] at hc
    rw [e]
    repeat' (first | intro _ | (simp [sxa, sxb, sxc, Ex.ok, Ex.val, ← wr_eq, *]) | refine CallS_i (hc) ?_ | refine CallS_i (f139 l nl hl) ?_ | refine CondS_d ?_ ?_ | refine CondS_b ?_ ?_ | refine GrdS_d ?_ ?_ | refine GrdS_b ?_ ?_ | refine OkS_i (by omega) ?_ | fail)
  · have e : wRSegs l = [] := if_neg h
    rw [show wRing l = false by simpa using h] at hc
    rw [e]
    repeat' (first | intro _ | (simp [sxa, sxb, sxc, Ex.ok, Ex.val, ← wr_eq, *]) | refine CallS_i (hc) ?_ | refine CondS_d ?_ ?_ | refine CondS_b ?_ ?_ | refine GrdS_d ?_ ?_ | refine GrdS_b ?_ ?_ | refine OkS_i (by omega) ?_ | fail)
def wParts (x : Ft) : List Sg := if wFeat x = true then (if x.f1 = 2 then wSegs x.f4 else if x.f1 = 3 then wRSegs x.f4 else []) else []
theorem wParts_len (x : Ft) : (wParts x).length ≤ 10 := by
  have h1 := wSegs_len x.f4
  have h2 := wRSegs_len x.f4
  unfold wParts
  split
  · split
    · omega
    · split
      · omega
      · simp
  · simp
theorem f160 (x : Ft) (hx : x.okay) : Fn Tryz.prog 160 true [.agg (ft x)] (.lst 4 false ((wParts x).map cs)) := by
  have hc := f115 x hx
  have hc2 := f147 x.f4 x.nl (by have := hx.2; omega)
  have hc3 := f193 x.f4 x.nl hx.2
  unfold wParts
  unfold ft at hc ⊢
  refine Fn.by_sx hX (by kernel_rfl) c160 (by kernel_rfl) (by rfl) ?_
  simp [i160, sxa, sxb, sxc, Ex.ok, Ex.val, ← wr_eq]
  by_cases h : wFeat x = true
  · rw [if_pos h]
    rw [h] at hc
    by_cases h2 : x.f1 = 2
    · rw [if_pos h2]
      rw [h2] at hc ⊢
      repeat' (first | intro _ | (simp [sxa, sxb, sxc, Ex.ok, Ex.val, ← wr_eq, *]) | refine CallS_i (hc) ?_ | refine CallS_i (hc2) ?_ | refine CondS_d ?_ ?_ | refine CondS_b ?_ ?_ | refine GrdS_d ?_ ?_ | refine GrdS_b ?_ ?_ | refine OkS_i (by omega) ?_ | fail)
    rw [if_neg h2]
    by_cases h3 : x.f1 = 3
    · rw [if_pos h3]
      rw [h3] at hc ⊢
      repeat' (first | intro _ | (simp [sxa, sxb, sxc, Ex.ok, Ex.val, ← wr_eq, *]) | refine CallS_i (hc) ?_ | refine CallS_i (hc3) ?_ | refine CondS_d ?_ ?_ | refine CondS_b ?_ ?_ | refine GrdS_d ?_ ?_ | refine GrdS_b ?_ ?_ | refine OkS_i (by omega) ?_ | fail)
    rw [if_neg h3]
    repeat' (first | intro _ | (simp [sxa, sxb, sxc, Ex.ok, Ex.val, ← wr_eq, *]) | refine CallS_i (hc) ?_ | refine CondS_d ?_ ?_ | refine CondS_b ?_ ?_ | refine GrdS_d ?_ ?_ | refine GrdS_b ?_ ?_ | refine OkS_i (by omega) ?_ | fail)
  · rw [if_neg h]
    rw [show wFeat x = false by simpa using h] at hc
    repeat' (first | intro _ | (simp [sxa, sxb, sxc, Ex.ok, Ex.val, ← wr_eq, *]) | refine CallS_i (hc) ?_ | refine CondS_d ?_ ?_ | refine CondS_b ?_ ?_ | refine GrdS_d ?_ ?_ | refine GrdS_b ?_ ?_ | refine OkS_i (by omega) ?_ | fail)
theorem f179 (x : Ft) (hx : x.okay) : Fn Tryz.prog 179 true [.agg (ft x)] (.lst 4 false ((wParts x).map cs)) := by
  have hc := f62 x hx
  have hc2 := f120 x.f4 x.nl (by have := hx.2; omega)
  have hc3 := f204 x.f4 x.nl hx.2
  unfold wParts
  unfold ft at hc ⊢
  refine Fn.by_sx hX (by kernel_rfl) c179 (by kernel_rfl) (by rfl) ?_
  simp [i179, sxa, sxb, sxc, Ex.ok, Ex.val, ← wr_eq]
  by_cases h : wFeat x = true
  · rw [if_pos h]
    rw [h] at hc
    by_cases h2 : x.f1 = 2
    · rw [if_pos h2]
      rw [h2] at hc ⊢
      repeat' (first | intro _ | (simp [sxa, sxb, sxc, Ex.ok, Ex.val, ← wr_eq, *]) | refine CallS_i (hc) ?_ | refine CallS_i (hc2) ?_ | refine CondS_d ?_ ?_ | refine CondS_b ?_ ?_ | refine GrdS_d ?_ ?_ | refine GrdS_b ?_ ?_ | refine OkS_i (by omega) ?_ | fail)
    rw [if_neg h2]
    by_cases h3 : x.f1 = 3
    · rw [if_pos h3]
      rw [h3] at hc ⊢
      repeat' (first | intro _ | (simp [sxa, sxb, sxc, Ex.ok, Ex.val, ← wr_eq, *]) | refine CallS_i (hc) ?_ | refine CallS_i (hc3) ?_ | refine CondS_d ?_ ?_ | refine CondS_b ?_ ?_ | refine GrdS_d ?_ ?_ | refine GrdS_b ?_ ?_ | refine OkS_i (by omega) ?_ | fail)
    rw [if_neg h3]
    repeat' (first | intro _ | (simp [sxa, sxb, sxc, Ex.ok, Ex.val, ← wr_eq, *]) | refine CallS_i (hc) ?_ | refine CondS_d ?_ ?_ | refine CondS_b ?_ ?_ | refine GrdS_d ?_ ?_ | refine GrdS_b ?_ ?_ | refine OkS_i (by omega) ?_ | fail)
  · rw [if_neg h]
    rw [show wFeat x = false by simpa using h] at hc
    repeat' (first | intro _ | (simp [sxa, sxb, sxc, Ex.ok, Ex.val, ← wr_eq, *]) | refine CallS_i (hc) ?_ | refine CondS_d ?_ ?_ | refine CondS_b ?_ ?_ | refine GrdS_d ?_ ?_ | refine GrdS_b ?_ ?_ | refine OkS_i (by omega) ?_ | fail)
theorem f161 (n : Int) : Fn Tryz.prog 161 false [i n] (.tup [.agg (tbox n), .bool (inR n 0 440)]) := by
  refine Fn.by_sx hX (by kernel_rfl) c161 (by kernel_rfl) (by rfl) ?_
  simp [i161, sxa, sxb, sxc, Ex.ok, Ex.val, ← wr_eq]
  by_cases hr : 0 ≤ n ∧ n ≤ 440
  · have h : inR n 0 440 = true := by simpa [inR] using hr
    have hc := f116 n 0 440
    rw [h] at hc
    have e1 : n.tmod 21 = n % 21 := Int.tmod_eq_emod_of_nonneg (by omega)
    have e3 : n.tdiv 21 = n / 21 := Int.tdiv_eq_ediv_of_nonneg (by omega)
    obtain ⟨d, hd, hd2⟩ : ∃ d, n % 21 = d ∧ 0 ≤ d ∧ d ≤ 20 := ⟨_, rfl, by omega⟩
    obtain ⟨q, hq, hq2⟩ : ∃ q, n / 21 = q ∧ 0 ≤ q ∧ q ≤ 20 := ⟨_, rfl, by omega⟩
    have ht : tbox n = [i (d * 10), i (q * 10), i (min 200 (d * 10 + 10)), i (min 200 (q * 10 + 10))] := by
      unfold tbox; rw [if_pos hr, hd, hq]
      have e : ∀ x, cap2 x = min 200 x := by intro x; unfold cap2; omega
      rw [e, e]
    rw [hd] at e1
    rw [hq] at e3
    have w0 : wr .i64 q = q := wr_in (by omega) (by omega)
    have w1 : wr .i64 (d * 10) = d * 10 := wr_in (by omega) (by omega)
    have w2 : wr .i64 (q * 10) = q * 10 := wr_in (by omega) (by omega)
    have w3 : wr .i64 (d * 10 + 10) = d * 10 + 10 := wr_in (by omega) (by omega)
    have w4 : wr .i64 (q * 10 + 10) = q * 10 + 10 := wr_in (by omega) (by omega)
    rw [h]
    repeat' (first | intro _ | (simp [sxa, sxb, sxc, Ex.ok, Ex.val, ← wr_eq, *]) | refine CallS_i (hc) ?_ | refine CallS_i (f172 _ _) ?_ | refine CondS_d ?_ ?_ | refine CondS_b ?_ ?_ | refine GrdS_d ?_ ?_ | refine GrdS_b ?_ ?_ | refine OkS_i (by omega) ?_ | fail)
  · have h : inR n 0 440 = false := by simpa [inR] using fun h => by omega
    have hc := f116 n 0 440
    rw [h] at hc
    have ht : tbox n = [i 0, i 0, i 0, i 0] := by unfold tbox; rw [if_neg hr]
    rw [h]
    repeat' (first | intro _ | (simp [sxa, sxb, sxc, Ex.ok, Ex.val, ← wr_eq, *]) | refine CallS_i (hc) ?_ | refine CondS_d ?_ ?_ | refine CondS_b ?_ ?_ | refine GrdS_d ?_ ?_ | refine GrdS_b ?_ ?_ | refine OkS_i (by omega) ?_ | fail)
/-! pieces -/
def pcsTo (id : Int) (S : List Sg) (p q r u : Int) : Nat → List (Int × Int)
  | 0 => []
  | n + 1 => pcsTo id S p q r u n ++ (if wMB (sgD S n).f0.f0 (sgD S n).f0.f1 (sgD S n).f1.f0 (sgD S n).f1.f1 p q r u = true then [(id, (n : Int))] else [])
def pcv (x : Int × Int) : List PV := [i x.1, i x.2]
theorem pcsTo_len (id : Int) (S : List Sg) (p q r u : Int) (n : Nat) : (pcsTo id S p q r u n).length ≤ n := by
  induction n with
  | zero => simp [pcsTo]
  | succ n ih => unfold pcsTo; rw [List.length_append]; split <;> simp <;> omega
def wPcs (x : Ft) (S : List Sg) (p q r u : Int) : List (Int × Int) := if x.f1 = 1 ∧ wInBox p q r u (x.f4.getD 0 ⟨0, 0⟩).f0 (x.f4.getD 0 ⟨0, 0⟩).f1 = true then [(x.f0, 0)] else pcsTo x.f0 S p q r u S.length
theorem f162 (x : Ft) (S : List Sg) (nl : Bool) (p q r u : Int) (hS : S.length ≤ 1000000) (h1 : x.f1 = 1 → 0 < x.f4.length) : Fn Tryz.prog 162 true [.agg (ft x), .lst 4 nl (S.map cs), .agg [i p, i q, i r, i u]] (.lst 2 false ((wPcs x S p q r u).map pcv)) := by
  unfold ft
  refine Fn.by_sx hX (by kernel_rfl) c162 (by kernel_rfl) (by rfl) ?_
  simp [i162, sxa, sxb, sxc, Ex.ok, Ex.val, ← wr_eq]
  by_cases hk : x.f1 = 1 ∧ wInBox p q r u (x.f4.getD 0 ⟨0, 0⟩).f0 (x.f4.getD 0 ⟨0, 0⟩).f1 = true
  · have e : wPcs x S p q r u = [(x.f0, 0)] := if_pos hk
    have hl := h1 hk.1
    have hg : x.f4.getD 0 ⟨0, 0⟩ = x.f4[0] := by simp [hl]
    have hne : ¬ x.f4 = [] := fun h => by rw [h] at hl; cases hl
    have hc := f194 p q r u x.f4[0].f0 x.f4[0].f1
    rw [hg] at hk
    rw [hk.2] at hc
    have hk1 := hk.1
    rw [e, hk1]
    repeat' (first | intro _ | (simp [sxa, sxb, sxc, Ex.ok, Ex.val, ← wr_eq, pcv, cp, *]) | refine CallS_i (hc) ?_ | refine CondS_d ?_ ?_ | refine CondS_b ?_ ?_ | refine GrdS_d ?_ ?_ | refine GrdS_b ?_ ?_ | refine OkS_i (by omega) ?_ | fail)
  have e : wPcs x S p q r u = pcsTo x.f0 S p q r u S.length := if_neg hk
  rw [e]
  have fin : ∀ V : Env, V 1 = .lst 4 nl (S.map cs) → V 3 = .ptr [i x.f0, i x.f1, i x.f2, .str x.f3, .lst 2 x.nl (x.f4.map cp)] → V 5 = .ptr [i p, i q, i r, i u] → V 7 = .lst 2 false [] → V 8 = i 0 → True := fun _ _ _ _ _ _ => trivial
  have hcont : x.f1 = 1 → ∃ hl : 0 < x.f4.length, Fn Tryz.prog 194 false [.agg [i p, i q, i r, i u], .agg [i x.f4[0].f0, i x.f4[0].f1]] (.bool false) := by
    intro hk1
    have hl := h1 hk1
    refine ⟨hl, ?_⟩
    have hg : x.f4.getD 0 ⟨0, 0⟩ = x.f4[0] := by simp [hl]
    have hc := f194 p q r u x.f4[0].f0 x.f4[0].f1
    rw [hg] at hk
    rw [show wInBox p q r u x.f4[0].f0 x.f4[0].f1 = false by simpa [hk1] using hk] at hc
    exact hc
  clear fin
  have lp : ∀ V : Env, V 1 = .lst 4 nl (S.map cs) → V 3 = .ptr [i x.f0, i x.f1, i x.f2, .str x.f3, .lst 2 x.nl (x.f4.map cp)] → V 5 = .ptr [i p, i q, i r, i u] → V 7 = .lst 2 false [] → V 8 = i 0 →
      sx (FC Tryz.prog) (.loop (.seq (.seq (.ops [s 25 (.mv (t 8)),
  s 26 (.mv (t 1)),
  s 27 (.len false (t 26)),
  s 28 (.bin .lss (t 25) (t 27))])
 (.cond (t 28) .skip (.exit 0)))
 (.seq (.block 1 (.seq (.ops [s 31 (.mv (t 1)),
  s 32 (.mv (t 8)),
  s 33 (.idx (t 31) (t 32) 4),
  s 34 (.ldE 31 33 0 4 true true 4),
  s 35 (.ldB 5 0 4 true true),
  k 36 195 [(t 34), (t 35)] .sc])
 (.cond (t 36) (.ops [s 37 (.mv (t 7)),
  s 38 (.mv (c (i 0))),
  s 39 (.ldB 3 0 1 false true),
  s 40 (.mv (t 8)),
  s 41 (.bld [(i 0), (i 0)] [(0, 1, (t 39)), (1, 1, (t 40))]),
  s 42 (.bsl 2 [(t 41)]),
  s 43 (.app (t 37) (t 42) 2 16),
  s 7 (.mv (t 43))]) .skip)))
 (.ops [s 29 (.mv (t 8)),
  s 30 (.bin .add (t 29) (c (i 1))),
  s 8 (.mv (t 30))])))) (fun y V' => y = .exit 0 ∧ V' 7 = .lst 2 false ((pcsTo x.f0 S p q r u S.length).map pcv)) V := by
    intro V g1 g3 g5 g7 g8
    refine sx_count S.length (fun n V => V 1 = .lst 4 nl (S.map cs) ∧ V 3 = .ptr [i x.f0, i x.f1, i x.f2, .str x.f3, .lst 2 x.nl (x.f4.map cp)] ∧ V 5 = .ptr [i p, i q, i r, i u] ∧ V 7 = .lst 2 false ((pcsTo x.f0 S p q r u n).map pcv) ∧ V 8 = i n) 0 (by omega) (by simp [g1, g3, g5, g7, g8, pcsTo]) ?_
    clear g1 g3 g5 g7 g8 V
    rintro n V hn ⟨g1, g3, g5, g7, g8⟩
    simp [sxa, sxb, sxc, Ex.ok, Ex.val, ← wr_eq, g1, g8]
    refine CondS_d (fun hlt => ?_) (fun hge => ?_)
    · have hlt' : n < S.length := by omega
      have hw : wr .i64 ((n : Int) + 1) = n + 1 := wr_in (by omega) (by omega)
      have hln := pcsTo_len x.f0 S p q r u n
      have hc := f195 S[n].f0.f0 S[n].f0.f1 S[n].f1.f0 S[n].f1.f1 p q r u
      have hsg : sgD S n = S[n] := by simp [sgD, hlt']
      by_cases hm : wMB S[n].f0.f0 S[n].f0.f1 S[n].f1.f0 S[n].f1.f1 p q r u = true
      · have hs : pcsTo x.f0 S p q r u (n + 1) = pcsTo x.f0 S p q r u n ++ [(x.f0, (n : Int))] := by rw [pcsTo, hsg, if_pos hm]
        rw [hm] at hc
        repeat' (first | intro _ | (simp [sxa, sxb, sxc, Ex.ok, Ex.val, ← wr_eq, cs, pcv, *]) | refine CallS_i (hc) ?_ | refine CondS_d ?_ ?_ | refine CondS_b ?_ ?_ | refine GrdS_d ?_ ?_ | refine GrdS_b ?_ ?_ | refine OkS_i (by omega) ?_ | fail)
      · have hs : pcsTo x.f0 S p q r u (n + 1) = pcsTo x.f0 S p q r u n := by rw [pcsTo, hsg, if_neg hm, List.append_nil]
        rw [show wMB S[n].f0.f0 S[n].f0.f1 S[n].f1.f0 S[n].f1.f1 p q r u = false by simpa using hm] at hc
        repeat' (first | intro _ | (simp [sxa, sxb, sxc, Ex.ok, Ex.val, ← wr_eq, cs, pcv, *]) | refine CallS_i (hc) ?_ | refine CondS_d ?_ ?_ | refine CondS_b ?_ ?_ | refine GrdS_d ?_ ?_ | refine GrdS_b ?_ ?_ | refine OkS_i (by omega) ?_ | fail)
    · have : n = S.length := by omega
      subst this
      repeat' (first | intro _ | (simp [sxa, sxb, sxc, Ex.ok, Ex.val, ← wr_eq, *]) | refine CondS_d ?_ ?_ | refine CondS_b ?_ ?_ | refine GrdS_d ?_ ?_ | refine GrdS_b ?_ ?_ | refine OkS_i (by omega) ?_ | fail)
  by_cases hk1 : x.f1 = 1
  · obtain ⟨hl, hc⟩ := hcont hk1
    have hne : ¬ x.f4 = [] := fun h => by rw [h] at hl; cases hl
    repeat' (first | intro _ | (simp [sxa, sxb, sxc, Ex.ok, Ex.val, ← wr_eq, cp, *]) | refine CallS_i (hc) ?_ | refine CondS_d ?_ ?_ | refine CondS_b ?_ ?_ | refine GrdS_d ?_ ?_ | refine GrdS_b ?_ ?_ | refine OkS_i (by omega) ?_ | fail)
    refine sx_mono _ _ _ _ ?_ (lp _ (by simp [sxa, sxb, sxc, Ex.ok, Ex.val, ← wr_eq, hk1]) (by simp [sxa, sxb, sxc, Ex.ok, Ex.val, ← wr_eq, hk1]) (by simp [sxa, sxb, sxc, Ex.ok, Ex.val, ← wr_eq, hk1]) (by simp [sxa, sxb, sxc, Ex.ok, Ex.val, ← wr_eq, hk1]) (by simp [sxa, sxb, sxc, Ex.ok, Ex.val, ← wr_eq, hk1]))
    rintro y V' ⟨rfl, g7⟩
    repeat' (first | intro _ | (simp [sxa, sxb, sxc, Ex.ok, Ex.val, ← wr_eq, *]) | refine CondS_d ?_ ?_ | refine CondS_b ?_ ?_ | refine GrdS_d ?_ ?_ | refine GrdS_b ?_ ?_ | refine OkS_i (by omega) ?_ | fail)
  · repeat' (first | intro _ | (simp [sxa, sxb, sxc, Ex.ok, Ex.val, ← wr_eq, *]) | refine CondS_d ?_ ?_ | refine CondS_b ?_ ?_ | refine GrdS_d ?_ ?_ | refine GrdS_b ?_ ?_ | refine OkS_i (by omega) ?_ | fail)
    refine sx_mono _ _ _ _ ?_ (lp _ (by simp [sxa, sxb, sxc, Ex.ok, Ex.val, ← wr_eq]) (by simp [sxa, sxb, sxc, Ex.ok, Ex.val, ← wr_eq]) (by simp [sxa, sxb, sxc, Ex.ok, Ex.val, ← wr_eq]) (by simp [sxa, sxb, sxc, Ex.ok, Ex.val, ← wr_eq]) (by simp [sxa, sxb, sxc, Ex.ok, Ex.val, ← wr_eq]))
    rintro y V' ⟨rfl, g7⟩
    repeat' (first | intro _ | (simp [sxa, sxb, sxc, Ex.ok, Ex.val, ← wr_eq, *]) | refine CondS_d ?_ ?_ | refine CondS_b ?_ ?_ | refine GrdS_d ?_ ?_ | refine GrdS_b ?_ ?_ | refine OkS_i (by omega) ?_ | fail)
theorem f143 (x : Ft) (p q r u : Int) (hx : x.okay) (h1 : x.f1 = 1 → 0 < x.f4.length) : Fn Tryz.prog 143 true [.agg (ft x), .agg [i p, i q, i r, i u], .bool false] (.lst 2 false ((wPcs x (wParts x) p q r u).map pcv)) := by
  have hparts := f179 x hx
  have hpl := wParts_len x
  have hp1 : x.f1 = 1 → wParts x = [] := by
    intro h
    unfold wParts
    rw [h]
    simp
  obtain ⟨S, hS⟩ : ∃ S, wParts x = S := ⟨_, rfl⟩
  rw [hS] at hparts hpl hp1 ⊢
  clear hS
  unfold ft at hparts ⊢
  refine Fn.by_sx hX (by kernel_rfl) c143 (by kernel_rfl) (by rfl) ?_
  simp [i143, sxa, sxb, sxc, Ex.ok, Ex.val, ← wr_eq]
  by_cases hk : x.f1 = 1 ∧ wInBox p q r u (x.f4.getD 0 ⟨0, 0⟩).f0 (x.f4.getD 0 ⟨0, 0⟩).f1 = true
  · have e : wPcs x S p q r u = [(x.f0, 0)] := if_pos hk
    have hl := h1 hk.1
    have hg : x.f4.getD 0 ⟨0, 0⟩ = x.f4[0] := by simp [hl]
    have hne : ¬ x.f4 = [] := fun h => by rw [h] at hl; cases hl
    have hc := f180 p q r u x.f4[0].f0 x.f4[0].f1
    rw [hg] at hk
    rw [hk.2] at hc
    have hk1 := hk.1
    have hS0 := hp1 hk1
    subst hS0
    rw [hk1] at hparts
    rw [e, hk1]
    repeat' (first | intro _ | (simp [sxa, sxb, sxc, Ex.ok, Ex.val, ← wr_eq, pcv, cp, *]) | refine CallS_i (hc) ?_ | refine CallS_i (hparts) ?_ | refine CondS_d ?_ ?_ | refine CondS_b ?_ ?_ | refine GrdS_d ?_ ?_ | refine GrdS_b ?_ ?_ | refine OkS_i (by omega) ?_ | fail)
    refine sx_count 0 (fun n V => V 33 = i 0 ∧ V 34 = i 0 ∧ V 7 = .lst 2 false [[i x.f0, i 0]]) 0 (by omega) (by simp [sxa, sxb, sxc, Ex.ok, Ex.val, ← wr_eq]) ?_
    rintro n V hn ⟨g33, g34, g7⟩
    repeat' (first | intro _ | (simp [sxa, sxb, sxc, Ex.ok, Ex.val, ← wr_eq, *]) | refine CondS_d ?_ ?_ | refine CondS_b ?_ ?_ | refine GrdS_d ?_ ?_ | refine GrdS_b ?_ ?_ | refine OkS_i (by omega) ?_ | fail)
  clear hp1
  have e : wPcs x S p q r u = pcsTo x.f0 S p q r u S.length := if_neg hk
  rw [e]
  have hcont : x.f1 = 1 → ∃ hl : 0 < x.f4.length, Fn Tryz.prog 180 false [.agg [i p, i q, i r, i u], .agg [i x.f4[0].f0, i x.f4[0].f1]] (.bool false) := by
    intro hk1
    have hl := h1 hk1
    refine ⟨hl, ?_⟩
    have hg : x.f4.getD 0 ⟨0, 0⟩ = x.f4[0] := by simp [hl]
    have hc := f180 p q r u x.f4[0].f0 x.f4[0].f1
    rw [hg] at hk
    rw [show wInBox p q r u x.f4[0].f0 x.f4[0].f1 = false by simpa [hk1] using hk] at hc
    exact hc
  have lp : ∀ V : Env, V 2 = .bool false → V 32 = .lst 4 false (S.map cs) → V 33 = i S.length → V 34 = i 0 → V 3 = .ptr [i x.f0, i x.f1, i x.f2, .str x.f3, .lst 2 x.nl (x.f4.map cp)] → V 4 = .ptr [i p, i q, i r, i u] → V 7 = .lst 2 false [] →
      sx (FC Tryz.prog) (.loop (.seq (.ops [s 35 (.bin .lss (t 34) (t 33))])
 (.seq (.cond (t 35) .skip (.exit 0))
 (.seq (.block 1 (.seq (.ops [s 36 (.mv (t 34)),
  s 37 (.idx (t 32) (t 34) 4),
  s 38 (.ldE 32 37 0 4 true true 4),
  s 9 (.alc [(i 0), (i 0), (i 0), (i 0)]),
  s 8 (.mv (t 36)),
  s 9 (.stB 9 0 4 (t 38) false)])
 (.seq (.ops [s 39 (.mv (t 2)),
  s 40 (.mv (t 39)),
  sg [(40, false)] 41 (.ldB 9 0 4 true true),
  sg [(40, false)] 42 (.ldB 4 0 4 true true),
  kg [(40, false)] 43 181 [(t 41), (t 42)] .sc,
  s 44 (.pick (t 40) (c (.bool true)) (t 43))])
 (.cond (t 44) (.ops [s 45 (.mv (t 7)),
  s 46 (.mv (c (i 0))),
  s 47 (.ldB 3 0 1 false true),
  s 48 (.mv (t 8)),
  s 49 (.bld [(i 0), (i 0)] [(0, 1, (t 47)), (1, 1, (t 48))]),
  s 50 (.bsl 2 [(t 49)]),
  s 51 (.app (t 45) (t 50) 2 16),
  s 7 (.mv (t 51))]) .skip))))
 (.ops [s 52 (.bin .add (t 34) (c (i 1))),
  s 34 (.mv (t 52))]))))) (fun y V' => y = .exit 0 ∧ V' 7 = .lst 2 false ((pcsTo x.f0 S p q r u S.length).map pcv)) V := by
    intro V g2 g32 g33 g34 g3 g4 g7
    refine sx_count S.length (fun n V => V 2 = .bool false ∧ V 32 = .lst 4 false (S.map cs) ∧ V 33 = i S.length ∧ V 3 = .ptr [i x.f0, i x.f1, i x.f2, .str x.f3, .lst 2 x.nl (x.f4.map cp)] ∧ V 4 = .ptr [i p, i q, i r, i u] ∧ V 7 = .lst 2 false ((pcsTo x.f0 S p q r u n).map pcv) ∧ V 34 = i n) 0 (by omega) (by simp [g2, g32, g33, g34, g3, g4, g7, pcsTo]) ?_
    clear g2 g32 g33 g34 g3 g4 g7 V
    rintro n V hn ⟨g2, g32, g33, g3, g4, g7, g34⟩
    simp [sxa, sxb, sxc, Ex.ok, Ex.val, ← wr_eq, g33, g34]
    refine CondS_d (fun hlt => ?_) (fun hge => ?_)
    · have hlt' : n < S.length := by omega
      have hw : wr .i64 ((n : Int) + 1) = n + 1 := wr_in (by omega) (by omega)
      have hln := pcsTo_len x.f0 S p q r u n
      have hc := f181 S[n].f0.f0 S[n].f0.f1 S[n].f1.f0 S[n].f1.f1 p q r u
      have hsg : sgD S n = S[n] := by simp [sgD, hlt']
      by_cases hm : wMB S[n].f0.f0 S[n].f0.f1 S[n].f1.f0 S[n].f1.f1 p q r u = true
      · have hs : pcsTo x.f0 S p q r u (n + 1) = pcsTo x.f0 S p q r u n ++ [(x.f0, (n : Int))] := by rw [pcsTo, hsg, if_pos hm]
        rw [hm] at hc
        repeat' (first | intro _ | (simp [sxa, sxb, sxc, Ex.ok, Ex.val, ← wr_eq, cs, pcv, *]) | refine CallS_i (hc) ?_ | refine CondS_d ?_ ?_ | refine CondS_b ?_ ?_ | refine GrdS_d ?_ ?_ | refine GrdS_b ?_ ?_ | refine OkS_i (by omega) ?_ | fail)
      · have hs : pcsTo x.f0 S p q r u (n + 1) = pcsTo x.f0 S p q r u n := by rw [pcsTo, hsg, if_neg hm, List.append_nil]
        rw [show wMB S[n].f0.f0 S[n].f0.f1 S[n].f1.f0 S[n].f1.f1 p q r u = false by simpa using hm] at hc
        repeat' (first | intro _ | (simp [sxa, sxb, sxc, Ex.ok, Ex.val, ← wr_eq, cs, pcv, *]) | refine CallS_i (hc) ?_ | refine CondS_d ?_ ?_ | refine CondS_b ?_ ?_ | refine GrdS_d ?_ ?_ | refine GrdS_b ?_ ?_ | refine OkS_i (by omega) ?_ | fail)
    · have : n = S.length := by omega
      subst this
      repeat' (first | intro _ | (simp [sxa, sxb, sxc, Ex.ok, Ex.val, ← wr_eq, *]) | refine CondS_d ?_ ?_ | refine CondS_b ?_ ?_ | refine GrdS_d ?_ ?_ | refine GrdS_b ?_ ?_ | refine OkS_i (by omega) ?_ | fail)
  by_cases hk1 : x.f1 = 1
  · obtain ⟨hl, hc⟩ := hcont hk1
    have hne : ¬ x.f4 = [] := fun h => by rw [h] at hl; cases hl
    rw [hk1] at hparts
    repeat' (first | intro _ | (simp [sxa, sxb, sxc, Ex.ok, Ex.val, ← wr_eq, cp, *]) | refine CallS_i (hc) ?_ | refine CallS_i (hparts) ?_ | refine CondS_d ?_ ?_ | refine CondS_b ?_ ?_ | refine GrdS_d ?_ ?_ | refine GrdS_b ?_ ?_ | refine OkS_i (by omega) ?_ | fail)
    refine sx_mono _ _ _ _ ?_ (lp _ (by simp [sxa, sxb, sxc, Ex.ok, Ex.val, ← wr_eq, hk1]) (by simp [sxa, sxb, sxc, Ex.ok, Ex.val, ← wr_eq, hk1]) (by simp [sxa, sxb, sxc, Ex.ok, Ex.val, ← wr_eq, hk1]) (by simp [sxa, sxb, sxc, Ex.ok, Ex.val, ← wr_eq, hk1]) (by simp [sxa, sxb, sxc, Ex.ok, Ex.val, ← wr_eq, hk1]) (by simp [sxa, sxb, sxc, Ex.ok, Ex.val, ← wr_eq, hk1]) (by simp [sxa, sxb, sxc, Ex.ok, Ex.val, ← wr_eq, hk1]))
    rintro y V' ⟨rfl, g7⟩
    repeat' (first | intro _ | (simp [sxa, sxb, sxc, Ex.ok, Ex.val, ← wr_eq, *]) | refine CondS_d ?_ ?_ | refine CondS_b ?_ ?_ | refine GrdS_d ?_ ?_ | refine GrdS_b ?_ ?_ | refine OkS_i (by omega) ?_ | fail)
  · repeat' (first | intro _ | (simp [sxa, sxb, sxc, Ex.ok, Ex.val, ← wr_eq, *]) | refine CallS_i (hparts) ?_ | refine CondS_d ?_ ?_ | refine CondS_b ?_ ?_ | refine GrdS_d ?_ ?_ | refine GrdS_b ?_ ?_ | refine OkS_i (by omega) ?_ | fail)
    refine sx_mono _ _ _ _ ?_ (lp _ (by simp [sxa, sxb, sxc, Ex.ok, Ex.val, ← wr_eq]) (by simp [sxa, sxb, sxc, Ex.ok, Ex.val, ← wr_eq]) (by simp [sxa, sxb, sxc, Ex.ok, Ex.val, ← wr_eq]) (by simp [sxa, sxb, sxc, Ex.ok, Ex.val, ← wr_eq]) (by simp [sxa, sxb, sxc, Ex.ok, Ex.val, ← wr_eq]) (by simp [sxa, sxb, sxc, Ex.ok, Ex.val, ← wr_eq]) (by simp [sxa, sxb, sxc, Ex.ok, Ex.val, ← wr_eq]))
    rintro y V' ⟨rfl, g7⟩
    repeat' (first | intro _ | (simp [sxa, sxb, sxc, Ex.ok, Ex.val, ← wr_eq, *]) | refine CondS_d ?_ ?_ | refine CondS_b ?_ ?_ | refine GrdS_d ?_ ?_ | refine GrdS_b ?_ ?_ | refine OkS_i (by omega) ?_ | fail)
/-! the tiles that a feature touches -/
def tbb (n : Nat) : Bx := ⟨(n : Int) % 21 * 10, (n : Int) / 21 * 10, cap2 ((n : Int) % 21 * 10 + 10), cap2 ((n : Int) / 21 * 10 + 10)⟩
theorem tbox_tbb {n : Nat} (h : n ≤ 440) : tbox n = [i (tbb n).f0, i (tbb n).f1, i (tbb n).f2, i (tbb n).f3] := by
  unfold tbox; rw [if_pos (by omega)]; rfl
def tlTo (x : Ft) : Nat → List Int
  | 0 => []
  | n + 1 => tlTo x n ++ (if 0 < (wPcs x (wParts x) (tbb n).f0 (tbb n).f1 (tbb n).f2 (tbb n).f3).length then [(n : Int)] else [])
theorem tlTo_len (x : Ft) (n : Nat) : (tlTo x n).length ≤ n := by
  induction n with
  | zero => simp [tlTo]
  | succ n ih => unfold tlTo; rw [List.length_append]; split <;> simp <;> omega
def wTiles (x : Ft) : List Int := if wFeat x = true then tlTo x 441 else []
theorem wTiles_len (x : Ft) : (wTiles x).length ≤ 441 := by
  unfold wTiles
  split
  · exact tlTo_len x 441
  · simp
theorem wPcs_len (x : Ft) (S : List Sg) (p q r u : Int) : (wPcs x S p q r u).length ≤ S.length + 1 := by
  unfold wPcs
  split
  · simp
  · have := pcsTo_len x.f0 S p q r u S.length; omega
theorem wFeat_one {x : Ft} (h : wFeat x = true) (h1 : x.f1 = 1) : 0 < x.f4.length := by
  unfold wFeat wShape at h
  rw [if_pos h1] at h
  simp at h
  omega
theorem f125 (x : Ft) (hx : x.okay) : Fn Tryz.prog 125 true [.agg (ft x)] (.lst 1 false ((wTiles x).map fun m => [i m])) := by
  have hf := f115 x hx
  have hp := f160 x hx
  have hpl := wParts_len x
  unfold wTiles
  have hft : ft x = [i x.f0, i x.f1, i x.f2, .str x.f3, .lst 2 x.nl (x.f4.map cp)] := rfl
  rw [hft] at hf hp ⊢
  refine Fn.by_sx hX (by kernel_rfl) c125 (by kernel_rfl) (by rfl) ?_
  simp [i125, sxa, sxb, sxc, Ex.ok, Ex.val, ← wr_eq]
  by_cases h : wFeat x = true
  case neg =>
    rw [if_neg h]
    rw [show wFeat x = false by simpa using h] at hf
    repeat' (first | intro _ | (simp [sxa, sxb, sxc, Ex.ok, Ex.val, ← wr_eq, *]) | refine CallS_i (hf) ?_ | refine CondS_d ?_ ?_ | refine CondS_b ?_ ?_ | refine GrdS_d ?_ ?_ | refine GrdS_b ?_ ?_ | refine OkS_i (by omega) ?_ | fail)
  rw [if_pos h]
  rw [h] at hf
  repeat' (first | intro _ | (simp [sxa, sxb, sxc, Ex.ok, Ex.val, ← wr_eq, *]) | refine CallS_i (hf) ?_ | refine CallS_i (hp) ?_ | refine CondS_d ?_ ?_ | refine CondS_b ?_ ?_ | refine GrdS_d ?_ ?_ | refine GrdS_b ?_ ?_ | refine OkS_i (by omega) ?_ | fail)
  refine sx_count 441 (fun n V => V 1 = .ptr [i x.f0, i x.f1, i x.f2, .str x.f3, .lst 2 x.nl (x.f4.map cp)] ∧ V 4 = .lst 4 false ((wParts x).map cs) ∧ V 5 = i n ∧ V 3 = .lst 1 false ((tlTo x n).map fun m => [i m])) 0 (by omega) (by simp [sxa, sxb, sxc, Ex.ok, Ex.val, ← wr_eq, tlTo]) ?_
  rintro n V hn ⟨g1, g4, g5, g3⟩
  simp [sxa, sxb, sxc, Ex.ok, Ex.val, ← wr_eq, g5]
  refine CondS_d (fun hlt => ?_) (fun hge => ?_)
  · have hlt' : n < 441 := by omega
    have hw : wr .i64 ((n : Int) + 1) = n + 1 := wr_in (by omega) (by omega)
    have ht := f161 (n : Int)
    rw [tbox_tbb (by omega)] at ht
    have hln := tlTo_len x n
    have hc := f162 x (wParts x) false (tbb n).f0 (tbb n).f1 (tbb n).f2 (tbb n).f3 (by omega) (wFeat_one h)
    rw [hft] at hc
    have hwl := wPcs_len x (wParts x) (tbb n).f0 (tbb n).f1 (tbb n).f2 (tbb n).f3
    have hs : tlTo x (n + 1) = tlTo x n ++ (if 0 < (wPcs x (wParts x) (tbb n).f0 (tbb n).f1 (tbb n).f2 (tbb n).f3).length then [(n : Int)] else []) := rfl
    obtain ⟨P, hP⟩ : ∃ P, wPcs x (wParts x) (tbb n).f0 (tbb n).f1 (tbb n).f2 (tbb n).f3 = P := ⟨_, rfl⟩
    rw [hP] at hc hwl hs
    obtain ⟨⟨b0, b1, b2, b3⟩, hb⟩ : ∃ b, tbb n = b := ⟨_, rfl⟩
    rw [hb] at ht hc
    clear hb hP
    simp only at ht hc
    by_cases hp0 : 0 < P.length
    · rw [if_pos hp0] at hs
      have hne : ¬ P = [] := fun h => by rw [h] at hp0; cases hp0
      repeat' (first | intro _ | (simp [sxa, sxb, sxc, Ex.ok, Ex.val, ← wr_eq, *]) | refine CallS_i (ht) ?_ | refine CallS_i (hc) ?_ | refine CondS_d ?_ ?_ | refine CondS_b ?_ ?_ | refine GrdS_d ?_ ?_ | refine GrdS_b ?_ ?_ | refine OkS_i (by omega) ?_ | fail)
    · rw [if_neg hp0, List.append_nil] at hs
      have hne : P = [] := List.length_eq_zero_iff.1 (by omega)
      subst hne
      repeat' (first | intro _ | (simp [sxa, sxb, sxc, Ex.ok, Ex.val, ← wr_eq, *]) | refine CallS_i (ht) ?_ | refine CallS_i (hc) ?_ | refine CondS_d ?_ ?_ | refine CondS_b ?_ ?_ | refine GrdS_d ?_ ?_ | refine GrdS_b ?_ ?_ | refine OkS_i (by omega) ?_ | fail)
  · have : n = 441 := by omega
    subst this
    repeat' (first | intro _ | (simp [sxa, sxb, sxc, Ex.ok, Ex.val, ← wr_eq, *]) | refine CondS_d ?_ ?_ | refine CondS_b ?_ ?_ | refine GrdS_d ?_ ?_ | refine GrdS_b ?_ ?_ | refine OkS_i (by omega) ?_ | fail)
theorem f128 (x : Ft) (hx : x.okay) : Fn Tryz.prog 128 true [.agg (ft x)] (.lst 1 false ((wTiles x).map fun m => [i m])) := by
  have hf := f62 x hx
  have hpl := wParts_len x
  unfold wTiles
  have hft : ft x = [i x.f0, i x.f1, i x.f2, .str x.f3, .lst 2 x.nl (x.f4.map cp)] := rfl
  rw [hft] at hf ⊢
  refine Fn.by_sx hX (by kernel_rfl) c128 (by kernel_rfl) (by rfl) ?_
  simp [i128, sxa, sxb, sxc, Ex.ok, Ex.val, ← wr_eq]
  by_cases h : wFeat x = true
  case neg =>
    rw [if_neg h]
    rw [show wFeat x = false by simpa using h] at hf
    repeat' (first | intro _ | (simp [sxa, sxb, sxc, Ex.ok, Ex.val, ← wr_eq, *]) | refine CallS_i (hf) ?_ | refine CondS_d ?_ ?_ | refine CondS_b ?_ ?_ | refine GrdS_d ?_ ?_ | refine GrdS_b ?_ ?_ | refine OkS_i (by omega) ?_ | fail)
  rw [if_pos h]
  rw [h] at hf
  repeat' (first | intro _ | (simp [sxa, sxb, sxc, Ex.ok, Ex.val, ← wr_eq, *]) | refine CallS_i (hf) ?_ | refine CondS_d ?_ ?_ | refine CondS_b ?_ ?_ | refine GrdS_d ?_ ?_ | refine GrdS_b ?_ ?_ | refine OkS_i (by omega) ?_ | fail)
  refine sx_count 441 (fun n V => V 1 = .ptr [i x.f0, i x.f1, i x.f2, .str x.f3, .lst 2 x.nl (x.f4.map cp)] ∧ V 12 = i n ∧ V 3 = .lst 1 false ((tlTo x n).map fun m => [i m])) 0 (by omega) (by simp [sxa, sxb, sxc, Ex.ok, Ex.val, ← wr_eq, tlTo]) ?_
  rintro n V hn ⟨g1, g5, g3⟩
  simp [sxa, sxb, sxc, Ex.ok, Ex.val, ← wr_eq, g5]
  refine CondS_d (fun hlt => ?_) (fun hge => ?_)
  · have hlt' : n < 441 := by omega
    have hw : wr .i64 ((n : Int) + 1) = n + 1 := wr_in (by omega) (by omega)
    have ht := f109 (n : Int)
    rw [tbox_tbb (by omega)] at ht
    have hln := tlTo_len x n
    have hc := f143 x (tbb n).f0 (tbb n).f1 (tbb n).f2 (tbb n).f3 hx (wFeat_one h)
    rw [hft] at hc
    have hwl := wPcs_len x (wParts x) (tbb n).f0 (tbb n).f1 (tbb n).f2 (tbb n).f3
    have hs : tlTo x (n + 1) = tlTo x n ++ (if 0 < (wPcs x (wParts x) (tbb n).f0 (tbb n).f1 (tbb n).f2 (tbb n).f3).length then [(n : Int)] else []) := rfl
    obtain ⟨P, hP⟩ : ∃ P, wPcs x (wParts x) (tbb n).f0 (tbb n).f1 (tbb n).f2 (tbb n).f3 = P := ⟨_, rfl⟩
    rw [hP] at hc hwl hs
    obtain ⟨⟨b0, b1, b2, b3⟩, hb⟩ : ∃ b, tbb n = b := ⟨_, rfl⟩
    rw [hb] at ht hc
    clear hb hP
    simp only at ht hc
    by_cases hp0 : 0 < P.length
    · rw [if_pos hp0] at hs
      have hne : ¬ P = [] := fun h => by rw [h] at hp0; cases hp0
      repeat' (first | intro _ | (simp [sxa, sxb, sxc, Ex.ok, Ex.val, ← wr_eq, *]) | refine CallS_i (ht) ?_ | refine CallS_i (hc) ?_ | refine CondS_d ?_ ?_ | refine CondS_b ?_ ?_ | refine GrdS_d ?_ ?_ | refine GrdS_b ?_ ?_ | refine OkS_i (by omega) ?_ | fail)
    · rw [if_neg hp0, List.append_nil] at hs
      have hne : P = [] := List.length_eq_zero_iff.1 (by omega)
      subst hne
      repeat' (first | intro _ | (simp [sxa, sxb, sxc, Ex.ok, Ex.val, ← wr_eq, *]) | refine CallS_i (ht) ?_ | refine CallS_i (hc) ?_ | refine CondS_d ?_ ?_ | refine CondS_b ?_ ?_ | refine GrdS_d ?_ ?_ | refine GrdS_b ?_ ?_ | refine OkS_i (by omega) ?_ | fail)
  · have : n = 441 := by omega
    subst this
    repeat' (first | intro _ | (simp [sxa, sxb, sxc, Ex.ok, Ex.val, ← wr_eq, *]) | refine CondS_d ?_ ?_ | refine CondS_b ?_ ?_ | refine GrdS_d ?_ ?_ | refine GrdS_b ?_ ?_ | refine OkS_i (by omega) ?_ | fail)
end Go.Eng
namespace Go.Eng
open Go Go.Proofs Geo
set_option linter.unusedSimpArgs false
set_option linter.unusedVariables false
set_option maxRecDepth 20000
set_option maxHeartbeats 1000000

/-! tiles that change: walks. WRITES -/
def hasAt (b : List Ft) (x : Ft) (j : Nat) : Bool := !wEqF (b.getD j ftD) x
def hasF (b : List Ft) (x : Ft) : Bool := !allTo (hasAt b x) b.length
theorem f124 (l : List Ft) (nl : Bool) (x : Ft) (hl : l.length ≤ 1048576) (hb : ∀ y ∈ l, y.f4.length ≤ 1000000000000) : Fn Tryz.prog 124 false [.lst 5 nl (l.map ft), .agg (ft x)] (.bool (hasF l x)) := by
  refine Fn.by_sx hX (by kernel_rfl) c124 (by kernel_rfl) (by rfl) ?_
  simp [i124, sxa, sxb, sxc, Ex.ok, Ex.val, ← wr_eq]
  repeat' (first | intro _ | (simp [sxa, sxb, sxc, Ex.ok, Ex.val, ← wr_eq, ft, *]) | refine CondS_d ?_ ?_ | refine CondS_b ?_ ?_ | refine GrdS_d ?_ ?_ | refine GrdS_b ?_ ?_ | refine OkS_i (by omega) ?_ | fail)
  refine sx_count l.length (fun n V => V 0 = .lst 5 nl (l.map ft) ∧ V 3 = .ptr (ft x) ∧ V 5 = i n ∧ allTo (hasAt l x) n = true) 0 (by omega) (by simp [sxa, sxb, sxc, Ex.ok, Ex.val, ← wr_eq, allTo_zero, ft]) ?_
  rintro n V hn ⟨g0, g3, g5, ha⟩
  have hw : wr .i64 ((n : Int) + 1) = n + 1 := wr_in (by omega) (by omega)
  rcases Nat.lt_or_ge n l.length with hlt' | hge
  · have hI : (n : Int) < l.length := by omega
    have hs := allTo_succ (ok := hasAt l x) (n := n)
    rw [ha] at hs
    have hx := hb _ (List.getElem_mem hlt')
    have hc := f159 l[n] x (by omega)
    have hat : hasAt l x n = !wEqF l[n] x := by simp [hasAt, hlt']
    rw [hat] at hs
    cases hq : wEqF l[n] x with
    | true =>
      have hm : hasF l x = true := by unfold hasF; rw [allTo_bad hlt' (by rw [hat, hq]; rfl)]; rfl
      rw [hm]
      rw [hq] at hc
      clear ha hs hb hx hat hm
      unfold ft at hc g3
      repeat' (first | intro _ | (simp [sxa, sxb, sxc, Ex.ok, Ex.val, ← wr_eq, ft, *]) | refine CallS_i (hc) ?_ | refine CondS_d ?_ ?_ | refine CondS_b ?_ ?_ | refine GrdS_d ?_ ?_ | refine GrdS_b ?_ ?_ | refine OkS_i (by omega) ?_ | fail)
    | false =>
      rw [hq] at hc hs
      clear ha hb hx hat
      unfold ft at hc g3
      repeat' (first | intro _ | (simp [sxa, sxb, sxc, Ex.ok, Ex.val, ← wr_eq, ft, *]) | refine CallS_i (hc) ?_ | refine CondS_d ?_ ?_ | refine CondS_b ?_ ?_ | refine GrdS_d ?_ ?_ | refine GrdS_b ?_ ?_ | refine OkS_i (by omega) ?_ | fail)
      all_goals simp_all
  · have : n = l.length := by omega
    subst this
    have hm : hasF l x = false := by unfold hasF; rw [ha]; rfl
    rw [hm]
    clear ha hb hm
    repeat' (first | intro _ | (simp [sxa, sxb, sxc, Ex.ok, Ex.val, ← wr_eq, *]) | refine CondS_d ?_ ?_ | refine CondS_b ?_ ?_ | refine GrdS_d ?_ ?_ | refine GrdS_b ?_ ?_ | refine OkS_i (by omega) ?_ | fail)
/-- all of a list put -/
def paF (out t : List Int) : Nat → List Int
  | 0 => out
  | n + 1 => putI (paF out t n) (t.getD n 0)
def paL (out t : List Int) : List Int := paF out t t.length
theorem paF_len (out t : List Int) : ∀ n, (paF out t n).length ≤ out.length + n
  | 0 => by simp [paF]
  | n + 1 => by
    have := paF_len out t n
    have := putI_len (l := paF out t n) (n := t.getD n 0)
    unfold paF
    omega
def adF (out : List Int) (a b : List Ft) : Nat → List Int
  | 0 => out
  | n + 1 => if hasF b (a.getD n ftD) = true then adF out a b n else paL (adF out a b n) (wTiles (a.getD n ftD))
theorem adF_len (out : List Int) (a b : List Ft) : ∀ n, (adF out a b n).length ≤ out.length + 441 * n
  | 0 => by simp [adF]
  | n + 1 => by
    have h1 := adF_len out a b n
    unfold adF
    split
    · omega
    · have := paF_len (adF out a b n) (wTiles (a.getD n ftD)) (wTiles (a.getD n ftD)).length
      have := wTiles_len (a.getD n ftD)
      unfold paL
      omega
theorem y87 (out : List Int) (a b : List Ft) (n1 n2 : Bool) (ha : a.length ≤ 16) (ho : out.length ≤ 100000) (hb : b.length ≤ 1048576) (hxa : ∀ x ∈ a, x.okay) (hxb : ∀ x ∈ b, x.f4.length ≤ 1000000000000) :
    FnY Tryz.prog 87 (.lst 1 false (out.map fun m => [i m])) [.lst 5 n1 (a.map ft), .lst 5 n2 (b.map ft)] (.lst 1 false ((adF out a b a.length).map fun m => [i m])) := by
  refine FnY.by_sx hX (by kernel_rfl) c87 (by rfl) ?_
  simp [i87, sxa, sxb, sxc, Ex.ok, Ex.val, ← wr_eq]
  refine sx_count a.length (fun n V => V 0 = .lst 1 false ((adF out a b n).map fun m => [i m]) ∧ V 1 = .lst 5 n1 (a.map ft) ∧ V 2 = .lst 5 n2 (b.map ft) ∧ V 7 = i n) 0 (by omega) (by simp [sxa, sxb, sxc, Ex.ok, Ex.val, ← wr_eq, adF]) ?_
  rintro n V hn ⟨g0, g1, g2, g7⟩
  have hw : wr .i64 ((n : Int) + 1) = n + 1 := wr_in (by omega) (by omega)
  rcases Nat.lt_or_ge n a.length with hlt | hge
  · have hI : (n : Int) < a.length := by omega
    have hs : adF out a b (n + 1) = if hasF b a[n] = true then adF out a b n else paL (adF out a b n) (wTiles a[n]) := by
      show (if hasF b (a.getD n ftD) = true then _ else _) = _
      rw [show a.getD n ftD = a[n] by simp [hlt]]
    have hlen := adF_len out a b n
    have cH := f124 b n2 a[n] hb hxb
    have cT := f125 a[n] (hxa _ (List.getElem_mem hlt))
    have hTl := wTiles_len a[n]
    obtain ⟨A, hA⟩ : ∃ A, adF out a b n = A := ⟨_, rfl⟩
    obtain ⟨A2, hA2⟩ : ∃ A, adF out a b (n + 1) = A := ⟨_, rfl⟩
    obtain ⟨T, hT⟩ : ∃ T, wTiles a[n] = T := ⟨_, rfl⟩
    rw [hA, hA2, hT] at hs
    rw [hA] at g0 hlen
    rw [hT] at cT hTl
    rw [hA2]
    clear hA hA2 hT hxa hxb
    unfold ft at cH cT
    cases hq : hasF b a[n] with
    | true =>
      rw [hq] at cH hs
      simp at hs
      subst hs
      clear hq
      repeat' (first | intro _ | (simp [sxa, sxb, sxc, Ex.ok, Ex.val, ← wr_eq, ft, *]) | refine CallS_i (cH) ?_ | refine CallS_i (cT) ?_ | refine CondS_d ?_ ?_ | refine CondS_b ?_ ?_ | refine GrdS_d ?_ ?_ | refine GrdS_b ?_ ?_ | refine OkS_i (by omega) ?_ | fail)
    | false =>
      rw [hq] at cH hs
      simp at hs
      clear hq
      repeat' (first | intro _ | (simp [sxa, sxb, sxc, Ex.ok, Ex.val, ← wr_eq, ft, *]) | refine CallS_i (cH) ?_ | refine CallS_i (cT) ?_ | refine CondS_d ?_ ?_ | refine CondS_b ?_ ?_ | refine GrdS_d ?_ ?_ | refine GrdS_b ?_ ?_ | refine OkS_i (by omega) ?_ | fail)
      clear cH cT
      refine sx_count T.length (fun m V => V 0 = .lst 1 false ((paF A T m).map fun m => [i m]) ∧ V 1 = .lst 5 n1 (a.map ft) ∧ V 2 = .lst 5 n2 (b.map ft) ∧ V 7 = i n ∧ V 8 = .lst 1 false (T.map fun m => [i m]) ∧ V 9 = i m) 0 (by omega) (by simp [sxa, sxb, sxc, Ex.ok, Ex.val, ← wr_eq, paF]; simp_all) ?_
      clear g0 g1 g2 g7 V
      rintro m V hm ⟨g0, g1, g2, g7, g8, g9⟩
      have hw2 : wr .i64 ((m : Int) + 1) = m + 1 := wr_in (by omega) (by omega)
      rcases Nat.lt_or_ge m T.length with hlt2 | hge2
      · have hI2 : (m : Int) < T.length := by omega
        have hs2 : paF A T (m + 1) = putI (paF A T m) T[m] := by show putI _ _ = _; simp [hlt2]
        have hl2 := paF_len A T m
        have cP := f126 (paF A T m) false T[m] (by omega)
        rw [← hs2] at cP
        obtain ⟨P, hP⟩ : ∃ P, paF A T m = P := ⟨_, rfl⟩
        obtain ⟨P2, hP2⟩ : ∃ P, paF A T (m + 1) = P := ⟨_, rfl⟩
        rw [hP] at g0 cP
        rw [hP2] at cP ⊢
        clear hP hP2 hs2 hl2 hs
        repeat' (first | intro _ | (simp [sxa, sxb, sxc, Ex.ok, Ex.val, ← wr_eq, *]) | refine CallS_i (cP) ?_ | refine CondS_d ?_ ?_ | refine CondS_b ?_ ?_ | refine GrdS_d ?_ ?_ | refine GrdS_b ?_ ?_ | refine OkS_i (by omega) ?_ | fail)
        all_goals simp_all
      · have : m = T.length := by omega
        subst this
        have hs : A2 = paF A T T.length := hs
        rw [← hs] at g0
        clear hs
        repeat' (first | intro _ | (simp [sxa, sxb, sxc, Ex.ok, Ex.val, ← wr_eq, *]) | refine CondS_d ?_ ?_ | refine CondS_b ?_ ?_ | refine GrdS_d ?_ ?_ | refine GrdS_b ?_ ?_ | refine OkS_i (by omega) ?_ | fail)
        all_goals simp_all
  · have : n = a.length := by omega
    subst this
    repeat' (first | intro _ | (simp [sxa, sxb, sxc, Ex.ok, Ex.val, ← wr_eq, *]) | refine CondS_d ?_ ?_ | refine CondS_b ?_ ?_ | refine GrdS_d ?_ ?_ | refine GrdS_b ?_ ?_ | refine OkS_i (by omega) ?_ | fail)
end Go.Eng
namespace Go.Eng
open Go Go.Proofs Geo Go.RowKit
set_option linter.unusedSimpArgs false
set_option linter.unusedVariables false
set_option maxRecDepth 100000
set_option maxHeartbeats 4000000

/-! the tiles that change between two sources, walked. WRITES -/
theorem below_keeps {B : Nat} {w w' : World} (h : Below B w w') {F : Foot} (hF : ∀ g ∈ F, g.1 < B) : Keeps w w' F := fun e he =>
  ⟨fun o _ => by simp only [World.cell?, h.block e.1 (hF e he)], fun arr ty fr hh => ⟨arr, fr, (h.block e.1 (hF e he)).trans hh, rfl⟩⟩
theorem below_inv {P : Program} {w w' : World} (h : Below w.heap.size w w') (hi : Inv P w) : Inv P w' :=
  (InvB.keep w w' (fun k hk => h.block k (by simp at hk; omega)) (InvB.of hi)).1
theorem below_weak {B C : Nat} {w w' : World} (h : Below C w w') (hB : B ≤ C) : Below B w w' := ⟨h.os, h.tape, h.output, h.size, fun k hk => h.block k (by omega)⟩
theorem ch_nil {w w1 : World} {T : Nat} {G : Foot} (b : Below w.heap.size w w1) : ∃ x F', Ending.returned (Value.slice (some ⟨w1.heap.size, 0, none⟩) 0 0) = .returned x ∧ Rep (w1.alloc (.cells #[] T)) (.lst 1 false (([] : List Int).map fun m => [i m])) x F' ∧
    Below w.heap.size w (w1.alloc (.cells #[] T)) ∧ (∀ g ∈ F', g.1 < (w1.alloc (.cells #[] T)).heap.size) ∧
    if True then (∀ g ∈ F', w.heap.size ≤ g.1 ∧ Unfrozen (w1.alloc (.cells #[] T)) g.1) ∧ (F'.map (·.1)).Nodup else ∀ g ∈ F', w.heap.size ≤ g.1 ∨ ∃ g' ∈ G, g'.1 = g.1 ∧ g.2 ≤ g'.2 :=
  ⟨_, [], rfl, .emp 1 _, b.trans (below_weak ⟨rfl, rfl, rfl, by rw [alloc_size]; omega, fun k hk => alloc_blocks _ _ k hk⟩ b.size), by simp, by simp⟩
def chS (a b : List Ft) : List Int := if (wSrc a && wSrc b) = true then adF (adF [] a b a.length) b a b.length else []
theorem f41 (a b : List Ft) (n1 n2 : Bool) (ha : a.length ≤ 1048576) (hb : b.length ≤ 1048576) (hxa : ∀ x ∈ a, x.okay) (hxb : ∀ x ∈ b, x.okay) :
    Fn Tryz.prog 41 true [.lst 5 n1 (a.map ft), .lst 5 n2 (b.map ft)] (.lst 1 false ((chS a b).map fun m => [i m])) := by
  have cA := f69 a n1 (by omega) hxa
  have cB := f69 b n2 (by omega) hxb
  have hcs : chS a b = if (wSrc a && wSrc b) = true then adF (adF [] a b a.length) b a b.length else [] := rfl
  obtain ⟨Z, hZ⟩ : ∃ Z, chS a b = Z := ⟨_, rfl⟩
  rw [hZ] at hcs ⊢
  refine ⟨by kernel_rfl, ?_⟩
  intro w xs Fs hi hr hlt
  obtain ⟨xa, r1, Fa, F1, rfl, rfl, hra, hr1⟩ := hr.cons_inv
  obtain ⟨xb, r2, Fb, F2, rfl, rfl, hrb, hr2⟩ := hr1.cons_inv
  obtain ⟨rfl, rfl⟩ := hr2.nil_inv
  clear hr hr1 hr2
  simp only [List.append_nil, List.mem_append] at hlt
  have hla : ∀ g ∈ Fa, g.1 < w.heap.size := fun g hg => hlt g (.inl hg)
  have hlb : ∀ g ∈ Fb, g.1 < w.heap.size := fun g hg => hlt g (.inr hg)
  clear hlt
  go_enter Tryz.func41, Tryz.ntmps41
  go_wp
  refine (cA.2 w [xa] Fa hi (RepL.one hra) hla).mono ?_
  rintro e w1 ⟨x, F', rfl, hx, b1, _, _⟩
  obtain ⟨rfl, rfl⟩ := hx.bool_inv
  clear hx
  have i1 := below_inv b1 hi
  replace hra := hra.keep (below_keeps b1 hla)
  replace hrb := hrb.keep (below_keeps b1 hlb)
  replace hla : ∀ g ∈ Fa, g.1 < w1.heap.size := fun g hg => Nat.lt_of_lt_of_le (hla g hg) b1.size
  replace hlb : ∀ g ∈ Fb, g.1 < w1.heap.size := fun g hg => Nat.lt_of_lt_of_le (hlb g hg) b1.size
  dsimp only
  cases hA : wSrc a with
  | false =>
    rw [hA] at hcs
    simp only [Bool.false_and, Bool.false_eq_true, if_false] at hcs
    subst hcs
    clear hra hrb cA cB hxa hxb
    go_wp
    go_ret
    exact ch_nil b1
  | true =>
  rw [hA] at hcs
  go_wp
  refine (cB.2 w1 [xb] Fb i1 (RepL.one hrb) hlb).mono ?_
  rintro e w2 ⟨x, F', rfl, hx, b2, _, _⟩
  obtain ⟨rfl, rfl⟩ := hx.bool_inv
  clear hx
  have i2 := below_inv b2 i1
  replace hra := hra.keep (below_keeps b2 hla)
  replace hrb := hrb.keep (below_keeps b2 hlb)
  replace hla : ∀ g ∈ Fa, g.1 < w2.heap.size := fun g hg => Nat.lt_of_lt_of_le (hla g hg) b2.size
  replace hlb : ∀ g ∈ Fb, g.1 < w2.heap.size := fun g hg => Nat.lt_of_lt_of_le (hlb g hg) b2.size
  replace b2 := b1.trans (below_weak b2 b1.size)
  clear b1 i1
  dsimp only
  cases hB : wSrc b with
  | false =>
    rw [hB] at hcs
    simp only [Bool.true_and, Bool.false_eq_true, if_false] at hcs
    subst hcs
    clear hra hrb cA cB hxa hxb
    go_wp
    go_ret
    exact ch_nil b2
  | true =>
  rw [hB] at hcs
  simp only [Bool.true_and, if_true] at hcs
  have la : a.length ≤ 16 := (wSrc_iff.1 hA).1
  have lb : b.length ≤ 16 := (wSrc_iff.1 hB).1
  go_wp
  have bz : Below w2.heap.size w2 (w2.alloc (.cells #[] 3)) := ⟨rfl, rfl, rfl, by rw [alloc_size]; omega, fun k hk => alloc_blocks _ _ k hk⟩
  have i3 := below_inv bz i2
  replace hra := hra.keep (below_keeps bz hla)
  replace hrb := hrb.keep (below_keeps bz hlb)
  replace hla : ∀ g ∈ Fa, g.1 < (w2.alloc (.cells #[] 3)).heap.size := fun g hg => Nat.lt_of_lt_of_le (hla g hg) bz.size
  replace hlb : ∀ g ∈ Fb, g.1 < (w2.alloc (.cells #[] 3)).heap.size := fun g hg => Nat.lt_of_lt_of_le (hlb g hg) bz.size
  have b3 := b2.trans (below_weak bz b2.size)
  clear bz i2 cA cB
  have y1 := (y87 [] a b n1 n2 la (by simp) hb hxa (fun x hx => (hxb x hx).2)).2 (w2.alloc (.cells #[] 3)) (.slice (some ⟨w2.heap.size, 0, none⟩) 0 0) [] [xa, xb] (Fa ++ Fb) i3 (by simp) (.emp 1 _) (by simp) (by simp) (RepL.append (RepL.one hra) (RepL.one hrb))
    (fun g hg => ⟨by rcases List.mem_append.1 hg with h | h; exact hla g h; exact hlb g h, by simp⟩)
  generalize w2.alloc (.cells #[] 3) = w3 at *
  refine y1.mono ?_
  clear y1
  rintro e w4 ⟨x1, F1, rfl, h1, ⟨o1, o2, o3, o4, o5⟩, f1, nd1⟩
  have b4 : Below w3.heap.size w3 w4 := ⟨o1, o2, o3, o4, fun k hk => o5 k hk (by simp)⟩
  have i4 := below_inv b4 i3
  replace hra := hra.keep (below_keeps b4 hla)
  replace hrb := hrb.keep (below_keeps b4 hlb)
  have f1n : ∀ g ∈ F1, w3.heap.size ≤ g.1 := fun g hg => by
    rcases (f1 g hg).2.2 with h | ⟨e, he, _⟩
    · exact h
    · cases he
  dsimp only
  go_wp
  refine ((y87 (adF [] a b a.length) b a n2 n1 lb (by have := adF_len [] a b a.length; simp at this; omega) ha hxb (fun x hx => (hxa x hx).2)).2 w4 x1 F1 [xb, xa] (Fb ++ Fa) i4
    (fun g hg e he hh => by have := (InvB.of i3).2 g hg; have := f1n e he; omega) h1 nd1 (fun g hg => ⟨(f1 g hg).1, (f1 g hg).2.1⟩) (RepL.append (RepL.one hrb) (RepL.one hra))
    (fun g hg => by
      have hg' : g.1 < w3.heap.size := by
        rcases List.mem_append.1 hg with h | h
        · exact hlb g h
        · exact hla g h
      exact ⟨Nat.lt_of_lt_of_le hg' b4.size, fun e he hh => by have := f1n e he; omega⟩)).mono ?_
  rintro e w5 ⟨x2, F2, rfl, h2, ⟨p1, p2, p3, p4, p5⟩, f2, nd2⟩
  rw [← hcs] at h2
  have b5 : Below w.heap.size w w5 := (b3.trans (below_weak b4 b3.size)).trans ⟨p1, p2, p3, p4, fun k hk => p5 k (Nat.lt_of_lt_of_le (Nat.lt_of_lt_of_le hk b3.size) b4.size) fun e he hh => by
    have := f1n e he
    have := b3.size
    omega⟩
  dsimp only
  go_wp
  go_ret
  refine ⟨x2, F2, rfl, h2, b5, fun g hg => (f2 g hg).1, ?_⟩
  rw [if_pos trivial]
  refine ⟨fun g hg => ⟨?_, (f2 g hg).2.1⟩, nd2⟩
  have := b3.size
  have := b4.size
  rcases (f2 g hg).2.2 with h | ⟨e, he, hh⟩
  · omega
  · have := f1n e he
    omega
end Go.Eng
namespace Go.Eng
open Go Go.Lib
set_option linter.unusedSimpArgs false
set_option linter.unusedVariables false

/-! what slices.Compact leaves of a sorted list; how many a list holds -/
section
variable {α : Type} [Inhabited α] [DecidableEq α]
theorem getB {d : List α} {k : Nat} (h : k < d.length) : d.toArray[k]! = d[k] := by simp [h]
theorem compactTo_mem (d : List α) : ∀ n, n ≤ d.length → ∀ x, x ∈ compactUpTo d.toArray n ↔ ∃ k, k < n ∧ d[k]? = some x := by
  intro n
  induction n with
  | zero => intro _ x; simp [compactUpTo]
  | succ n ih =>
    intro hn x
    have ih := ih (by omega)
    rw [compactUpTo_succ, List.mem_append, ih]
    have hg := getB (d := d) (k := n) (by omega)
    have hdn : d[n]? = some d[n] := List.getElem?_eq_getElem (by omega)
    constructor
    · rintro (⟨k, h1, h2⟩ | h)
      · exact ⟨k, by omega, h2⟩
      · by_cases hk : keeps d.toArray n = true
        · rw [if_pos hk] at h
          simp only [List.mem_singleton] at h
          exact ⟨n, by omega, by rw [h, hg, hdn]⟩
        · rw [if_neg hk] at h; cases h
    · rintro ⟨k, h1, h2⟩
      by_cases hkn : k < n
      · exact .inl ⟨k, hkn, h2⟩
      · obtain rfl : k = n := by omega
        rw [hdn] at h2
        simp only [Option.some.injEq] at h2
        by_cases hk : keeps d.toArray k = true
        · right; rw [if_pos hk, hg, h2]; simp
        · left
          have hk0 : 0 < k := by
            rcases Nat.eq_zero_or_pos k with h0 | h0
            · exfalso; apply hk; subst h0; simp [keeps]
            · exact h0
          have heq : d.toArray[k]! = d.toArray[k - 1]! := by
            by_cases hh : d.toArray[k]! = d.toArray[k - 1]!
            · exact hh
            · exact absurd (keeps_pos hh) hk
          rw [hg, getB (by omega), h2] at heq
          exact ⟨k - 1, by omega, by rw [List.getElem?_eq_getElem (by omega), ← heq]⟩
theorem compact_mem (d : List α) (x : α) : x ∈ compact d ↔ x ∈ d := by
  unfold compact
  rw [compactTo_mem d _ (Nat.le_refl _), List.mem_iff_getElem?]
  constructor
  · rintro ⟨k, _, h⟩; exact ⟨k, h⟩
  · rintro ⟨k, h⟩
    have hk : k < d.length := by
      rcases Nat.lt_or_ge k d.length with h0 | h0
      · exact h0
      · rw [List.getElem?_eq_none h0] at h; cases h
    exact ⟨k, hk, h⟩
theorem compactTo_pw {R : α → α → Prop} (anti : ∀ x y, R x y → R y x → x = y) {d : List α} (hs : d.Pairwise R) : ∀ n, n ≤ d.length → (compactUpTo d.toArray n).Pairwise fun x y => R x y ∧ x ≠ y := by
  intro n
  induction n with
  | zero => intro _; simp [compactUpTo]
  | succ n ih =>
    intro hn
    have ih := ih (by omega)
    rw [compactUpTo_succ, List.pairwise_append]
    refine ⟨ih, by split <;> simp, fun x hx y hy => ?_⟩
    by_cases hk : keeps d.toArray n = true
    case neg => rw [if_neg hk] at hy; cases hy
    rw [if_pos hk] at hy
    simp only [List.mem_singleton] at hy
    rw [getB (by omega)] at hy
    obtain ⟨k, h1, h2⟩ := (compactTo_mem d n (by omega) x).1 hx
    rw [List.getElem?_eq_getElem (by omega)] at h2
    simp only [Option.some.injEq] at h2
    rw [List.pairwise_iff_getElem] at hs
    have hR := hs k n (by omega) (by omega) h1
    subst hy
    rw [h2] at hR
    refine ⟨hR, fun heq => ?_⟩
    have hne : d[n] ≠ d[n - 1]'(by omega) := by
      simp only [keeps, decide_eq_true_eq] at hk
      rcases hk with h0 | h0
      · omega
      · rwa [getB (by omega), getB (by omega)] at h0
    by_cases hkl : k = n - 1
    · subst hkl
      exact hne (heq.symm.trans h2.symm)
    · have r1 := hs k (n - 1) (by omega) (by omega) (by omega)
      have r2 := hs (n - 1) n (by omega) (by omega) (by omega)
      rw [h2, heq] at r1
      exact hne (anti _ _ r1 r2)
theorem compact_pw {R : α → α → Prop} (anti : ∀ x y, R x y → R y x → x = y) {d : List α} (hs : d.Pairwise R) : (compact d).Pairwise fun x y => R x y ∧ x ≠ y := compactTo_pw anti hs _ (Nat.le_refl _)
end
theorem ints_sorted (l : List Int) : (l.mergeSort fun x y => decide (x ≤ y)).Pairwise fun x y => x ≤ y :=
  (List.pairwise_mergeSort (le := fun x y : Int => decide (x ≤ y)) (fun a b c h1 h2 => by simp only [decide_eq_true_eq] at *; omega) (fun a b => by simp only [Bool.or_eq_true, decide_eq_true_eq]; omega) l).imp fun h => of_decide_eq_true h
end Go.Eng
