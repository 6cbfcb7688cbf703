/- A part of the proof of a law's statement: for every input the law returns true and leaves its arguments as they were. No condition beyond the statement's own. What each function computes. -/
import Derived.WalkKit
import Derived.StillTailTactics
import Derived.Handy
import Derived.Maps.RangeRun
import Derived.Laws.AppendOwn
import Derived.Maps.AppendAt
import Derived.Test.YtmkhlnmkdgoihaaJi1
set_option linter.unusedVariables false
set_option linter.unusedSimpArgs false
set_option linter.unusedSectionVars false
set_option autoImplicit true
set_option relaxedAutoImplicit true
namespace Go.Eng
open Go
set_option linter.unusedSimpArgs false
set_option linter.unusedVariables false

structure Pt where
  f0 : Int
  f1 : Int
structure Sg where
  f0 : Pt
  f1 : Pt
/-! plain laws on numbers and lists -/
theorem wrap_id {x : Int} (h0 : -9223372036854775808 ≤ x) (h1 : x ≤ 9223372036854775807) : wr .i64 x = x := wr_in h0 h1
theorem wrap_down (i : Nat) (h : 0 < i) (hi : i ≤ 9223372036854775807) : wr .i64 ((i : Int) - 1) = ((i - 1 : Nat) : Int) := by rw [wr_in (by omega) (by omega)]; omega
namespace Geo
/-- the product that tells the side of p from a to b -/
def crs (ax ay bx by' px py : Int) : Int := (bx - ax) * (py - ay) - (by' - ay) * (px - ax)
theorem mul_pos_neg {a b : Int} (h : a * b < 0) : (0 < a ∧ b < 0) ∨ (a < 0 ∧ 0 < b) := by
  rcases Int.lt_trichotomy a 0 with ha | ha | ha
  · rcases Int.lt_trichotomy b 0 with hb | hb | hb
    · have := Int.mul_pos_of_neg_of_neg ha hb; omega
    · rw [hb] at h; omega
    · exact .inr ⟨ha, hb⟩
  · rw [ha] at h; omega
  · rcases Int.lt_trichotomy b 0 with hb | hb | hb
    · exact .inl ⟨ha, hb⟩
    · rw [hb] at h; omega
    · have := Int.mul_pos ha hb; omega
/-- weights: p, q positive; what lies at or below m is below what lies at or above M, if m < M -/
theorem weigh {p q r s x y z w m M : Int} (hp : 0 < p) (hq : 0 < q) (hr : 0 < r) (hs : 0 < s) (ht : p + q = r + s) (hx : x ≤ m) (hy : y ≤ m) (hz : M ≤ z) (hw : M ≤ w) (hm : m < M) : p * x + q * y < r * z + s * w := by
  have h1 : p * x ≤ p * m := Int.mul_le_mul_of_nonneg_left hx (by omega)
  have h2 : q * y ≤ q * m := Int.mul_le_mul_of_nonneg_left hy (by omega)
  have h3 : r * M ≤ r * z := Int.mul_le_mul_of_nonneg_left hz (by omega)
  have h4 : s * M ≤ s * w := Int.mul_le_mul_of_nonneg_left hw (by omega)
  have h5 : (p + q) * m < (p + q) * M := Int.mul_lt_mul_of_pos_left hm (by omega)
  have h6 : (p + q) * m = p * m + q * m := Int.add_mul ..
  have h7 : (p + q) * M = r * M + s * M := by rw [ht, Int.add_mul]
  omega
/-- Two segments of which each parts the ends of the other one: their X (or Y) are not apart. c, d: the sides of s's ends from t; a, b: those of t's ends from s. -/
theorem not_apart {a b c d x0 x1 z0 z1 : Int} (hab : a * b < 0) (hcd : c * d < 0) (hD : c - d = b - a) (hid : c * x1 - d * x0 = b * z0 - a * z1) {m M : Int} (h0 : x0 ≤ m) (h1 : x1 ≤ m) (h2 : M ≤ z0) (h3 : M ≤ z1) (hm : m < M) : False := by
  rcases mul_pos_neg hcd with ⟨hc, hd⟩ | ⟨hc, hd⟩
  · have ha : a < 0 ∧ 0 < b := by rcases mul_pos_neg hab with ⟨h, h'⟩ | ⟨h, h'⟩ <;> omega
    have := weigh (p := c) (q := -d) (r := b) (s := -a) hc (by omega) ha.2 (by omega) (by omega) h1 h0 h2 h3 hm
    have e1 : -d * x0 = -(d * x0) := Int.neg_mul ..
    have e2 : -a * z1 = -(a * z1) := Int.neg_mul ..
    omega
  · have ha : 0 < a ∧ b < 0 := by rcases mul_pos_neg hab with ⟨h, h'⟩ | ⟨h, h'⟩ <;> omega
    have := weigh (p := -c) (q := d) (r := -b) (s := a) (by omega) hd (by omega) ha.1 (by omega) h1 h0 h2 h3 hm
    have e1 : -c * x1 = -(c * x1) := Int.neg_mul ..
    have e2 : -b * z0 = -(b * z0) := Int.neg_mul ..
    omega
theorem not_apart' {a b c d x0 x1 z0 z1 : Int} (hab : a * b < 0) (hcd : c * d < 0) (hD : c - d = b - a) (hid : c * x1 - d * x0 = b * z0 - a * z1) {m M : Int} (h0 : z0 ≤ m) (h1 : z1 ≤ m) (h2 : M ≤ x0) (h3 : M ≤ x1) (hm : m < M) : False :=
  not_apart (a := c) (b := d) (c := a) (d := b) (x0 := z0) (x1 := z1) (z0 := x0) (z1 := x1) hcd hab (by omega) (by omega) h0 h1 h2 h3 hm
section
variable (ax ay bx by' cx cy dx dy : Int)
theorem id_D : crs cx cy dx dy ax ay - crs cx cy dx dy bx by' = crs ax ay bx by' dx dy - crs ax ay bx by' cx cy := by
  unfold crs
  simp only [Int.sub_mul, Int.mul_sub]
  simp only [Int.mul_comm]
  omega
theorem id_X : crs cx cy dx dy ax ay * bx - crs cx cy dx dy bx by' * ax = crs ax ay bx by' dx dy * cx - crs ax ay bx by' cx cy * dx := by
  unfold crs
  simp only [Int.sub_mul, Int.mul_sub]
  simp only [Int.mul_comm, Int.mul_left_comm, Int.mul_assoc]
  omega
theorem id_Y : crs cx cy dx dy ax ay * by' - crs cx cy dx dy bx by' * ay = crs ax ay bx by' dx dy * cy - crs ax ay bx by' cx cy * dy := by
  unfold crs
  simp only [Int.sub_mul, Int.mul_sub]
  simp only [Int.mul_comm, Int.mul_left_comm, Int.mul_assoc]
  omega
end
/-- two directions along a third one that is not null are along each other -/
theorem along {ux uy vx vy wx wy : Int} (hw : ¬ (wx = 0 ∧ wy = 0)) (hu : ux * wy = uy * wx) (hv : vx * wy = vy * wx) : ux * vy = uy * vx := by
  by_cases h : wx = 0
  · have hy : wy ≠ 0 := fun e => hw ⟨h, e⟩
    rw [h, Int.mul_zero] at hu hv
    have hu0 : ux = 0 := (Int.mul_eq_zero.1 hu).resolve_right hy
    have hv0 : vx = 0 := (Int.mul_eq_zero.1 hv).resolve_right hy
    rw [hu0, hv0]; omega
  · refine Int.eq_of_mul_eq_mul_right h ?_
    calc ux * vy * wx = ux * (vy * wx) := by rw [Int.mul_assoc]
      _ = ux * (vx * wy) := by rw [hv]
      _ = vx * (ux * wy) := by rw [Int.mul_left_comm]
      _ = vx * (uy * wx) := by rw [hu]
      _ = uy * vx * wx := by rw [Int.mul_left_comm, Int.mul_assoc]
end Geo
namespace Geo
def Btw (u w : Int) : Prop := (0 ≤ w ∧ w ≤ u) ∨ (u ≤ w ∧ w ≤ 0)
theorem btw_of {o k u w : Int} (hk : k ≠ 0) (hu : u ≠ 0) (h : o * u = w * k) (hb : Btw u w) : Btw k o := by
  rcases Int.lt_or_gt_of_ne hu with hu | hu <;> rcases Int.lt_or_gt_of_ne hk with hk | hk
  · -- u < 0, k < 0
    have hw : u ≤ w ∧ w ≤ 0 := by rcases hb with h | h <;> omega
    have h1 : 0 ≤ w * k := Int.mul_nonneg_of_nonpos_of_nonpos hw.2 (by omega)
    have h2 : w * k ≤ u * k := Int.mul_le_mul_of_nonpos_right hw.1 (by omega)
    right
    constructor
    · apply Int.not_lt.1
      intro hc
      have : k * u < o * u := Int.mul_lt_mul_of_neg_right hc hu
      have e : k * u = u * k := Int.mul_comm ..
      omega
    · apply Int.not_lt.1
      intro hc
      have : o * u < 0 := Int.mul_neg_of_pos_of_neg hc hu
      omega
  · -- u < 0, 0 < k
    have hw : u ≤ w ∧ w ≤ 0 := by rcases hb with h | h <;> omega
    have h1 : w * k ≤ 0 := Int.mul_nonpos_of_nonpos_of_nonneg hw.2 (by omega)
    have h2 : u * k ≤ w * k := Int.mul_le_mul_of_nonneg_right hw.1 (by omega)
    left
    constructor
    · apply Int.not_lt.1
      intro hc
      have : 0 < o * u := Int.mul_pos_of_neg_of_neg hc hu
      omega
    · apply Int.not_lt.1
      intro hc
      have : o * u < k * u := Int.mul_lt_mul_of_neg_right hc hu
      have e : k * u = u * k := Int.mul_comm ..
      omega
  · -- 0 < u, k < 0
    have hw : 0 ≤ w ∧ w ≤ u := by rcases hb with h | h <;> omega
    have h1 : w * k ≤ 0 := Int.mul_nonpos_of_nonneg_of_nonpos hw.1 (by omega)
    have h2 : u * k ≤ w * k := Int.mul_le_mul_of_nonpos_right hw.2 (by omega)
    right
    constructor
    · apply Int.not_lt.1
      intro hc
      have : o * u < k * u := Int.mul_lt_mul_of_pos_right hc hu
      have e : k * u = u * k := Int.mul_comm ..
      omega
    · apply Int.not_lt.1
      intro hc
      have : 0 < o * u := Int.mul_pos hc hu
      omega
  · -- 0 < u, 0 < k
    have hw : 0 ≤ w ∧ w ≤ u := by rcases hb with h | h <;> omega
    have h1 : 0 ≤ w * k := Int.mul_nonneg hw.1 (by omega)
    have h2 : w * k ≤ u * k := Int.mul_le_mul_of_nonneg_right hw.2 (by omega)
    left
    constructor
    · apply Int.not_lt.1
      intro hc
      have : o * u < 0 := Int.mul_neg_of_neg_of_pos hc hu
      omega
    · apply Int.not_lt.1
      intro hc
      have : k * u < o * u := Int.mul_lt_mul_of_pos_right hc hu
      have e : k * u = u * k := Int.mul_comm ..
      omega
theorem btw_iff {o k u w : Int} (hk : k ≠ 0) (hu : u ≠ 0) (h : o * u = w * k) : Btw u w ↔ Btw k o := ⟨btw_of hk hu h, btw_of hu hk h.symm⟩
/-- p lies in the box of a and b -/
def Inb (ax ay bx by' px py : Int) : Prop := (min ax bx ≤ px ∧ px ≤ max ax bx) ∧ (min ay by' ≤ py ∧ py ≤ max ay by')
/-- the place of a point in the order by Y and then by X -/
def K (x y : Int) : Int := 201 * y + x
def Vl (x : Int) : Prop := 0 ≤ x ∧ x ≤ 200
theorem kx {ux uy wx wy : Int} (e : ux * wy = uy * wx) : (201 * wy + wx) * ux = wx * (201 * uy + ux) := by
  have h1 : (201 * wy + wx) * ux = 201 * (ux * wy) + wx * ux := by rw [Int.add_mul, Int.mul_assoc, Int.mul_comm wy ux]
  have h2 : wx * (201 * uy + ux) = 201 * (uy * wx) + wx * ux := by rw [Int.mul_add, Int.mul_left_comm, Int.mul_comm wx uy]
  rw [h1, h2, e]
theorem ky {ux uy wx wy : Int} (e : ux * wy = uy * wx) : (201 * wy + wx) * uy = wy * (201 * uy + ux) := by
  have h1 : (201 * wy + wx) * uy = 201 * (wy * uy) + uy * wx := by rw [Int.add_mul, Int.mul_assoc, Int.mul_comm wx uy]
  have h2 : wy * (201 * uy + ux) = 201 * (wy * uy) + ux * wy := by rw [Int.mul_add, Int.mul_left_comm, Int.mul_comm wy ux]
  rw [h1, h2, e]
theorem lin {ux uy px py qx qy : Int} (h : ux * py - uy * px = 0) (h' : ux * qy - uy * qx = 0) : ux * (qy - py) = uy * (qx - px) := by
  rw [Int.mul_sub, Int.mul_sub]; omega
theorem lin2 {px py qx qy : Int} (h : px * qy = py * qx) : (qx - px) * (-py) - (qy - py) * (-px) = 0 := by
  rw [Int.mul_neg, Int.mul_neg, Int.sub_mul, Int.sub_mul, Int.mul_comm qx py, Int.mul_comm qy px, Int.mul_comm px py]; omega
theorem K_box {ax ay bx by' px py : Int} (v0 : Vl ax) (v1 : Vl ay) (v2 : Vl bx) (v3 : Vl by') (v4 : Vl px) (v5 : Vl py) (hne : ¬ (ax = bx ∧ ay = by')) (h : crs ax ay bx by' px py = 0) :
    Inb ax ay bx by' px py ↔ (min (K ax ay) (K bx by') ≤ K px py ∧ K px py ≤ max (K ax ay) (K bx by')) := by
  unfold Vl at *
  have hk : K bx by' - K ax ay ≠ 0 := by unfold K; omega
  have e : (bx - ax) * (py - ay) = (by' - ay) * (px - ax) := by unfold crs at h; omega
  have a1 : K px py - K ax ay = 201 * (py - ay) + (px - ax) := by unfold K; omega
  have a2 : K bx by' - K ax ay = 201 * (by' - ay) + (bx - ax) := by unfold K; omega
  have e1 : (K px py - K ax ay) * (bx - ax) = (px - ax) * (K bx by' - K ax ay) := by rw [a1, a2]; exact kx e
  have e2 : (K px py - K ax ay) * (by' - ay) = (py - ay) * (K bx by' - K ax ay) := by rw [a1, a2]; exact ky e
  have b0 : Inb ax ay bx by' px py ↔ Btw (bx - ax) (px - ax) ∧ Btw (by' - ay) (py - ay) := by unfold Inb Btw; omega
  have b1 : (min (K ax ay) (K bx by') ≤ K px py ∧ K px py ≤ max (K ax ay) (K bx by')) ↔ Btw (K bx by' - K ax ay) (K px py - K ax ay) := by unfold Btw; omega
  rw [b0, b1]
  have z : ∀ {o k u w : Int}, k ≠ 0 → o * u = w * k → u = 0 → w = 0 := by
    intro o k u w hk h hu
    rw [hu, Int.mul_zero] at h
    exact (Int.mul_eq_zero.1 h.symm).resolve_right hk
  by_cases cx : bx - ax = 0
  · have wx := z hk e1 cx
    have cy : by' - ay ≠ 0 := by omega
    rw [btw_iff hk cy e2, cx, wx]
    unfold Btw
    omega
  · rw [btw_iff hk cx e1]
    by_cases cy : by' - ay = 0
    · have wy := z hk e2 cy
      rw [cy, wy]
      unfold Btw
      omega
    · rw [btw_iff hk cy e2]
      exact ⟨fun h => h.1, fun h => ⟨h, h⟩⟩
theorem K_inj {ax ay bx by' : Int} (v0 : Vl ax) (v2 : Vl bx) : K ax ay = K bx by' ↔ ax = bx ∧ ay = by' := by unfold K Vl at *; omega
/-- four points on one line: the other two sides are null, too -/
theorem col_back {ax ay bx by' cx cy dx dy : Int} (hne : ¬ (ax = bx ∧ ay = by')) (h0 : crs ax ay bx by' cx cy = 0) (h1 : crs ax ay bx by' dx dy = 0) : crs cx cy dx dy ax ay = 0 ∧ crs cx cy dx dy bx by' = 0 := by
  have u0 : ¬ (bx - ax = 0 ∧ by' - ay = 0) := by omega
  have g0 : (cx - ax) * (by' - ay) = (cy - ay) * (bx - ax) := by unfold crs at h0; rw [Int.mul_comm (cy - ay), Int.mul_comm (cx - ax)]; omega
  have g1 : (dx - ax) * (by' - ay) = (dy - ay) * (bx - ax) := by unfold crs at h1; rw [Int.mul_comm (dy - ay), Int.mul_comm (dx - ax)]; omega
  have k0 := along u0 g0 g1
  have hD := id_D ax ay bx by' cx cy dx dy
  have e : crs cx cy dx dy ax ay = 0 := by
    unfold crs
    have a1 : dx - cx = (dx - ax) - (cx - ax) := by omega
    have a2 : dy - cy = (dy - ay) - (cy - ay) := by omega
    have a3 : ay - cy = -(cy - ay) := by omega
    have a4 : ax - cx = -(cx - ax) := by omega
    rw [a1, a2, a3, a4]
    exact lin2 k0
  exact ⟨e, by omega⟩
/-- two segments that are not on one line share at most one point -/
theorem one_shared {ax ay bx by' cx cy dx dy px py qx qy : Int} (ht : ¬ (cx = dx ∧ cy = dy)) (hn : ¬ (crs ax ay bx by' cx cy = 0 ∧ crs ax ay bx by' dx dy = 0)) (p0 : crs ax ay bx by' px py = 0) (p1 : crs cx cy dx dy px py = 0) (q0 : crs ax ay bx by' qx qy = 0) (q1 : crs cx cy dx dy qx qy = 0) : px = qx ∧ py = qy := by
  apply Classical.byContradiction
  intro hne
  apply hn
  have w0 : ¬ (qx - px = 0 ∧ qy - py = 0) := by omega
  have dif : ∀ {ax ay bx by' : Int}, crs ax ay bx by' px py = 0 → crs ax ay bx by' qx qy = 0 → (bx - ax) * (qy - py) = (by' - ay) * (qx - px) := by
    intro ax ay bx by' h h'
    have a1 : qy - py = (qy - ay) - (py - ay) := by omega
    have a2 : qx - px = (qx - ax) - (px - ax) := by omega
    rw [a1, a2]
    exact lin h h'
  have hu := dif p0 q0
  have hv := dif p1 q1
  have huv := along w0 hu hv
  have v0 : ¬ (dx - cx = 0 ∧ dy - cy = 0) := by omega
  -- from any point r on t's line: r - p is along v, so along u
  have onl : ∀ {rx ry : Int}, crs cx cy dx dy rx ry = 0 → crs ax ay bx by' rx ry = 0 := by
    intro rx ry hr
    have g : (rx - px) * (dy - cy) = (ry - py) * (dx - cx) := by
      have a1 : ry - py = (ry - cy) - (py - cy) := by omega
      have a2 : rx - px = (rx - cx) - (px - cx) := by omega
      rw [a1, a2, Int.mul_comm _ (dy - cy), Int.mul_comm _ (dx - cx)]
      exact (lin p1 hr).symm
    have g2 := along v0 huv g
    unfold crs at p0 ⊢
    have a1 : ry - ay = (ry - py) + (py - ay) := by omega
    have a2 : rx - ax = (rx - px) + (px - ax) := by omega
    rw [a1, a2, Int.mul_add, Int.mul_add]
    omega
  refine ⟨onl (rx := cx) (ry := cy) ?_, onl (rx := dx) (ry := dy) ?_⟩
  · unfold crs
    rw [Int.sub_self, Int.sub_self]
    omega
  · unfold crs
    rw [Int.mul_comm]
    omega
end Geo
open Geo
def M_IsPoint (x y : Int) : Bool := decide (0 ≤ x ∧ x ≤ 200) && decide (0 ≤ y ∧ y ≤ 200)
theorem M_IsPoint_iff (x y : Int) : M_IsPoint x y = true ↔ Vl x ∧ Vl y := by
  unfold M_IsPoint Vl
  rw [Bool.and_eq_true, decide_eq_true_iff, decide_eq_true_iff]
def M_IsSegment (ax ay bx by' : Int) : Bool := M_IsPoint ax ay && (M_IsPoint bx by' && !(decide (ax = bx ∧ ay = by')))
theorem M_IsSegment_iff (ax ay bx by' : Int) : M_IsSegment ax ay bx by' = true ↔ (Vl ax ∧ Vl ay) ∧ (Vl bx ∧ Vl by') ∧ ¬ (ax = bx ∧ ay = by') := by
  unfold M_IsSegment
  rw [Bool.and_eq_true, Bool.and_eq_true, M_IsPoint_iff, M_IsPoint_iff, Bool.not_eq_true', decide_eq_false_iff_not]
def sgn (z : Int) : Int := if z > 0 then 1 else if z < 0 then -1 else 0
theorem sgn_zero (z : Int) : sgn z = 0 ↔ z = 0 := by unfold sgn; split <;> (try split) <;> omega
theorem sgn_pos (z : Int) : 0 < sgn z ↔ 0 < z := by unfold sgn; split <;> (try split) <;> omega
theorem sgn_neg (z : Int) : sgn z < 0 ↔ z < 0 := by unfold sgn; split <;> (try split) <;> omega
theorem sgn_le (z : Int) : -1 ≤ sgn z ∧ sgn z ≤ 1 := by unfold sgn; split <;> (try split) <;> omega
theorem sgn_mul (x y : Int) : sgn x * sgn y < 0 ↔ x * y < 0 := by
  constructor
  · intro h
    rcases mul_pos_neg h with ⟨a, b⟩ | ⟨a, b⟩
    · exact Int.mul_neg_of_pos_of_neg ((sgn_pos x).1 a) ((sgn_neg y).1 b)
    · exact Int.mul_neg_of_neg_of_pos ((sgn_neg x).1 a) ((sgn_pos y).1 b)
  · intro h
    rcases mul_pos_neg h with ⟨a, b⟩ | ⟨a, b⟩
    · exact Int.mul_neg_of_pos_of_neg ((sgn_pos x).2 a) ((sgn_neg y).2 b)
    · exact Int.mul_neg_of_neg_of_pos ((sgn_neg x).2 a) ((sgn_pos y).2 b)
theorem mul_bound {x y : Int} (h0 : -200 ≤ x) (h1 : x ≤ 200) (h2 : -200 ≤ y) (h3 : y ≤ 200) : -40000 ≤ x * y ∧ x * y ≤ 40000 := by
  have a : (x + 200) * (y + 200) ≥ 0 := Int.mul_nonneg (by omega) (by omega)
  have b : (200 - x) * (200 - y) ≥ 0 := Int.mul_nonneg (by omega) (by omega)
  have c : (x + 200) * (200 - y) ≥ 0 := Int.mul_nonneg (by omega) (by omega)
  have d : (200 - x) * (y + 200) ≥ 0 := Int.mul_nonneg (by omega) (by omega)
  simp only [Int.add_mul, Int.mul_add, Int.sub_mul, Int.mul_sub] at a b c d
  omega
theorem crs_bound {ax ay bx by' px py : Int} (v0 : Vl ax) (v1 : Vl ay) (v2 : Vl bx) (v3 : Vl by') (v4 : Vl px) (v5 : Vl py) : -80000 ≤ crs ax ay bx by' px py ∧ crs ax ay bx by' px py ≤ 80000 := by
  unfold Vl at *
  unfold crs
  have h1 := mul_bound (x := bx - ax) (y := py - ay) (by omega) (by omega) (by omega) (by omega)
  have h2 := mul_bound (x := by' - ay) (y := px - ax) (by omega) (by omega) (by omega) (by omega)
  omega
theorem crs_wrap {ax ay bx by' px py : Int} (v0 : Vl ax) (v1 : Vl ay) (v2 : Vl bx) (v3 : Vl by') (v4 : Vl px) (v5 : Vl py) :
    wr .i64 ((wr .i64 ((wr .i64 (bx - ax)) * (wr .i64 (py - ay)))) - (wr .i64 ((wr .i64 (by' - ay)) * (wr .i64 (px - ax))))) = crs ax ay bx by' px py := by
  have h := crs_bound v0 v1 v2 v3 v4 v5
  unfold Vl at *
  have h1 := mul_bound (x := bx - ax) (y := py - ay) (by omega) (by omega) (by omega) (by omega)
  have h2 := mul_bound (x := by' - ay) (y := px - ax) (by omega) (by omega) (by omega) (by omega)
  rw [wrap_id (x := bx - ax) (by omega) (by omega), wrap_id (x := py - ay) (by omega) (by omega), wrap_id (x := by' - ay) (by omega) (by omega), wrap_id (x := px - ax) (by omega) (by omega), wrap_id (x := (bx - ax) * (py - ay)) (by omega) (by omega), wrap_id (x := (by' - ay) * (px - ax)) (by omega) (by omega)]
  unfold crs at h
  rw [wrap_id (by omega) (by omega)]
  rfl
def M_SideOf (ax ay bx by' px py : Int) : Int := if M_IsPoint ax ay && (M_IsPoint bx by' && M_IsPoint px py) then sgn (crs ax ay bx by' px py) else 0
instance (ax ay bx by' px py : Int) : Decidable (Inb ax ay bx by' px py) := by unfold Inb; infer_instance
def On (ax ay bx by' px py : Int) : Prop := crs ax ay bx by' px py = 0 ∧ Inb ax ay bx by' px py
instance (ax ay bx by' px py : Int) : Decidable (On ax ay bx by' px py) := by unfold On; infer_instance
def M_IsOn (ax ay bx by' px py : Int) : Bool := M_IsSegment ax ay bx by' && (M_IsPoint px py && decide (On ax ay bx by' px py))
def M_HowMeet (ax ay bx by' cx cy dx dy : Int) : Int :=
  if M_IsSegment ax ay bx by' = true ∧ M_IsSegment cx cy dx dy = true then
    if crs ax ay bx by' cx cy = 0 ∧ crs ax ay bx by' dx dy = 0 then
      if min (max (K ax ay) (K bx by')) (max (K cx cy) (K dx dy)) < max (min (K ax ay) (K bx by')) (min (K cx cy) (K dx dy)) then 0
      else if max (min (K ax ay) (K bx by')) (min (K cx cy) (K dx dy)) = min (max (K ax ay) (K bx by')) (max (K cx cy) (K dx dy)) then 1 else 3
    else if crs ax ay bx by' cx cy * crs ax ay bx by' dx dy < 0 ∧ crs cx cy dx dy ax ay * crs cx cy dx dy bx by' < 0 then 2
    else if On ax ay bx by' cx cy ∨ On ax ay bx by' dx dy ∨ On cx cy dx dy ax ay ∨ On cx cy dx dy bx by' then 1 else 0
  else 0
/-- the boxes of two segments are apart -/
def Apart (ax ay bx by' cx cy dx dy : Int) : Prop := max ax bx < min cx dx ∨ max cx dx < min ax bx ∨ max ay by' < min cy dy ∨ max cy dy < min ay by'
instance (ax ay bx by' cx cy dx dy : Int) : Decidable (Apart ax ay bx by' cx cy dx dy) := by unfold Apart; infer_instance
theorem apart_no {ax ay bx by' cx cy dx dy : Int} (h : Apart ax ay bx by' cx cy dx dy) : ¬ On ax ay bx by' cx cy ∧ ¬ On ax ay bx by' dx dy ∧ ¬ On cx cy dx dy ax ay ∧ ¬ On cx cy dx dy bx by' := by
  unfold On Inb
  unfold Apart at h
  refine ⟨?_, ?_, ?_, ?_⟩ <;> (rintro ⟨_, h1⟩; omega)
theorem apart_cross {ax ay bx by' cx cy dx dy : Int} (h : Apart ax ay bx by' cx cy dx dy) : ¬ (crs ax ay bx by' cx cy * crs ax ay bx by' dx dy < 0 ∧ crs cx cy dx dy ax ay * crs cx cy dx dy bx by' < 0) := by
  rintro ⟨hab, hcd⟩
  have hD := id_D ax ay bx by' cx cy dx dy
  have hX := id_X ax ay bx by' cx cy dx dy
  have hY := id_Y ax ay bx by' cx cy dx dy
  rcases h with h | h | h | h
  · exact not_apart hab hcd hD hX (m := max ax bx) (M := min cx dx) (by omega) (by omega) (by omega) (by omega) h
  · exact not_apart' hab hcd hD hX (m := max cx dx) (M := min ax bx) (by omega) (by omega) (by omega) (by omega) h
  · exact not_apart hab hcd hD hY (m := max ay by') (M := min cy dy) (by omega) (by omega) (by omega) (by omega) h
  · exact not_apart' hab hcd hD hY (m := max cy dy) (M := min ay by') (by omega) (by omega) (by omega) (by omega) h
theorem crs_self0 (ax ay bx by' : Int) : crs ax ay bx by' ax ay = 0 := by unfold crs; rw [Int.sub_self, Int.sub_self]; omega
theorem crs_self1 (ax ay bx by' : Int) : crs ax ay bx by' bx by' = 0 := by unfold crs; rw [Int.mul_comm]; omega
/-- how many different ends of both lie on the other one, as the reference counts them -/
def M_Shared (ax ay bx by' cx cy dx dy : Int) : Int :=
  (if On cx cy dx dy ax ay then 1 else 0) + (if On cx cy dx dy bx by' then 1 else 0)
    + (if On ax ay bx by' cx cy ∧ ¬ (On cx cy dx dy ax ay ∧ ax = cx ∧ ay = cy) ∧ ¬ (On cx cy dx dy bx by' ∧ bx = cx ∧ by' = cy) then 1 else 0)
    + (if On ax ay bx by' dx dy ∧ ¬ (On cx cy dx dy ax ay ∧ ax = dx ∧ ay = dy) ∧ ¬ (On cx cy dx dy bx by' ∧ bx = dx ∧ by' = dy) then 1 else 0)
theorem ifc {p q : Prop} [Decidable p] [Decidable q] {α : Type} (h : p ↔ q) (a b : α) : (if p then a else b) = if q then a else b := by
  by_cases hp : p
  · rw [if_pos hp, if_pos (h.1 hp)]
  · rw [if_neg hp, if_neg (fun hq => hp (h.2 hq))]
theorem M_HowMeet_spec {ax ay bx by' cx cy dx dy : Int} (v0 : Vl ax) (v1 : Vl ay) (v2 : Vl bx) (v3 : Vl by') (hs : ¬ (ax = bx ∧ ay = by')) (w0 : Vl cx) (w1 : Vl cy) (w2 : Vl dx) (w3 : Vl dy) (ht : ¬ (cx = dx ∧ cy = dy)) :
    M_HowMeet ax ay bx by' cx cy dx dy =
      if Apart ax ay bx by' cx cy dx dy then 0
      else if M_Shared ax ay bx by' cx cy dx dy = 0 then (if crs ax ay bx by' cx cy * crs ax ay bx by' dx dy < 0 ∧ crs cx cy dx dy ax ay * crs cx cy dx dy bx by' < 0 then 2 else 0)
      else if M_Shared ax ay bx by' cx cy dx dy = 1 then 1 else 3 := by
  unfold M_HowMeet
  rw [if_pos ⟨(M_IsSegment_iff ..).2 ⟨⟨v0, v1⟩, ⟨v2, v3⟩, hs⟩, (M_IsSegment_iff ..).2 ⟨⟨w0, w1⟩, ⟨w2, w3⟩, ht⟩⟩]
  by_cases col : crs ax ay bx by' cx cy = 0 ∧ crs ax ay bx by' dx dy = 0
  · -- on one line
    rw [if_pos col]
    have back := col_back hs col.1 col.2
    have o0 : On cx cy dx dy ax ay ↔ _ := ⟨fun h => (K_box w0 w1 w2 w3 v0 v1 ht back.1).1 h.2, fun h => ⟨back.1, (K_box w0 w1 w2 w3 v0 v1 ht back.1).2 h⟩⟩
    have o1 : On cx cy dx dy bx by' ↔ _ := ⟨fun h => (K_box w0 w1 w2 w3 v2 v3 ht back.2).1 h.2, fun h => ⟨back.2, (K_box w0 w1 w2 w3 v2 v3 ht back.2).2 h⟩⟩
    have o2 : On ax ay bx by' cx cy ↔ _ := ⟨fun h => (K_box v0 v1 v2 v3 w0 w1 hs col.1).1 h.2, fun h => ⟨col.1, (K_box v0 v1 v2 v3 w0 w1 hs col.1).2 h⟩⟩
    have o3 : On ax ay bx by' dx dy ↔ _ := ⟨fun h => (K_box v0 v1 v2 v3 w2 w3 hs col.2).1 h.2, fun h => ⟨col.2, (K_box v0 v1 v2 v3 w2 w3 hs col.2).2 h⟩⟩
    have ap : Apart ax ay bx by' cx cy dx dy → ¬ On cx cy dx dy ax ay ∧ ¬ On cx cy dx dy bx by' ∧ ¬ On ax ay bx by' cx cy ∧ ¬ On ax ay bx by' dx dy := fun h => ⟨(apart_no h).2.2.1, (apart_no h).2.2.2, (apart_no h).1, (apart_no h).2.1⟩
    rw [o0, o1, o2, o3] at ap
    have ks : K ax ay ≠ K bx by' := fun e => hs ((K_inj v0 v2).1 e)
    have kt : K cx cy ≠ K dx dy := fun e => ht ((K_inj w0 w2).1 e)
    have nc : ¬ (crs ax ay bx by' cx cy * crs ax ay bx by' dx dy < 0 ∧ crs cx cy dx dy ax ay * crs cx cy dx dy bx by' < 0) := by rw [col.1, Int.zero_mul]; omega
    have sh : M_Shared ax ay bx by' cx cy dx dy =
        (if min (K cx cy) (K dx dy) ≤ K ax ay ∧ K ax ay ≤ max (K cx cy) (K dx dy) then 1 else 0) + (if min (K cx cy) (K dx dy) ≤ K bx by' ∧ K bx by' ≤ max (K cx cy) (K dx dy) then 1 else 0)
          + (if (min (K ax ay) (K bx by') ≤ K cx cy ∧ K cx cy ≤ max (K ax ay) (K bx by')) ∧ ¬ K ax ay = K cx cy ∧ ¬ K bx by' = K cx cy then 1 else 0)
          + (if (min (K ax ay) (K bx by') ≤ K dx dy ∧ K dx dy ≤ max (K ax ay) (K bx by')) ∧ ¬ K ax ay = K dx dy ∧ ¬ K bx by' = K dx dy then 1 else 0) := by
      unfold M_Shared
      rw [ifc o0, ifc o1]
      congr 1
      · congr 1
        refine ifc ?_ _ _
        rw [o0, o1, o2, ← K_inj v0 w0 (ay := ay) (by' := cy), ← K_inj v2 w0 (ay := by') (by' := cy)]
        omega
      · refine ifc ?_ _ _
        rw [o0, o1, o3, ← K_inj v0 w2 (ay := ay) (by' := dy), ← K_inj v2 w2 (ay := by') (by' := dy)]
        omega
    rw [if_neg nc, sh]
    generalize K ax ay = a at *
    generalize K bx by' = b at *
    generalize K cx cy = c at *
    generalize K dx dy = d at *
    clear o0 o1 o2 o3 sh nc
    by_cases hap : Apart ax ay bx by' cx cy dx dy
    · have := ap hap
      rw [if_pos hap, if_pos (by omega)]
    · rw [if_neg hap]
      clear ap
      split <;> split <;> split <;> split <;> (repeat' split) <;> omega
  · rw [if_neg col]
    have one : ∀ {px py qx qy : Int}, crs ax ay bx by' px py = 0 → crs cx cy dx dy px py = 0 → crs ax ay bx by' qx qy = 0 → crs cx cy dx dy qx qy = 0 → px = qx ∧ py = qy := fun p0 p1 q0 q1 => one_shared ht col p0 p1 q0 q1
    have s0 := crs_self0 ax ay bx by'
    have s1 := crs_self1 ax ay bx by'
    have t0 := crs_self0 cx cy dx dy
    have t1 := crs_self1 cx cy dx dy
    have e01 : ¬ (On cx cy dx dy ax ay ∧ On cx cy dx dy bx by') := fun ⟨h, h'⟩ => hs (one s0 h.1 s1 h'.1)
    have e23 : ¬ (On ax ay bx by' cx cy ∧ On ax ay bx by' dx dy) := fun ⟨h, h'⟩ => ht (one h.1 t0 h'.1 t1)
    have e02 : On cx cy dx dy ax ay → On ax ay bx by' cx cy → ax = cx ∧ ay = cy := fun h h' => one s0 h.1 h'.1 t0
    have e03 : On cx cy dx dy ax ay → On ax ay bx by' dx dy → ax = dx ∧ ay = dy := fun h h' => one s0 h.1 h'.1 t1
    have e12 : On cx cy dx dy bx by' → On ax ay bx by' cx cy → bx = cx ∧ by' = cy := fun h h' => one s1 h.1 h'.1 t0
    have e13 : On cx cy dx dy bx by' → On ax ay bx by' dx dy → bx = dx ∧ by' = dy := fun h h' => one s1 h.1 h'.1 t1
    have sh : M_Shared ax ay bx by' cx cy dx dy = if On ax ay bx by' cx cy ∨ On ax ay bx by' dx dy ∨ On cx cy dx dy ax ay ∨ On cx cy dx dy bx by' then 1 else 0 := by
      unfold M_Shared
      by_cases h0 : On cx cy dx dy ax ay <;> by_cases h1 : On cx cy dx dy bx by' <;> by_cases h2 : On ax ay bx by' cx cy <;> by_cases h3 : On ax ay bx by' dx dy
      all_goals first
        | exact absurd (And.intro h0 h1) e01
        | exact absurd (And.intro h2 h3) e23
        | (have t := eq_true (e02 h0 h2); simp only [h0, h1, h2, h3, t, if_true, if_false, and_true, true_and, false_and, and_false, not_true, not_false_eq_true, or_true, true_or, or_false, false_or]; first | done | rfl)
        | (have t := eq_true (e03 h0 h3); simp only [h0, h1, h2, h3, t, if_true, if_false, and_true, true_and, false_and, and_false, not_true, not_false_eq_true, or_true, true_or, or_false, false_or]; first | done | rfl)
        | (have t := eq_true (e12 h1 h2); simp only [h0, h1, h2, h3, t, if_true, if_false, and_true, true_and, false_and, and_false, not_true, not_false_eq_true, or_true, true_or, or_false, false_or]; first | done | rfl)
        | (have t := eq_true (e13 h1 h3); simp only [h0, h1, h2, h3, t, if_true, if_false, and_true, true_and, false_and, and_false, not_true, not_false_eq_true, or_true, true_or, or_false, false_or]; first | done | rfl)
        | (simp only [h0, h1, h2, h3, if_true, if_false, and_true, true_and, false_and, and_false, not_true, not_false_eq_true, or_true, true_or, or_false, false_or]; first | done | rfl)
        | (simp only [h0, h1, h2, h3, if_true, if_false, and_true, true_and, false_and, and_false, not_true, not_false_eq_true, or_true, true_or, or_false, false_or]; first | done | rfl)
    rw [sh]
    have cz : crs ax ay bx by' cx cy * crs ax ay bx by' dx dy < 0 ∧ crs cx cy dx dy ax ay * crs cx cy dx dy bx by' < 0 → ¬ (On ax ay bx by' cx cy ∨ On ax ay bx by' dx dy ∨ On cx cy dx dy ax ay ∨ On cx cy dx dy bx by') := by
      rintro ⟨g, g'⟩ (h | h | h | h)
      · rw [h.1, Int.zero_mul] at g; omega
      · rw [h.1, Int.mul_zero] at g; omega
      · rw [h.1, Int.zero_mul] at g'; omega
      · rw [h.1, Int.mul_zero] at g'; omega
    by_cases hap : Apart ax ay bx by' cx cy dx dy
    · have n := apart_no hap
      rw [if_pos hap, if_neg (apart_cross hap), if_neg (by simp [n.1, n.2.1, n.2.2.1, n.2.2.2])]
    · rw [if_neg hap]
      by_cases any : On ax ay bx by' cx cy ∨ On ax ay bx by' dx dy ∨ On cx cy dx dy ax ay ∨ On cx cy dx dy bx by'
      · rw [if_pos any, if_neg (fun h => cz h any), if_neg (by decide), if_pos rfl]
      · rw [if_neg any, if_pos rfl]
end Go.Eng
namespace Go.Eng
open Go Go.Proofs Geo
set_option linter.unusedSimpArgs false
set_option linter.unusedVariables false
set_option maxRecDepth 20000

def inR (x l m : Int) : Bool := decide (l ≤ x ∧ x ≤ m)
theorem f35 (x l m : Int) : Fn Try.prog 35 false [i x, i l, i m] (.bool (inR x l m)) := by
  refine Fn.by_sx hX (by kernel_rfl) c35 (by kernel_rfl) (by rfl) ?_
  simp [i35, sxa, sxb, sxc, Ex.ok, Ex.val, ← wr_eq]
  repeat' (first | intro _ | (simp [sxa, sxb, sxc, Ex.ok, Ex.val, ← wr_eq, *]) | refine CondS_d ?_ ?_ | refine CondS_b ?_ ?_ | refine GrdS_d ?_ ?_ | refine GrdS_b ?_ ?_ | refine OkS_i (by omega) ?_ | fail)
  all_goals simp_all [inR]; try omega

theorem f39 (x l m : Int) : Fn Try.prog 39 false [i x, i l, i m] (.bool (inR x l m)) := by
  refine Fn.by_sx hX (by kernel_rfl) c39 (by kernel_rfl) (by rfl) ?_
  simp [i39, sxa, sxb, sxc, Ex.ok, Ex.val, ← wr_eq]
  repeat' (first | intro _ | (simp [sxa, sxb, sxc, Ex.ok, Ex.val, ← wr_eq, *]) | refine CondS_d ?_ ?_ | refine CondS_b ?_ ?_ | refine GrdS_d ?_ ?_ | refine GrdS_b ?_ ?_ | refine OkS_i (by omega) ?_ | fail)
  all_goals simp_all [inR]; try omega
theorem f69 (x y : Int) : Fn Try.prog 69 false [i x, i y] (i (max x y)) := by
  refine Fn.by_sx hX (by kernel_rfl) c69 (by kernel_rfl) (by rfl) ?_
  simp [i69, sxa, sxb, sxc, Ex.ok, Ex.val, ← wr_eq]
  repeat' (first | intro _ | (simp [sxa, sxb, sxc, Ex.ok, Ex.val, ← wr_eq, *]) | refine CondS_d ?_ ?_ | refine CondS_b ?_ ?_ | refine GrdS_d ?_ ?_ | refine GrdS_b ?_ ?_ | refine OkS_i (by omega) ?_ | fail)
  all_goals omega
theorem f79 (x y : Int) : Fn Try.prog 79 false [i x, i y] (i (min x y)) := by
  refine Fn.by_sx hX (by kernel_rfl) c79 (by kernel_rfl) (by rfl) ?_
  simp [i79, sxa, sxb, sxc, Ex.ok, Ex.val, ← wr_eq]
  repeat' (first | intro _ | (simp [sxa, sxb, sxc, Ex.ok, Ex.val, ← wr_eq, *]) | refine CondS_d ?_ ?_ | refine CondS_b ?_ ?_ | refine GrdS_d ?_ ?_ | refine GrdS_b ?_ ?_ | refine OkS_i (by omega) ?_ | fail)
  all_goals omega
theorem f19 (x y : Int) : Fn Try.prog 19 false [.agg [i x, i y]] (.bool (M_IsPoint x y)) := by
  refine Fn.by_sx hX (by kernel_rfl) c19 (by kernel_rfl) (by rfl) ?_
  simp [i19, sxa, sxb, sxc, Ex.ok, Ex.val, ← wr_eq]
  repeat' (first | intro _ | (simp [sxa, sxb, sxc, Ex.ok, Ex.val, ← wr_eq, *]) | refine CallS_b (f35 _ _ _) (fun h => ?_) (fun h => ?_) | refine CondS_d ?_ ?_ | refine CondS_b ?_ ?_ | refine GrdS_d ?_ ?_ | refine GrdS_b ?_ ?_ | refine OkS_i (by omega) ?_ | fail)
  all_goals simp_all [M_IsPoint, inR]
  all_goals omega

theorem f24 (x y : Int) : Fn Try.prog 24 false [.agg [i x, i y]] (.bool (M_IsPoint x y)) := by
  refine Fn.by_sx hX (by kernel_rfl) c24 (by kernel_rfl) (by rfl) ?_
  simp [i24, sxa, sxb, sxc, Ex.ok, Ex.val, ← wr_eq]
  repeat' (first | intro _ | (simp [sxa, sxb, sxc, Ex.ok, Ex.val, ← wr_eq, *]) | refine CallS_b (f39 _ _ _) (fun h => ?_) (fun h => ?_) | refine CondS_d ?_ ?_ | refine CondS_b ?_ ?_ | refine GrdS_d ?_ ?_ | refine GrdS_b ?_ ?_ | refine OkS_i (by omega) ?_ | fail)
  all_goals simp_all [M_IsPoint, inR]
  all_goals omega
theorem f68 (ax ay bx by' : Int) : Fn Try.prog 68 false [.agg [i ax, i ay, i bx, i by']] (.bool (M_IsSegment ax ay bx by')) := by
  refine Fn.by_sx hX (by kernel_rfl) c68 (by kernel_rfl) (by rfl) ?_
  simp [i68, sxa, sxb, sxc, Ex.ok, Ex.val, ← wr_eq]
  repeat' (first | intro _ | (simp [sxa, sxb, sxc, Ex.ok, Ex.val, ← wr_eq, *]) | refine CallS_b (f19 _ _) (fun h => ?_) (fun h => ?_) | refine CondS_d ?_ ?_ | refine CondS_b ?_ ?_ | refine GrdS_d ?_ ?_ | refine GrdS_b ?_ ?_ | refine OkS_i (by omega) ?_ | fail)
  all_goals simp_all [M_IsSegment]

theorem f73 (ax ay bx by' : Int) : Fn Try.prog 73 false [.agg [i ax, i ay, i bx, i by']] (.bool (M_IsSegment ax ay bx by')) := by
  refine Fn.by_sx hX (by kernel_rfl) c73 (by kernel_rfl) (by rfl) ?_
  simp [i73, sxa, sxb, sxc, Ex.ok, Ex.val, ← wr_eq]
  repeat' (first | intro _ | (simp [sxa, sxb, sxc, Ex.ok, Ex.val, ← wr_eq, *]) | refine CallS_b (f24 _ _) (fun h => ?_) (fun h => ?_) | refine CondS_d ?_ ?_ | refine CondS_b ?_ ?_ | refine GrdS_d ?_ ?_ | refine GrdS_b ?_ ?_ | refine OkS_i (by omega) ?_ | fail)
  all_goals simp_all [M_IsSegment]
def crw (ax ay bx by' px py : Int) : Int := wr .i64 (wr .i64 (wr .i64 (bx - ax) * wr .i64 (py - ay)) - wr .i64 (wr .i64 (by' - ay) * wr .i64 (px - ax)))
theorem crw_crs {ax ay bx by' px py : Int} (h1 : M_IsPoint ax ay = true) (h2 : M_IsPoint bx by' = true) (h3 : M_IsPoint px py = true) : crw ax ay bx by' px py = crs ax ay bx by' px py := by
  have h1 := (M_IsPoint_iff _ _).1 h1
  have h2 := (M_IsPoint_iff _ _).1 h2
  have h3 := (M_IsPoint_iff _ _).1 h3
  exact crs_wrap h1.1 h1.2 h2.1 h2.2 h3.1 h3.2
theorem f87 (ax ay bx by' px py : Int) : Fn Try.prog 87 false [.agg [i ax, i ay], .agg [i bx, i by'], .agg [i px, i py]] (i (crw ax ay bx by' px py)) := by
  refine Fn.by_sx hX (by kernel_rfl) c87 (by kernel_rfl) (by rfl) ?_
  simp [i87, sxa, sxb, sxc, Ex.ok, Ex.val, ← wr_eq]
  rfl

theorem f89 (ax ay bx by' px py : Int) : Fn Try.prog 89 false [.agg [i ax, i ay], .agg [i bx, i by'], .agg [i px, i py]] (i (crw ax ay bx by' px py)) := by
  refine Fn.by_sx hX (by kernel_rfl) c89 (by kernel_rfl) (by rfl) ?_
  simp [i89, sxa, sxb, sxc, Ex.ok, Ex.val, ← wr_eq]
  rfl
theorem f91 (x : Int) : Fn Try.prog 91 false [i x] (.bool false) := by
  refine Fn.by_sx hX (by kernel_rfl) c91 (by kernel_rfl) (by rfl) ?_
  simp [i91, sxa, sxb, sxc, Ex.ok, Ex.val, ← wr_eq]
theorem f88 (x y : Int) : Fn Try.prog 88 false [i x, i y] (i (sgn (x - y))) := by
  refine Fn.by_sx hX (by kernel_rfl) c88 (by kernel_rfl) (by rfl) ?_
  simp [i88, sxa, sxb, sxc, Ex.ok, Ex.val, ← wr_eq]
  repeat' (first | intro _ | (simp [sxa, sxb, sxc, Ex.ok, Ex.val, ← wr_eq, *]) | refine CallS_i (f91 _) ?_ | refine CondS_d ?_ ?_ | refine CondS_b ?_ ?_ | refine GrdS_d ?_ ?_ | refine GrdS_b ?_ ?_ | refine OkS_i (by omega) ?_ | fail)
  all_goals (unfold sgn; split <;> (try split) <;> omega)
def wSide (ax ay bx by' px py : Int) : Int := if M_IsPoint ax ay && (M_IsPoint bx by' && M_IsPoint px py) then sgn (crw ax ay bx by' px py) else 0
theorem wSide_eq (ax ay bx by' px py : Int) : wSide ax ay bx by' px py = M_SideOf ax ay bx by' px py := by
  unfold wSide M_SideOf
  split
  · rename_i h
    simp only [Bool.and_eq_true] at h
    rw [crw_crs h.1 h.2.1 h.2.2]
  · rfl
theorem f81 (ax ay bx by' px py : Int) : Fn Try.prog 81 false [.agg [i ax, i ay], .agg [i bx, i by'], .agg [i px, i py]] (i (M_SideOf ax ay bx by' px py)) := by
  rw [← wSide_eq]
  refine Fn.by_sx hX (by kernel_rfl) c81 (by kernel_rfl) (by rfl) ?_
  simp [i81, sxa, sxb, sxc, Ex.ok, Ex.val, ← wr_eq]
  repeat' (first | intro _ | (simp [sxa, sxb, sxc, Ex.ok, Ex.val, ← wr_eq, *]) | refine CallS_b (f19 _ _) (fun h => ?_) (fun h => ?_) | refine CallS_i (f87 _ _ _ _ _ _) ?_ | refine CondS_d ?_ ?_ | refine CondS_b ?_ ?_ | refine GrdS_d ?_ ?_ | refine GrdS_b ?_ ?_ | refine OkS_i (by omega) ?_ | fail)
  all_goals simp_all [wSide, sgn]
  all_goals omega
theorem f82 (ax ay bx by' px py : Int) : Fn Try.prog 82 false [.agg [i ax, i ay], .agg [i bx, i by'], .agg [i px, i py]] (i (M_SideOf ax ay bx by' px py)) := by
  rw [← wSide_eq]
  refine Fn.by_sx hX (by kernel_rfl) c82 (by kernel_rfl) (by rfl) ?_
  simp [i82, sxa, sxb, sxc, Ex.ok, Ex.val, ← wr_eq]
  repeat' (first | intro _ | (simp [sxa, sxb, sxc, Ex.ok, Ex.val, ← wr_eq, *]) | refine CallS_b (f24 _ _) (fun h => ?_) (fun h => ?_) | refine CallS_i (f89 _ _ _ _ _ _) ?_ | refine CallS_i (f88 _ _) ?_ | refine CondS_d ?_ ?_ | refine CondS_b ?_ ?_ | refine GrdS_d ?_ ?_ | refine GrdS_b ?_ ?_ | refine OkS_i (by omega) ?_ | fail)
  all_goals simp_all [wSide, sgn]
def wOn (ax ay bx by' px py : Int) : Bool := M_IsSegment ax ay bx by' && (M_IsPoint px py && (decide (crw ax ay bx by' px py = 0) && (inR px (min ax bx) (max ax bx) && inR py (min ay by') (max ay by'))))
theorem wOn_eq (ax ay bx by' px py : Int) : wOn ax ay bx by' px py = M_IsOn ax ay bx by' px py := by
  unfold wOn M_IsOn
  by_cases h1 : M_IsSegment ax ay bx by' = true
  · by_cases h2 : M_IsPoint px py = true
    · have h3 := (M_IsSegment_iff _ _ _ _).1 h1
      have h4 := (M_IsPoint_iff _ _).1 h2
      rw [crw_crs ((M_IsPoint_iff _ _).2 h3.1) ((M_IsPoint_iff _ _).2 h3.2.1) h2, h1, h2]
      rw [Bool.eq_iff_iff]; simp [On, Inb, inR, and_assoc]
    · simp [h2]
  · simp [h1]
theorem f86 (ax ay bx by' px py : Int) : Fn Try.prog 86 false [.agg [i ax, i ay, i bx, i by'], .agg [i px, i py]] (.bool (M_IsOn ax ay bx by' px py)) := by
  rw [← wOn_eq]
  refine Fn.by_sx hX (by kernel_rfl) c86 (by kernel_rfl) (by rfl) ?_
  simp [i86, sxa, sxb, sxc, Ex.ok, Ex.val, ← wr_eq]
  repeat' (first | intro _ | (simp [sxa, sxb, sxc, Ex.ok, Ex.val, ← wr_eq, *]) | refine CallS_b (f68 _ _ _ _) (fun h => ?_) (fun h => ?_) | refine CallS_b (f19 _ _) (fun h => ?_) (fun h => ?_) | refine CallS_b (f35 _ _ _) (fun h => ?_) (fun h => ?_) | refine CallS_i (f87 _ _ _ _ _ _) ?_ | refine CallS_i (f79 _ _) ?_ | refine CallS_i (f69 _ _) ?_ | refine CondS_d ?_ ?_ | refine CondS_b ?_ ?_ | refine GrdS_d ?_ ?_ | refine GrdS_b ?_ ?_ | refine OkS_i (by omega) ?_ | fail)
  all_goals simp_all [wOn]
def wOn2 (ax ay bx by' px py : Int) : Bool := M_IsSegment ax ay bx by' && (M_IsPoint px py && (decide (M_SideOf ax ay bx by' px py = 0) && (inR px (if bx < ax then bx else ax) (if ax < bx then bx else ax) && inR py (if by' < ay then by' else ay) (if ay < by' then by' else ay))))
theorem side_sgn {ax ay bx by' px py : Int} (h1 : M_IsPoint ax ay = true) (h2 : M_IsPoint bx by' = true) (h3 : M_IsPoint px py = true) : M_SideOf ax ay bx by' px py = sgn (crs ax ay bx by' px py) := by
  unfold M_SideOf
  rw [if_pos (by rw [h1, h2, h3]; rfl)]
theorem wOn2_eq (ax ay bx by' px py : Int) : wOn2 ax ay bx by' px py = M_IsOn ax ay bx by' px py := by
  unfold wOn2 M_IsOn
  by_cases h1 : M_IsSegment ax ay bx by' = true
  · by_cases h2 : M_IsPoint px py = true
    · have h3 := (M_IsSegment_iff _ _ _ _).1 h1
      rw [side_sgn ((M_IsPoint_iff _ _).2 h3.1) ((M_IsPoint_iff _ _).2 h3.2.1) h2, h1, h2]
      have e : ∀ x y : Int, (if y < x then y else x) = min x y := by intro x y; omega
      have e' : ∀ x y : Int, (if x < y then y else x) = max x y := by intro x y; omega
      rw [e, e', e, e', Bool.eq_iff_iff]; simp [On, Inb, inR, and_assoc, sgn_zero]
    · simp [h2]
  · simp [h1]
theorem f84 (ax ay bx by' px py : Int) : Fn Try.prog 84 false [.agg [i ax, i ay, i bx, i by'], .agg [i px, i py]] (.bool (M_IsOn ax ay bx by' px py)) := by
  rw [← wOn2_eq]
  refine Fn.by_sx hX (by kernel_rfl) c84 (by kernel_rfl) (by rfl) ?_
  simp [i84, sxa, sxb, sxc, Ex.ok, Ex.val, ← wr_eq]
  repeat' (first | intro _ | (simp [sxa, sxb, sxc, Ex.ok, Ex.val, ← wr_eq, *]) | refine CallS_b (f73 _ _ _ _) (fun h => ?_) (fun h => ?_) | refine CallS_b (f24 _ _) (fun h => ?_) (fun h => ?_) | refine CallS_b (f39 _ _ _) (fun h => ?_) (fun h => ?_) | refine CallS_i (f82 _ _ _ _ _ _) ?_ | refine CondS_d ?_ ?_ | refine CondS_b ?_ ?_ | refine GrdS_d ?_ ?_ | refine GrdS_b ?_ ?_ | refine OkS_i (by omega) ?_ | fail)
  all_goals simp_all [wOn2]
def before (ax ay bx by' : Int) : Bool := decide (ay < by') || (decide (ay = by') && decide (ax < bx))
theorem f30 (ax ay bx by' : Int) : Fn Try.prog 30 false [.agg [i ax, i ay], .agg [i bx, i by']] (.bool (before ax ay bx by')) := by
  refine Fn.by_sx hX (by kernel_rfl) c30 (by kernel_rfl) (by rfl) ?_
  simp [i30, sxa, sxb, sxc, Ex.ok, Ex.val, ← wr_eq]
  repeat' (first | intro _ | (simp [sxa, sxb, sxc, Ex.ok, Ex.val, ← wr_eq, *]) | refine CondS_d ?_ ?_ | refine CondS_b ?_ ?_ | refine GrdS_d ?_ ?_ | refine GrdS_b ?_ ?_ | refine OkS_i (by omega) ?_ | fail)
  all_goals simp_all [before]
theorem f90 (ax ay bx by' : Int) : Fn Try.prog 90 false [.agg [i ax, i ay, i bx, i by']] (.agg [i bx, i by', i ax, i ay]) := by
  refine Fn.by_sx hX (by kernel_rfl) c90 (by kernel_rfl) (by rfl) ?_
  simp [i90, sxa, sxb, sxc, Ex.ok, Ex.val, ← wr_eq]
theorem f83 (ax ay bx by' : Int) : Fn Try.prog 83 false [.agg [i ax, i ay, i bx, i by']] (.agg [i (if before bx by' ax ay then bx else ax), i (if before bx by' ax ay then by' else ay), i (if before bx by' ax ay then ax else bx), i (if before bx by' ax ay then ay else by')]) := by
  refine Fn.by_sx hX (by kernel_rfl) c83 (by kernel_rfl) (by rfl) ?_
  simp [i83, sxa, sxb, sxc, Ex.ok, Ex.val, ← wr_eq]
  repeat' (first | intro _ | (simp [sxa, sxb, sxc, Ex.ok, Ex.val, ← wr_eq, *]) | refine CallS_b (f30 _ _ _ _) (fun h => ?_) (fun h => ?_) | refine CallS_i (f90 _ _ _ _) ?_ | refine CondS_d ?_ ?_ | refine CondS_b ?_ ?_ | refine GrdS_d ?_ ?_ | refine GrdS_b ?_ ?_ | refine OkS_i (by omega) ?_ | fail)
end Go.Eng
namespace Go.Eng
open Go Go.Proofs Geo
set_option linter.unusedSimpArgs false
set_option linter.unusedVariables false
set_option maxRecDepth 20000

def cp (p : Pt) : List PV := [i p.f0, i p.f1]
theorem all_take {α : Type} {l : List α} {f : α → Bool} {k : Nat} (h : k < l.length) : (l.take (k + 1)).all f = ((l.take k).all f && f l[k]) := by
  rw [List.take_add_one, List.getElem?_eq_getElem h, List.all_append]
  simp only [Option.toList_some, List.all_cons, List.all_nil, Bool.and_true]
def eqb (q p : Pt) : Bool := decide (q.f0 = p.f0 ∧ q.f1 = p.f1)
def maybe (c : Bool) (p : Pt) : List Pt := if c = true then [p] else []
/-- the different ends of both that lie on the other one -/
def shl (S T : Sg) (e : List Pt) : Nat → List Pt
  | 0 => []
  | n + 1 => shl S T e n ++ maybe ((if n < 2 then M_IsOn T.f0.f0 T.f0.f1 T.f1.f0 T.f1.f1 (e.getD n ⟨0, 0⟩).f0 (e.getD n ⟨0, 0⟩).f1 else M_IsOn S.f0.f0 S.f0.f1 S.f1.f0 S.f1.f1 (e.getD n ⟨0, 0⟩).f0 (e.getD n ⟨0, 0⟩).f1) && (shl S T e n).all fun q => !(eqb q (e.getD n ⟨0, 0⟩))) (e.getD n ⟨0, 0⟩)
theorem shl_len (S T : Sg) (e : List Pt) : ∀ n, (shl S T e n).length ≤ n
  | 0 => Nat.le_refl _
  | n + 1 => by
    have := shl_len S T e n
    have hm : ∀ c p, (maybe c p).length ≤ 1 := by intro c p; unfold maybe; split <;> simp
    unfold shl
    rw [List.length_append]
    exact Nat.add_le_add this (hm _ _)
def cs (s : Sg) : List PV := [i s.f0.f0, i s.f0.f1, i s.f1.f0, i s.f1.f1]
def ends (S T : Sg) : List Pt := [S.f0, S.f1, T.f0, T.f1]
theorem l80_2 {d : List Pt} {e : List Pt} {p : Pt} {n : Nat} {on : Bool} {V : Env} (hn : n < e.length) (hp : e[n] = p) (hd : d.length ≤ 4) (h5 : V 5 = .lst 2 false (d.map cp)) (h6 : V 6 = .lst 2 false (e.map cp)) (h7 : V 7 = i n) (h8 : V 8 = .bool on) (h9 : V 9 = i 0) :
    sx (FC Try.prog) (.loop (.seq (.seq (.ops [s 46 (.mv (t 9)),
  s 47 (.mv (t 5)),
  s 48 (.len false (t 47)),
  s 49 (.bin .lss (t 46) (t 48))])
 (.cond (t 49) .skip (.exit 2)))
 (.seq (.block 3 (.ops [s 52 (.mv (t 8)),
  s 53 (.mv (t 52)),
  sg [(53, true)] 54 (.mv (t 5)),
  sg [(53, true)] 55 (.mv (t 9)),
  sg [(53, true)] 56 (.idx (t 54) (t 55) 2),
  sg [(53, true)] 57 (.ldE 54 56 0 2 true true 2),
  sg [(53, true)] 58 (.mv (t 6)),
  sg [(53, true)] 59 (.mv (t 7)),
  sg [(53, true)] 60 (.idx (t 58) (t 59) 2),
  sg [(53, true)] 61 (.ldE 58 60 0 2 true true 2),
  sg [(53, true)] 62 (.eqa true [0, 0] (t 57) (t 61)),
  s 63 (.pick (t 53) (t 62) (c (.bool false))),
  s 8 (.mv (t 63))]))
 (.ops [s 50 (.mv (t 9)),
  s 51 (.bin .add (t 50) (c (i 1))),
  s 9 (.mv (t 51))])))) (fun x V' => x = .exit 2 ∧ V' 2 = V 2 ∧ V' 3 = V 3 ∧ V' 5 = V 5 ∧ V' 6 = V 6 ∧ V' 7 = V 7 ∧ V' 8 = .bool (on && d.all fun q => !(eqb q p))) V := by
  refine sx_count d.length (fun k V' => V' 2 = V 2 ∧ V' 3 = V 3 ∧ V' 5 = V 5 ∧ V' 6 = V 6 ∧ V' 7 = V 7 ∧ V' 9 = i k ∧ V' 8 = .bool (on && (d.take k).all fun q => !(eqb q p))) 0 (by omega) ?_ ?_
  · simp [h8, h9]
  rintro k V' hk ⟨g2, g3, g5, g6, g7, g9, g8⟩
  have hw' : wr .i64 ((k : Int) + 1) = k + 1 := wr_in (by omega) (by omega)
  simp [sxa, sxb, sxc, Ex.ok, Ex.val, ← wr_eq, g2, g3, g5, g6, g7, g9, g8, h5, h6, h7]
  refine CondS_d (fun hkl => ?_) (fun hkl => ?_)
  · have hkl' : k < d.length := by omega
    rw [all_take hkl', ← Bool.and_assoc]
    generalize (on && (d.take k).all fun q => !(eqb q p)) = b at g8 ⊢
    cases b
    · simp [sxa, sxb, sxc, Ex.ok, Ex.val, ← wr_eq, g2, g3, g5, g6, g7, g9, g8, h5, h6, h7, hw', hkl']
    · simp [sxa, sxb, sxc, Ex.ok, Ex.val, ← wr_eq, g2, g3, g5, g6, g7, g9, g8, h5, h6, h7, hw', hkl', hn, hp, cp, eqb]
  · have : k = d.length := by omega
    subst this
    simp [sxa, sxb, sxc, Ex.ok, Ex.val, ← wr_eq, g2, g3, g5, g6, g7, g9, g8, h5, h6, h7]
theorem f80 (S T : Sg) : Fn Try.prog 80 false [.agg (cs S), .agg (cs T)] (i ((shl S T (ends S T) 4).length : Nat)) := by
  refine Fn.by_sx hX (by kernel_rfl) c80 (by kernel_rfl) (by rfl) ?_
  simp [i80, sxa, sxb, sxc, Ex.ok, Ex.val, ← wr_eq]
  simp [cs, sxa, sxb, sxc, Ex.ok, Ex.val, ← wr_eq]
  refine sx_count 4 (fun n V => V 2 = .ptr (cs S) ∧ V 3 = .ptr (cs T) ∧ V 5 = .lst 2 false ((shl S T (ends S T) n).map cp) ∧ V 6 = .lst 2 false ((ends S T).map cp) ∧ V 7 = i n) 0 (by omega) ?_ ?_
  · simp [sxa, sxb, sxc, Ex.ok, Ex.val, ← wr_eq, cs, shl, ends, cp]
  · rintro n V hn ⟨h2, h3, h5, h6, h7⟩
    have hw : wr .i64 ((n : Int) + 1) = n + 1 := wr_in (by omega) (by omega)
    simp [sxa, sxb, sxc, Ex.ok, Ex.val, ← wr_eq, h2, h3, h5, h6, h7]
    refine CondS_d (fun hlt => ?_) (fun hge => ?_)
    · have hlt' : n < (ends S T).length := by simp [ends]; omega
      obtain ⟨M, hM1, hM2⟩ : ∃ M : Bool, ((n : Int) < 2 → M_IsOn T.f0.f0 T.f0.f1 T.f1.f0 T.f1.f1 (ends S T)[n].f0 (ends S T)[n].f1 = M) ∧ (¬ (n : Int) < 2 → M_IsOn S.f0.f0 S.f0.f1 S.f1.f0 S.f1.f1 (ends S T)[n].f0 (ends S T)[n].f1 = M) := by
        by_cases h : (n : Int) < 2
        · exact ⟨_, fun _ => rfl, fun h' => absurd h h'⟩
        · exact ⟨_, fun h' => absurd h' h, fun _ => rfl⟩
      have hu : shl S T (ends S T) (n + 1) = shl S T (ends S T) n ++ maybe (M && (shl S T (ends S T) n).all fun q => !(eqb q (ends S T)[n])) (ends S T)[n] := by
        have e : (ends S T).getD n ⟨0, 0⟩ = (ends S T)[n] := by simp [hlt']
        rw [shl, e]
        by_cases h : n < 2
        · rw [if_pos h, hM1 (by omega)]
        · rw [if_neg h, hM2 (by omega)]
      have hdl := shl_len S T (ends S T) n
      rw [hu]
      clear hu
      generalize shl S T (ends S T) n = d at h5 hdl ⊢
      obtain ⟨X, hX⟩ : ∃ X, (M && d.all fun q => !(eqb q (ends S T)[n])) = X := ⟨_, rfl⟩
      rw [hX]
      have hn4 : n < 4 := by omega
      have fin : ∀ {Q : Ext → Env → Prop} {V1 : Env}, V1 2 = .ptr (cs S) → V1 3 = .ptr (cs T) → V1 5 = .lst 2 false (d.map cp) → V1 6 = .lst 2 false ((ends S T).map cp) → V1 7 = i n → V1 8 = .bool M → V1 9 = i 0 →
          (∀ V2, V2 2 = .ptr (cs S) → V2 3 = .ptr (cs T) → V2 5 = .lst 2 false (d.map cp) → V2 6 = .lst 2 false ((ends S T).map cp) → V2 7 = i n → V2 8 = .bool X → Q (.exit 2) V2) → sx (FC Try.prog) (.loop (.seq (.seq (.ops [s 46 (.mv (t 9)),
  s 47 (.mv (t 5)),
  s 48 (.len false (t 47)),
  s 49 (.bin .lss (t 46) (t 48))])
 (.cond (t 49) .skip (.exit 2)))
 (.seq (.block 3 (.ops [s 52 (.mv (t 8)),
  s 53 (.mv (t 52)),
  sg [(53, true)] 54 (.mv (t 5)),
  sg [(53, true)] 55 (.mv (t 9)),
  sg [(53, true)] 56 (.idx (t 54) (t 55) 2),
  sg [(53, true)] 57 (.ldE 54 56 0 2 true true 2),
  sg [(53, true)] 58 (.mv (t 6)),
  sg [(53, true)] 59 (.mv (t 7)),
  sg [(53, true)] 60 (.idx (t 58) (t 59) 2),
  sg [(53, true)] 61 (.ldE 58 60 0 2 true true 2),
  sg [(53, true)] 62 (.eqa true [0, 0] (t 57) (t 61)),
  s 63 (.pick (t 53) (t 62) (c (.bool false))),
  s 8 (.mv (t 63))]))
 (.ops [s 50 (.mv (t 9)),
  s 51 (.bin .add (t 50) (c (i 1))),
  s 9 (.mv (t 51))])))) Q V1 := by
        intro Q V1 a2 a3 a5 a6 a7 a8 a9 hq
        refine sx_mono _ _ _ _ ?_ (l80_2 hlt' rfl (by omega) a5 a6 a7 a8 a9)
        rintro x V2 ⟨rfl, b2, b3, b5, b6, b7, b8⟩
        exact hq V2 (by rw [b2, a2]) (by rw [b3, a3]) (by rw [b5, a5]) (by rw [b6, a6]) (by rw [b7, a7]) (by rw [b8, hX])
      clear hX
      simp [sxa, sxb, sxc, Ex.ok, Ex.val, ← wr_eq, h2, h3, h5, h6, h7, hlt, cs, cp]
      repeat' (first | intro _ | (simp [sxa, sxb, sxc, Ex.ok, Ex.val, ← wr_eq, cs, cp, *]) | refine CallS_i (f86 _ _ _ _ _ _) ?_ | refine CondS_d ?_ ?_ | refine CondS_b ?_ ?_ | refine GrdS_d ?_ ?_ | refine GrdS_b ?_ ?_ | refine OkS_i (by omega) ?_ | fail)
      all_goals try omega
      all_goals refine fin (by simp [sxa, sxb, sxc, Ex.ok, Ex.val, ← wr_eq, h2]) (by simp [sxa, sxb, sxc, Ex.ok, Ex.val, ← wr_eq, h3]) (by simp [sxa, sxb, sxc, Ex.ok, Ex.val, ← wr_eq, h5]) (by simp [sxa, sxb, sxc, Ex.ok, Ex.val, ← wr_eq, h6]) (by simp [sxa, sxb, sxc, Ex.ok, Ex.val, ← wr_eq, h7]) (by simp [sxa, sxb, sxc, Ex.ok, Ex.val, ← wr_eq, *]; try omega) (by simp [sxa, sxb, sxc, Ex.ok, Ex.val, ← wr_eq]) ?_
      all_goals
        rintro V2 b2 b3 b5 b6 b7 b8
        cases X
        all_goals
          simp [sxa, sxb, sxc, Ex.ok, Ex.val, ← wr_eq, b2, b3, b5, b6, b7, b8, hw, hlt', hn4, cs, cp, maybe]
          try (refine OkS_i (by omega) ?_; simp [sxa, sxb, sxc, Ex.ok, Ex.val, ← wr_eq, b2, b3, b5, b6, b7, b8, hw, hlt', hn4, cs, cp, maybe])
    · have : n = 4 := by omega
      subst this
      simp [sxa, sxb, sxc, Ex.ok, Ex.val, ← wr_eq, *]
end Go.Eng
namespace Go.Eng
open Go Go.Proofs Geo
set_option linter.unusedSimpArgs false
set_option linter.unusedVariables false
set_option maxRecDepth 20000

theorem maybe_all (c : Bool) (p : Pt) (f : Pt → Bool) : (maybe c p).all f = (!c || f p) := by cases c <;> simp [maybe]
theorem maybe_len (c : Bool) (p : Pt) : (maybe c p).length = if c = true then 1 else 0 := by cases c <;> simp [maybe]
theorem shl_eq {ax ay bx by' cx cy dx dy : Int} (h1 : M_IsSegment ax ay bx by' = true) (h2 : M_IsSegment cx cy dx dy = true) :
    ((shl ⟨⟨ax, ay⟩, ⟨bx, by'⟩⟩ ⟨⟨cx, cy⟩, ⟨dx, dy⟩⟩ (ends ⟨⟨ax, ay⟩, ⟨bx, by'⟩⟩ ⟨⟨cx, cy⟩, ⟨dx, dy⟩⟩) 4).length : Int) = M_Shared ax ay bx by' cx cy dx dy := by
  obtain ⟨pa, pb, hs⟩ := (M_IsSegment_iff _ _ _ _).1 h1
  obtain ⟨pc, pd, ht⟩ := (M_IsSegment_iff _ _ _ _).1 h2
  have e4 : ∀ {ax ay bx by' px py : Int}, M_IsSegment ax ay bx by' = true → Vl px ∧ Vl py → M_IsOn ax ay bx by' px py = decide (On ax ay bx by' px py) := by
    intro ax ay bx by' px py g1 g2
    unfold M_IsOn
    rw [g1, (M_IsPoint_iff _ _).2 g2, Bool.true_and, Bool.true_and]
  have n01 : eqb ⟨ax, ay⟩ ⟨bx, by'⟩ = false := decide_eq_false hs
  have n23 : eqb ⟨cx, cy⟩ ⟨dx, dy⟩ = false := decide_eq_false ht
  have E0 : (ends ⟨⟨ax, ay⟩, ⟨bx, by'⟩⟩ ⟨⟨cx, cy⟩, ⟨dx, dy⟩⟩).getD 0 ⟨0, 0⟩ = ⟨ax, ay⟩ := rfl
  have E1 : (ends ⟨⟨ax, ay⟩, ⟨bx, by'⟩⟩ ⟨⟨cx, cy⟩, ⟨dx, dy⟩⟩).getD 1 ⟨0, 0⟩ = ⟨bx, by'⟩ := rfl
  have E2 : (ends ⟨⟨ax, ay⟩, ⟨bx, by'⟩⟩ ⟨⟨cx, cy⟩, ⟨dx, dy⟩⟩).getD 2 ⟨0, 0⟩ = ⟨cx, cy⟩ := rfl
  have E3 : (ends ⟨⟨ax, ay⟩, ⟨bx, by'⟩⟩ ⟨⟨cx, cy⟩, ⟨dx, dy⟩⟩).getD 3 ⟨0, 0⟩ = ⟨dx, dy⟩ := rfl
  simp only [shl, E0, E1, E2, E3, e4 h1 pc, e4 h1 pd, e4 h2 pa, e4 h2 pb, Nat.reduceLT, if_true, if_false, List.nil_append, List.all_nil, Bool.and_true, Nat.reduceAdd, List.all_append, maybe_all, n01, n23, Bool.not_false, Bool.or_true]
  generalize hc0 : decide (On cx cy dx dy ax ay) = c0
  generalize hc1 : decide (On cx cy dx dy bx by') = c1
  generalize hc2 : (decide (On ax ay bx by' cx cy) && ((!c0 || !eqb ⟨ax, ay⟩ ⟨cx, cy⟩) && (!c1 || !eqb ⟨bx, by'⟩ ⟨cx, cy⟩))) = c2
  generalize hc3 : (decide (On ax ay bx by' dx dy) && ((!c0 || !eqb ⟨ax, ay⟩ ⟨dx, dy⟩) && (!c1 || !eqb ⟨bx, by'⟩ ⟨dx, dy⟩))) = c3
  rw [List.length_append, List.length_append, List.length_append, maybe_len, maybe_len, maybe_len, maybe_len]
  unfold M_Shared
  have q0 : c0 = true ↔ On cx cy dx dy ax ay := by rw [← hc0, decide_eq_true_iff]
  have q1 : c1 = true ↔ On cx cy dx dy bx by' := by rw [← hc1, decide_eq_true_iff]
  have nn : ∀ (c : Bool) (p q : Pt), (!c || !eqb p q) = true ↔ ¬ (c = true ∧ p.f0 = q.f0 ∧ p.f1 = q.f1) := by
    intro c p q
    unfold eqb
    by_cases h : p.f0 = q.f0 ∧ p.f1 = q.f1
    · rw [decide_eq_true h]; cases c <;> simp [h.1, h.2]
    · rw [decide_eq_false h]
      exact ⟨fun _ k => h k.2, fun _ => by cases c <;> rfl⟩
  have q2 : c2 = true ↔ On ax ay bx by' cx cy ∧ ¬ (On cx cy dx dy ax ay ∧ ax = cx ∧ ay = cy) ∧ ¬ (On cx cy dx dy bx by' ∧ bx = cx ∧ by' = cy) := by
    rw [← hc2, Bool.and_eq_true, Bool.and_eq_true, decide_eq_true_iff, nn, nn, q0, q1]
  have q3 : c3 = true ↔ On ax ay bx by' dx dy ∧ ¬ (On cx cy dx dy ax ay ∧ ax = dx ∧ ay = dy) ∧ ¬ (On cx cy dx dy bx by' ∧ bx = dx ∧ by' = dy) := by
    rw [← hc3, Bool.and_eq_true, Bool.and_eq_true, decide_eq_true_iff, nn, nn, q0, q1]
  rw [← ifc q0, ← ifc q1, ← ifc q2, ← ifc q3]
  cases c0 <;> cases c1 <;> cases c2 <;> cases c3 <;> rfl
def wHowS (ax ay bx by' cx cy dx dy sh : Int) : Int :=
  if M_IsSegment ax ay bx by' = true ∧ M_IsSegment cx cy dx dy = true then
    if max ax bx < min cx dx ∨ max cx dx < min ax bx ∨ max ay by' < min cy dy ∨ max cy dy < min ay by' then 0
    else if sh = 0 then (if wr .i64 (M_SideOf ax ay bx by' cx cy * M_SideOf ax ay bx by' dx dy) < 0 ∧ wr .i64 (M_SideOf cx cy dx dy ax ay * M_SideOf cx cy dx dy bx by') < 0 then 2 else 0)
    else if sh = 1 then 1 else 3
  else 0
theorem wr_sgn (x y : Int) : wr .i64 (sgn x * sgn y) = sgn x * sgn y := by
  have hx := sgn_le x
  have hy := sgn_le y
  have hb := mul_bound (x := sgn x) (y := sgn y) (by omega) (by omega) (by omega) (by omega)
  exact wrap_id (by omega) (by omega)
theorem wHowS_eq (ax ay bx by' cx cy dx dy : Int) : wHowS ax ay bx by' cx cy dx dy ((shl ⟨⟨ax, ay⟩, ⟨bx, by'⟩⟩ ⟨⟨cx, cy⟩, ⟨dx, dy⟩⟩ (ends ⟨⟨ax, ay⟩, ⟨bx, by'⟩⟩ ⟨⟨cx, cy⟩, ⟨dx, dy⟩⟩) 4).length : Int) = M_HowMeet ax ay bx by' cx cy dx dy := by
  unfold wHowS
  by_cases h : M_IsSegment ax ay bx by' = true ∧ M_IsSegment cx cy dx dy = true
  · rw [if_pos h, shl_eq h.1 h.2]
    obtain ⟨pa, pb, hs⟩ := (M_IsSegment_iff _ _ _ _).1 h.1
    obtain ⟨pc, pd, ht⟩ := (M_IsSegment_iff _ _ _ _).1 h.2
    have qa := (M_IsPoint_iff ax ay).2 pa
    have qb := (M_IsPoint_iff bx by').2 pb
    have qc := (M_IsPoint_iff cx cy).2 pc
    have qd := (M_IsPoint_iff dx dy).2 pd
    rw [M_HowMeet_spec pa.1 pa.2 pb.1 pb.2 hs pc.1 pc.2 pd.1 pd.2 ht, side_sgn qa qb qc, side_sgn qa qb qd, side_sgn qc qd qa, side_sgn qc qd qb, wr_sgn, wr_sgn]
    simp only [sgn_mul]
    rfl
  · rw [if_neg h]; unfold M_HowMeet; rw [if_neg h]
theorem f65 (ax ay bx by' cx cy dx dy : Int) : Fn Try.prog 65 false [.agg [i ax, i ay, i bx, i by'], .agg [i cx, i cy, i dx, i dy]] (i (M_HowMeet ax ay bx by' cx cy dx dy)) := by
  rw [← wHowS_eq]
  refine Fn.by_sx hX (by kernel_rfl) c65 (by kernel_rfl) (by rfl) ?_
  simp [i65, sxa, sxb, sxc, Ex.ok, Ex.val, ← wr_eq]
  repeat' (first | intro _ | (simp [sxa, sxb, sxc, Ex.ok, Ex.val, ← wr_eq, *]) | refine CallS_b (f68 _ _ _ _) (fun h => ?_) (fun h => ?_) | refine CallS_i (f69 _ _) ?_ | refine CallS_i (f79 _ _) ?_ | refine CallS_i (f80 ⟨⟨ax, ay⟩, ⟨bx, by'⟩⟩ ⟨⟨cx, cy⟩, ⟨dx, dy⟩⟩) ?_ | refine CallS_i (f81 _ _ _ _ _ _) ?_ | refine CondS_d ?_ ?_ | refine CondS_b ?_ ?_ | refine GrdS_d ?_ ?_ | refine GrdS_b ?_ ?_ | refine OkS_i (by omega) ?_ | fail)
  all_goals simp_all [wHowS]
  all_goals omega
end Go.Eng
namespace Go.Eng
open Go Go.Proofs Geo
set_option linter.unusedSimpArgs false
set_option linter.unusedVariables false
set_option maxRecDepth 20000

theorem before_K {ax ay bx by' : Int} (v0 : Vl ax) (v1 : Vl bx) : before ax ay bx by' = decide (K ax ay < K bx by') := by
  unfold before Vl K at *
  rw [Bool.eq_iff_iff]
  simp
  omega
def wM (lx ly hx hy mx my nx ny : Int) : Int :=
  if before (if before nx ny hx hy then nx else hx) (if before nx ny hx hy then ny else hy) (if before lx ly mx my then mx else lx) (if before lx ly mx my then my else ly) then 0
  else if (if before lx ly mx my then mx else lx) = (if before nx ny hx hy then nx else hx) ∧ (if before lx ly mx my then my else ly) = (if before nx ny hx hy then ny else hy) then 1 else 3
theorem wM_eq {lx ly hx hy mx my nx ny : Int} (u0 : Vl lx) (u1 : Vl hx) (u2 : Vl mx) (u3 : Vl nx) :
    wM lx ly hx hy mx my nx ny = if min (K hx hy) (K nx ny) < max (K lx ly) (K mx my) then 0 else if max (K lx ly) (K mx my) = min (K hx hy) (K nx ny) then 1 else 3 := by
  unfold wM
  rw [before_K u3 u1, before_K u0 u2]
  by_cases d1 : K lx ly < K mx my <;> by_cases d2 : K nx ny < K hx hy <;> simp only [d1, d2, decide_true, decide_false, if_true, if_false, Bool.false_eq_true]
  · rw [before_K u3 u2]
    have ki := K_inj (ay := my) (by' := ny) u2 u3
    simp only [decide_eq_true_eq]
    split <;> split <;> (try split) <;> (try split) <;> omega
  · rw [before_K u1 u2]
    have ki := K_inj (ay := my) (by' := hy) u2 u1
    simp only [decide_eq_true_eq]
    split <;> split <;> (try split) <;> (try split) <;> omega
  · rw [before_K u3 u0]
    have ki := K_inj (ay := ly) (by' := ny) u0 u3
    simp only [decide_eq_true_eq]
    split <;> split <;> (try split) <;> (try split) <;> omega
  · rw [before_K u1 u0]
    have ki := K_inj (ay := ly) (by' := hy) u0 u1
    simp only [decide_eq_true_eq]
    split <;> split <;> (try split) <;> (try split) <;> omega
def wHowI (ax ay bx by' cx cy dx dy : Int) : Int :=
  if M_IsSegment ax ay bx by' = true ∧ M_IsSegment cx cy dx dy = true then
    if M_SideOf ax ay bx by' cx cy = 0 ∧ M_SideOf ax ay bx by' dx dy = 0 then
      wM (if before bx by' ax ay then bx else ax) (if before bx by' ax ay then by' else ay) (if before bx by' ax ay then ax else bx) (if before bx by' ax ay then ay else by')
         (if before dx dy cx cy then dx else cx) (if before dx dy cx cy then dy else cy) (if before dx dy cx cy then cx else dx) (if before dx dy cx cy then cy else dy)
    else if wr .i64 (M_SideOf ax ay bx by' cx cy * M_SideOf ax ay bx by' dx dy) < 0 ∧ wr .i64 (M_SideOf cx cy dx dy ax ay * M_SideOf cx cy dx dy bx by') < 0 then 2
    else if M_IsOn ax ay bx by' cx cy = true ∨ M_IsOn ax ay bx by' dx dy = true ∨ M_IsOn cx cy dx dy ax ay = true ∨ M_IsOn cx cy dx dy bx by' = true then 1 else 0
  else 0
theorem wHowI_eq (ax ay bx by' cx cy dx dy : Int) : wHowI ax ay bx by' cx cy dx dy = M_HowMeet ax ay bx by' cx cy dx dy := by
  unfold wHowI M_HowMeet
  by_cases h : M_IsSegment ax ay bx by' = true ∧ M_IsSegment cx cy dx dy = true
  · rw [if_pos h, if_pos h]
    obtain ⟨pa, pb, hs⟩ := (M_IsSegment_iff _ _ _ _).1 h.1
    obtain ⟨pc, pd, ht⟩ := (M_IsSegment_iff _ _ _ _).1 h.2
    have qa := (M_IsPoint_iff ax ay).2 pa
    have qb := (M_IsPoint_iff bx by').2 pb
    have qc := (M_IsPoint_iff cx cy).2 pc
    have qd := (M_IsPoint_iff dx dy).2 pd
    have e4 : ∀ {ax ay bx by' px py : Int}, M_IsSegment ax ay bx by' = true → M_IsPoint px py = true → (M_IsOn ax ay bx by' px py = true ↔ On ax ay bx by' px py) := by
      intro ax ay bx by' px py g1 g2
      unfold M_IsOn
      rw [g1, g2, Bool.true_and, Bool.true_and, decide_eq_true_iff]
    rw [side_sgn qa qb qc, side_sgn qa qb qd, side_sgn qc qd qa, side_sgn qc qd qb, wr_sgn, wr_sgn, before_K pb.1 pa.1, before_K pd.1 pc.1]
    simp only [sgn_mul, sgn_zero, e4 h.1 qc, e4 h.1 qd, e4 h.2 qa, e4 h.2 qb]
    congr 1
    have mm : ∀ a b : Int, a < b → min b a = a ∧ max b a = b ∧ min a b = a ∧ max a b = b := by intro a b h; omega
    have mn' : ∀ a b : Int, ¬ a < b → min b a = b ∧ max b a = a := by intro a b h; omega
    by_cases s1 : K bx by' < K ax ay <;> by_cases s2 : K dx dy < K cx cy <;> simp only [s1, s2, decide_true, decide_false, if_true, if_false, Bool.false_eq_true]
    · rw [wM_eq pb.1 pa.1 pd.1 pc.1, (mm _ _ s1).1, (mm _ _ s1).2.1, (mm _ _ s2).1, (mm _ _ s2).2.1]
    · rw [wM_eq pb.1 pa.1 pc.1 pd.1, (mm _ _ s1).1, (mm _ _ s1).2.1, (mn' _ _ s2).1, (mn' _ _ s2).2]
    · rw [wM_eq pa.1 pb.1 pd.1 pc.1, (mn' _ _ s1).1, (mn' _ _ s1).2, (mm _ _ s2).1, (mm _ _ s2).2.1]
    · rw [wM_eq pa.1 pb.1 pc.1 pd.1, (mn' _ _ s1).1, (mn' _ _ s1).2, (mn' _ _ s2).1, (mn' _ _ s2).2]
  · rw [if_neg h, if_neg h]
set_option maxHeartbeats 2000000 in
theorem f71 (ax ay bx by' cx cy dx dy : Int) : Fn Try.prog 71 false [.agg [i ax, i ay, i bx, i by'], .agg [i cx, i cy, i dx, i dy]] (i (M_HowMeet ax ay bx by' cx cy dx dy)) := by
  rw [← wHowI_eq]
  refine Fn.by_sx hX (by kernel_rfl) c71 (by kernel_rfl) (by rfl) ?_
  simp [i71, sxa, sxb, sxc, Ex.ok, Ex.val, ← wr_eq]
  repeat' (first | intro _ | (simp [sxa, sxb, sxc, Ex.ok, Ex.val, ← wr_eq, *]) | refine CallS_b (f73 _ _ _ _) (fun h => ?_) (fun h => ?_) | refine CallS_b (f30 _ _ _ _) (fun h => ?_) (fun h => ?_) | refine CallS_b (f84 _ _ _ _ _ _) (fun h => ?_) (fun h => ?_) | refine CallS_i (f82 _ _ _ _ _ _) ?_ | refine CallS_i (f83 _ _ _ _) ?_ | refine CondS_d ?_ ?_ | refine CondS_b ?_ ?_ | refine GrdS_d ?_ ?_ | refine GrdS_b ?_ ?_ | refine OkS_i (by omega) ?_ | fail)
  all_goals simp_all [wHowI, wM, wr_zero]
  all_goals (intros; omega)
end Go.Eng
namespace Go.Eng
open Go Go.Proofs Geo
set_option linter.unusedSimpArgs false
set_option linter.unusedVariables false
set_option maxRecDepth 20000

def allTo (ok : Nat → Bool) (n : Nat) : Bool := (List.range n).all ok
theorem allTo_bad {ok : Nat → Bool} {n N : Nat} (h : n < N) (hb : ok n = false) : allTo ok N = false := by
  unfold allTo; rw [List.all_eq_false]; exact ⟨n, List.mem_range.2 h, by simp [hb]⟩
theorem allTo_zero {ok : Nat → Bool} : allTo ok 0 = true := rfl
theorem allTo_succ {ok : Nat → Bool} {n : Nat} : allTo ok (n + 1) = (allTo ok n && ok n) := by
  unfold allTo; rw [List.range_succ, List.all_append]; simp
def okAt (l : List Pt) (n : Nat) : Bool := M_IsPoint (l.getD n ⟨0, 0⟩).f0 (l.getD n ⟨0, 0⟩).f1 && !(decide (0 < n) && eqb (l.getD (n - 1) ⟨0, 0⟩) (l.getD n ⟨0, 0⟩))
def wLine (l : List Pt) : Bool := inR l.length 2 10 && allTo (okAt l) l.length
theorem wLine_len {l : List Pt} (h : wLine l = true) : 2 ≤ l.length ∧ l.length ≤ 10 := by
  unfold wLine inR at h
  simp at h
  omega
theorem f66 (l : List Pt) (nl : Bool) (hl : l.length ≤ 1152921504606846976) : Fn Try.prog 66 false [.lst 2 nl (l.map cp)] (.bool (wLine l)) := by
  refine Fn.by_sx hX (by kernel_rfl) c66 (by kernel_rfl) (by rfl) ?_
  simp [i66, sxa, sxb, sxc, Ex.ok, Ex.val, ← wr_eq]
  refine sx_count l.length (fun n V => V 0 = .lst 2 nl (l.map cp) ∧ V 3 = i n ∧ allTo (okAt l) n = true) 0 (by omega) (by simp [sxa, sxb, sxc, Ex.ok, Ex.val, ← wr_eq, allTo_zero]) ?_
  rintro n V hn ⟨h0, h3, ha⟩
  simp [sxa, sxb, sxc, Ex.ok, Ex.val, ← wr_eq, h0, h3]
  refine CondS_d (fun hlt => ?_) (fun hge => ?_)
  · have hlt' : n < l.length := by omega
    have hbad : okAt l n = false → wLine l = false := fun h => by simp [wLine, allTo_bad hlt' h]
    rcases Nat.eq_zero_or_pos n with rfl | hpos
    · repeat' (first | intro _ | (simp [sxa, sxb, sxc, Ex.ok, Ex.val, ← wr_eq, cp, allTo_succ, *]) | refine CallS_b (f19 _ _) (fun h => ?_) (fun h => ?_) | refine CondS_d ?_ ?_ | refine CondS_b ?_ ?_ | refine GrdS_d ?_ ?_ | refine GrdS_b ?_ ?_ | refine OkS_i (by omega) ?_ | fail)
      all_goals first | (apply hbad; simp_all [okAt, eqb]; done) | simp_all [okAt, eqb]
      all_goals omega
    · have hw : wr .i64 ((n : Int) + 1) = n + 1 := wr_in (by omega) (by omega)
      have hw2 : wr .i64 ((n : Int) - 1) = ((n - 1 : Nat) : Int) := wrap_down n hpos (by omega)
      have hpos' : (0 : Int) < n := by omega
      have hm : n - 1 < l.length := by omega
      repeat' (first | intro _ | (simp [sxa, sxb, sxc, Ex.ok, Ex.val, ← wr_eq, cp, allTo_succ, *]) | refine CallS_b (f19 _ _) (fun h => ?_) (fun h => ?_) | refine CondS_d ?_ ?_ | refine CondS_b ?_ ?_ | refine GrdS_d ?_ ?_ | refine GrdS_b ?_ ?_ | refine OkS_i (by omega) ?_ | fail)
      all_goals first | (apply hbad; simp_all [okAt, eqb]; done) | simp_all [okAt, eqb]
      all_goals omega
  · have : n = l.length := by omega
    subst this
    repeat' (first | intro _ | (simp [sxa, sxb, sxc, Ex.ok, Ex.val, ← wr_eq, *]) | refine CallS_i (f35 _ _ _) ?_ | refine CondS_d ?_ ?_ | refine CondS_b ?_ ?_ | refine GrdS_d ?_ ?_ | refine GrdS_b ?_ ?_ | refine OkS_i (by omega) ?_ | fail)
    all_goals simp_all [wLine]
theorem f70 (l : List Pt) (nl : Bool) (hl : l.length ≤ 1152921504606846976) : Fn Try.prog 70 false [.lst 2 nl (l.map cp)] (.bool (wLine l)) := by
  refine Fn.by_sx hX (by kernel_rfl) c70 (by kernel_rfl) (by rfl) ?_
  simp [i70, sxa, sxb, sxc, Ex.ok, Ex.val, ← wr_eq]
  by_cases hlen : inR l.length 2 10 = true
  · have hL : ¬ l.length < 2 ∧ ¬ 10 < l.length := by simp [inR] at hlen; omega
    have hL1 : ¬ (l.length : Int) < 2 := by omega
    have hL2 : ¬ (10 : Int) < l.length := by omega
    repeat' (first | intro _ | (simp [sxa, sxb, sxc, Ex.ok, Ex.val, ← wr_eq, *]) | refine CondS_d ?_ ?_ | refine CondS_b ?_ ?_ | refine GrdS_d ?_ ?_ | refine GrdS_b ?_ ?_ | refine OkS_i (by omega) ?_ | fail)
    refine sx_count l.length (fun n V => V 0 = .lst 2 nl (l.map cp) ∧ V 13 = .lst 2 nl (l.map cp) ∧ V 14 = i l.length ∧ V 15 = i n ∧ allTo (okAt l) n = true) 0 (by omega) (by simp [sxa, sxb, sxc, Ex.ok, Ex.val, ← wr_eq, allTo_zero]) ?_
    rintro n V hn ⟨h0, h13, h14, h15, ha⟩
    simp [sxa, sxb, sxc, Ex.ok, Ex.val, ← wr_eq, h14, h15]
    refine CondS_d (fun hlt => ?_) (fun hge => ?_)
    · have hlt' : n < l.length := by omega
      have hbad : okAt l n = false → wLine l = false := fun h => by simp [wLine, allTo_bad hlt' h]
      rcases Nat.eq_zero_or_pos n with rfl | hpos
      · repeat' (first | intro _ | (simp [sxa, sxb, sxc, Ex.ok, Ex.val, ← wr_eq, cp, allTo_succ, *]) | refine CallS_b (f24 _ _) (fun h => ?_) (fun h => ?_) | refine CondS_d ?_ ?_ | refine CondS_b ?_ ?_ | refine GrdS_d ?_ ?_ | refine GrdS_b ?_ ?_ | refine OkS_i (by omega) ?_ | fail)
        all_goals first | (apply hbad; simp_all [okAt, eqb]; done) | simp_all [okAt, eqb]
        all_goals omega
      · have hw : wr .i64 ((n : Int) + 1) = n + 1 := wr_in (by omega) (by omega)
        have hw2 : wr .i64 ((n : Int) - 1) = ((n - 1 : Nat) : Int) := wrap_down n hpos (by omega)
        have hpos' : (0 : Int) < n := by omega
        have hm : n - 1 < l.length := by omega
        repeat' (first | intro _ | (simp [sxa, sxb, sxc, Ex.ok, Ex.val, ← wr_eq, cp, allTo_succ, *]) | refine CallS_b (f24 _ _) (fun h => ?_) (fun h => ?_) | refine CondS_d ?_ ?_ | refine CondS_b ?_ ?_ | refine GrdS_d ?_ ?_ | refine GrdS_b ?_ ?_ | refine OkS_i (by omega) ?_ | fail)
        all_goals first | (apply hbad; simp_all [okAt, eqb]; done) | simp_all [okAt, eqb]
        all_goals omega
    · have : n = l.length := by omega
      subst this
      repeat' (first | intro _ | (simp [sxa, sxb, sxc, Ex.ok, Ex.val, ← wr_eq, *]) | refine CondS_d ?_ ?_ | refine CondS_b ?_ ?_ | refine GrdS_d ?_ ?_ | refine GrdS_b ?_ ?_ | refine OkS_i (by omega) ?_ | fail)
      all_goals simp_all [wLine]
  · have hf : wLine l = false := by simp [wLine, hlen]
    have hL : (l.length : Int) < 2 ∨ (10 : Int) < l.length := by simp [inR] at hlen; omega
    rcases hL with h | h
    · repeat' (first | intro _ | (simp [sxa, sxb, sxc, Ex.ok, Ex.val, ← wr_eq, *]) | refine CondS_d ?_ ?_ | refine CondS_b ?_ ?_ | refine GrdS_d ?_ ?_ | refine GrdS_b ?_ ?_ | refine OkS_i (by omega) ?_ | fail)
    · have : ¬ (l.length : Int) < 2 := by omega
      repeat' (first | intro _ | (simp [sxa, sxb, sxc, Ex.ok, Ex.val, ← wr_eq, *]) | refine CondS_d ?_ ?_ | refine CondS_b ?_ ?_ | refine GrdS_d ?_ ?_ | refine GrdS_b ?_ ?_ | refine OkS_i (by omega) ?_ | fail)
end Go.Eng
namespace Go.Eng
open Go Go.Proofs Geo
set_option linter.unusedSimpArgs false
set_option linter.unusedVariables false
set_option maxRecDepth 20000

/-- a list that is built index by index -/
def upTo {α : Type} (f : Nat → α) (n : Nat) : List α := (List.range n).map f
theorem upTo_zero {α : Type} {f : Nat → α} : upTo f 0 = [] := rfl
theorem upTo_succ {α : Type} {f : Nat → α} {n : Nat} : upTo f (n + 1) = upTo f n ++ [f n] := by simp [upTo, List.range_succ]
theorem upTo_length {α : Type} {f : Nat → α} {n : Nat} : (upTo f n).length = n := by simp [upTo]
theorem upTo_get {α : Type} {f : Nat → α} {n k : Nat} (h : k < n) : (upTo f n)[k]? = some (f k) := by simp [upTo, h]
theorem tmod_nat (a b : Nat) : ((a : Int) + 1).tmod (b : Int) = (((a + 1) % b : Nat) : Int) := by
  have : ((a : Int) + 1) = ((a + 1 : Nat) : Int) := rfl
  rw [this, Int.ofNat_tmod]
def sgAt (l : List Pt) (k : Nat) : Sg := ⟨l.getD k ⟨0, 0⟩, l.getD (k + 1) ⟨0, 0⟩⟩
def rgAt (l : List Pt) (k : Nat) : Sg := ⟨l.getD k ⟨0, 0⟩, l.getD ((k + 1) % l.length) ⟨0, 0⟩⟩
def wSegs (l : List Pt) : List Sg := if wLine l = true then upTo (sgAt l) (l.length - 1) else []
theorem f48 (l : List Pt) (nl : Bool) (hl : l.length ≤ 1152921504606846976) : Fn Try.prog 48 true [.lst 2 nl (l.map cp)] (.lst 4 false ((wSegs l).map cs)) := by
  refine Fn.by_sx hX (by kernel_rfl) c48 (by kernel_rfl) (by rfl) ?_
  simp [i48, sxa, sxb, sxc, Ex.ok, Ex.val, ← wr_eq]
  by_cases hL : wLine l = true
  · have hn := wLine_len hL
    refine sx_count l.length (fun n V => 1 ≤ n ∧ V 0 = .lst 2 nl (l.map cp) ∧ V 4 = i n ∧ V 3 = .lst 4 false ((upTo (sgAt l) (n - 1)).map cs)) 1 (by omega) (by simp [sxa, sxb, sxc, Ex.ok, Ex.val, ← wr_eq, upTo_zero]) ?_
    rintro n V hn ⟨h1, h0, h4, h3⟩
    simp [sxa, sxb, sxc, Ex.ok, Ex.val, ← wr_eq, h0, h3, h4]
    refine GrdS_d (fun hlt => ?_) (fun hge => ?_)
    · have hlt' : n < l.length := by omega
      have hw : wr .i64 ((n : Int) + 1) = n + 1 := wr_in (by omega) (by omega)
      have hw2 : wr .i64 ((n : Int) - 1) = ((n - 1 : Nat) : Int) := wrap_down n h1 (by omega)
      have hm : n - 1 < l.length := by omega
      have ex : upTo (sgAt l) n = upTo (sgAt l) (n - 1) ++ [⟨l[n - 1], l[n]⟩] := by
        have := upTo_succ (f := sgAt l) (n := n - 1)
        rw [Nat.sub_add_cancel h1] at this
        rw [this]; simp [sgAt, hm, hlt', Nat.sub_add_cancel h1]
      repeat' (first | intro _ | (simp [sxa, sxb, sxc, Ex.ok, Ex.val, ← wr_eq, cp, cs, upTo_length, *]) | refine CallS_i (f66 l nl hl) ?_ | refine CondS_d ?_ ?_ | refine CondS_b ?_ ?_ | refine GrdS_d ?_ ?_ | refine GrdS_b ?_ ?_ | refine OkS_i (by omega) ?_ | fail)
    · have : n = l.length := by omega
      subst this
      repeat' (first | intro _ | (simp [sxa, sxb, sxc, Ex.ok, Ex.val, ← wr_eq, cp, cs, wSegs, *]) | refine CallS_i (f66 l nl hl) ?_ | refine CondS_d ?_ ?_ | refine CondS_b ?_ ?_ | refine GrdS_d ?_ ?_ | refine GrdS_b ?_ ?_ | refine OkS_i (by omega) ?_ | fail)
  · have hf : wSegs l = [] := by simp [wSegs, hL]
    have hL' : wLine l = false := by simpa using hL
    refine sx_count (max 1 l.length) (fun n V => n = 1 ∧ V 0 = .lst 2 nl (l.map cp) ∧ V 4 = i 1 ∧ V 3 = .lst 4 false []) 1 (by omega) (by simp [sxa, sxb, sxc, Ex.ok, Ex.val, ← wr_eq]) ?_
    rintro n V hn ⟨h1, h0, h4, h3⟩
    simp [sxa, sxb, sxc, Ex.ok, Ex.val, ← wr_eq, h0, h3, h4]
    repeat' (first | intro _ | (simp [sxa, sxb, sxc, Ex.ok, Ex.val, ← wr_eq, cp, cs, *]) | refine CallS_i (f66 l nl hl) ?_ | refine CondS_d ?_ ?_ | refine CondS_b ?_ ?_ | refine GrdS_d ?_ ?_ | refine GrdS_b ?_ ?_ | refine OkS_i (by omega) ?_ | fail)
theorem f53 (l : List Pt) (nl : Bool) (hl : l.length ≤ 1152921504606846976) : Fn Try.prog 53 true [.lst 2 nl (l.map cp)] (.lst 4 false ((wSegs l).map cs)) := by
  refine Fn.by_sx hX (by kernel_rfl) c53 (by kernel_rfl) (by rfl) ?_
  simp [i53, sxa, sxb, sxc, Ex.ok, Ex.val, ← wr_eq]
  refine CallS_b (f70 l nl hl) (fun hL => ?_) (fun hL => ?_)
  · have hn := wLine_len hL
    repeat' (first | intro _ | (simp [sxa, sxb, sxc, Ex.ok, Ex.val, ← wr_eq, *]) | refine CondS_d ?_ ?_ | refine CondS_b ?_ ?_ | refine GrdS_d ?_ ?_ | refine GrdS_b ?_ ?_ | refine OkS_i (by omega) ?_ | fail)
    refine sx_count l.length (fun n V => 1 ≤ n ∧ V 0 = .lst 2 nl (l.map cp) ∧ V 4 = i n ∧ V 3 = .lst 4 false ((upTo (sgAt l) (n - 1)).map cs)) 1 (by omega) (by simp [sxa, sxb, sxc, Ex.ok, Ex.val, ← wr_eq, upTo_zero]) ?_
    rintro n V hn ⟨h1, h0, h4, h3⟩
    simp [sxa, sxb, sxc, Ex.ok, Ex.val, ← wr_eq, h0, h3, h4]
    refine CondS_d (fun hlt => ?_) (fun hge => ?_)
    · have hlt' : n < l.length := by omega
      have hw : wr .i64 ((n : Int) + 1) = n + 1 := wr_in (by omega) (by omega)
      have hw2 : wr .i64 ((n : Int) - 1) = ((n - 1 : Nat) : Int) := wrap_down n h1 (by omega)
      have hm : n - 1 < l.length := by omega
      have ex : upTo (sgAt l) n = upTo (sgAt l) (n - 1) ++ [⟨l[n - 1], l[n]⟩] := by
        have := upTo_succ (f := sgAt l) (n := n - 1)
        rw [Nat.sub_add_cancel h1] at this
        rw [this]; simp [sgAt, hm, hlt', Nat.sub_add_cancel h1]
      repeat' (first | intro _ | (simp [sxa, sxb, sxc, Ex.ok, Ex.val, ← wr_eq, cp, cs, upTo_length, *]) | refine CondS_d ?_ ?_ | refine CondS_b ?_ ?_ | refine GrdS_d ?_ ?_ | refine GrdS_b ?_ ?_ | refine OkS_i (by omega) ?_ | fail)
    · have : n = l.length := by omega
      subst this
      repeat' (first | intro _ | (simp [sxa, sxb, sxc, Ex.ok, Ex.val, ← wr_eq, cp, cs, wSegs, *]) | refine CondS_d ?_ ?_ | refine CondS_b ?_ ?_ | refine GrdS_d ?_ ?_ | refine GrdS_b ?_ ?_ | refine OkS_i (by omega) ?_ | fail)
  · have hf : wSegs l = [] := by simp [wSegs, hL]
    repeat' (first | intro _ | (simp [sxa, sxb, sxc, Ex.ok, Ex.val, ← wr_eq, cp, cs, *]) | refine CondS_d ?_ ?_ | refine CondS_b ?_ ?_ | refine GrdS_d ?_ ?_ | refine GrdS_b ?_ ?_ | refine OkS_i (by omega) ?_ | fail)
theorem f67 (l : List Pt) (nl : Bool) (hl : l.length ≤ 1000000000000) : Fn Try.prog 67 true [.lst 2 nl (l.map cp)] (.lst 4 false ((upTo (rgAt l) l.length).map cs)) := by
  refine Fn.by_sx hX (by kernel_rfl) c67 (by kernel_rfl) (by rfl) ?_
  simp [i67, sxa, sxb, sxc, Ex.ok, Ex.val, ← wr_eq]
  refine sx_count l.length (fun n V => V 0 = .lst 2 nl (l.map cp) ∧ V 4 = i n ∧ V 3 = .lst 4 false ((upTo (rgAt l) n).map cs)) 0 (by omega) (by simp [sxa, sxb, sxc, Ex.ok, Ex.val, ← wr_eq, upTo_zero]) ?_
  rintro n V hn ⟨h0, h4, h3⟩
  simp [sxa, sxb, sxc, Ex.ok, Ex.val, ← wr_eq, h0, h3, h4]
  refine CondS_d (fun hlt => ?_) (fun hge => ?_)
  · have hlt' : n < l.length := by omega
    have hw : wr .i64 ((n : Int) + 1) = n + 1 := wr_in (by omega) (by omega)
    obtain ⟨q, hq, hq'⟩ : ∃ q, (n + 1) % l.length = q ∧ q < l.length := ⟨_, rfl, Nat.mod_lt _ (by omega)⟩
    have h0' : ¬ l.length = 0 := by omega
    have ht := tmod_nat n l.length
    rw [hq] at ht
    have ex : upTo (rgAt l) (n + 1) = upTo (rgAt l) n ++ [⟨l[n], l[q]⟩] := by
      rw [upTo_succ]; simp [rgAt, hq, hq', hlt']
    clear hq
    repeat' (first | intro _ | (simp [sxa, sxb, sxc, Ex.ok, Ex.val, ← wr_eq, cp, cs, upTo_length, *]) | refine CondS_d ?_ ?_ | refine CondS_b ?_ ?_ | refine GrdS_d ?_ ?_ | refine GrdS_b ?_ ?_ | refine OkS_i (by omega) ?_ | fail)
  · have : n = l.length := by omega
    subst this
    repeat' (first | intro _ | (simp [sxa, sxb, sxc, Ex.ok, Ex.val, ← wr_eq, cp, cs, *]) | refine CondS_d ?_ ?_ | refine CondS_b ?_ ?_ | refine GrdS_d ?_ ?_ | refine GrdS_b ?_ ?_ | refine OkS_i (by omega) ?_ | fail)
theorem f72 (l : List Pt) (nl : Bool) (hl : l.length ≤ 1000000000000) : Fn Try.prog 72 true [.lst 2 nl (l.map cp)] (.lst 4 false ((upTo (rgAt l) l.length).map cs)) := by
  refine Fn.by_sx hX (by kernel_rfl) c72 (by kernel_rfl) (by rfl) ?_
  simp [i72, sxa, sxb, sxc, Ex.ok, Ex.val, ← wr_eq]
  refine sx_count l.length (fun n V => V 0 = .lst 2 nl (l.map cp) ∧ V 7 = .lst 2 nl (l.map cp) ∧ V 8 = i l.length ∧ V 9 = i n ∧ V 3 = .lst 4 false ((upTo (rgAt l) n).map cs)) 0 (by omega) (by simp [sxa, sxb, sxc, Ex.ok, Ex.val, ← wr_eq, upTo_zero]) ?_
  rintro n V hn ⟨h0, h7, h8, h9, h3⟩
  simp [sxa, sxb, sxc, Ex.ok, Ex.val, ← wr_eq, h8, h9]
  refine CondS_d (fun hlt => ?_) (fun hge => ?_)
  · have hlt' : n < l.length := by omega
    have hw : wr .i64 ((n : Int) + 1) = n + 1 := wr_in (by omega) (by omega)
    obtain ⟨q, hq, hq'⟩ : ∃ q, (n + 1) % l.length = q ∧ q < l.length := ⟨_, rfl, Nat.mod_lt _ (by omega)⟩
    have h0' : ¬ l.length = 0 := by omega
    have ht := tmod_nat n l.length
    rw [hq] at ht
    have ex : upTo (rgAt l) (n + 1) = upTo (rgAt l) n ++ [⟨l[n], l[q]⟩] := by
      rw [upTo_succ]; simp [rgAt, hq, hq', hlt']
    clear hq
    repeat' (first | intro _ | (simp [sxa, sxb, sxc, Ex.ok, Ex.val, ← wr_eq, cp, cs, upTo_length, *]) | refine CondS_d ?_ ?_ | refine CondS_b ?_ ?_ | refine GrdS_d ?_ ?_ | refine GrdS_b ?_ ?_ | refine OkS_i (by omega) ?_ | fail)
  · have : n = l.length := by omega
    subst this
    repeat' (first | intro _ | (simp [sxa, sxb, sxc, Ex.ok, Ex.val, ← wr_eq, cp, cs, *]) | refine CondS_d ?_ ?_ | refine CondS_b ?_ ?_ | refine GrdS_d ?_ ?_ | refine GrdS_b ?_ ?_ | refine OkS_i (by omega) ?_ | fail)
end Go.Eng
namespace Go.Eng
open Go Go.Proofs Geo
set_option linter.unusedSimpArgs false
set_option linter.unusedVariables false
set_option maxRecDepth 20000
set_option maxHeartbeats 1000000

def sMeet (a b : Sg) : Int := M_HowMeet a.f0.f0 a.f0.f1 a.f1.f0 a.f1.f1 b.f0.f0 b.f0.f1 b.f1.f0 b.f1.f1
def sgD (S : List Sg) (n : Nat) : Sg := S.getD n ⟨⟨0, 0⟩, ⟨0, 0⟩⟩
def rowS (S : List Sg) (n k : Nat) : Bool := decide (sMeet (sgD S n) (sgD S k) = if k + 1 = n then 1 else 0)
def wSimple (l : List Pt) : Bool := wLine l && allTo (fun n => allTo (rowS (wSegs l) n) n) (wSegs l).length
theorem l46_2 {S : List Sg} {n : Nat} {V : Env} (hn : n < S.length) (hS : S.length ≤ 1000000000000) (h3 : V 3 = .lst 4 false (S.map cs)) (h4 : V 4 = i n) (h5 : V 5 = i 0) :
    sx (FC Try.prog) (.loop (.seq (.seq (.ops [s 15 (.mv (t 5)),
  s 16 (.mv (t 4)),
  s 17 (.bin .lss (t 15) (t 16))])
 (.cond (t 17) .skip (.exit 2)))
 (.seq (.block 3 (.seq (.ops [s 6 (.mv (c (i 0)))])
 (.seq (.seq (.ops [s 20 (.mv (t 5)),
  s 21 (.bin .add (t 20) (c (i 1))),
  s 22 (.mv (t 4)),
  s 23 (.bin .eql (t 21) (t 22))])
 (.cond (t 23) (.ops [s 6 (.mv (c (i 1)))]) .skip))
 (.seq (.ops [s 24 (.mv (t 3)),
  s 25 (.mv (t 4)),
  s 26 (.idx (t 24) (t 25) 4),
  s 27 (.ldE 24 26 0 4 true true 4),
  s 28 (.mv (t 3)),
  s 29 (.mv (t 5)),
  s 30 (.idx (t 28) (t 29) 4),
  s 31 (.ldE 28 30 0 4 true true 4),
  k 32 65 [(t 27), (t 31)] .sc,
  s 33 (.mv (t 6)),
  s 34 (.bin .neq (t 32) (t 33))])
 (.cond (t 34) (.seq (.ops [s 2 (.mv (c (.bool false)))])
 .ret) .skip)))))
 (.ops [s 18 (.mv (t 5)),
  s 19 (.bin .add (t 18) (c (i 1))),
  s 5 (.mv (t 19))])))) (fun x V' => (x = .exit 2 ∧ allTo (rowS S n) n = true ∧ V' 0 = V 0 ∧ V' 3 = V 3 ∧ V' 4 = V 4) ∨ (x = .ret ∧ allTo (rowS S n) n = false ∧ V' 2 = .bool false)) V := by
  refine sx_count n (fun k V' => V' 0 = V 0 ∧ V' 3 = V 3 ∧ V' 4 = V 4 ∧ V' 5 = i k ∧ allTo (rowS S n) k = true) 0 (by omega) ⟨rfl, rfl, rfl, h5, allTo_zero⟩ ?_
  rintro k V' hk ⟨g0, g3, g4, g5, ha⟩
  have hw : wr .i64 ((k : Int) + 1) = k + 1 := wr_in (by omega) (by omega)
  simp [sxa, sxb, sxc, Ex.ok, Ex.val, ← wr_eq, g3, g4, g5, h3, h4]
  refine CondS_d (fun hlt => ?_) (fun hge => ?_)
  · have hk' : k < n := by omega
    have hkS : k < S.length := by omega
    have hbad : rowS S n k = false → allTo (rowS S n) n = false := allTo_bad hk'
    have hgood : rowS S n k = true → allTo (rowS S n) (k + 1) = true := fun h => by rw [allTo_succ, ha, h]; rfl
    have hr : rowS S n k = decide (sMeet S[n] S[k] = if k + 1 = n then 1 else 0) := by simp [rowS, sgD, hn, hkS]
    have hc : ((k : Int) + 1 = n) = (k + 1 = n) := propext ⟨fun h => by omega, fun h => by omega⟩
    by_cases hkn : k + 1 = n
    · repeat' (first | intro _ | (simp [sxa, sxb, sxc, Ex.ok, Ex.val, ← wr_eq, cs, *]) | refine CallS_i (f65 _ _ _ _ _ _ _ _) ?_ | refine CondS_d ?_ ?_ | refine CondS_b ?_ ?_ | refine GrdS_d ?_ ?_ | refine GrdS_b ?_ ?_ | refine OkS_i (by omega) ?_ | fail)
      all_goals first
        | exact hbad (by rw [hr]; simp_all [sMeet])
        | (have h' := hgood (by rw [hr]; simp_all [sMeet]); simp_all)
        | simp_all
    · repeat' (first | intro _ | (simp [sxa, sxb, sxc, Ex.ok, Ex.val, ← wr_eq, cs, *]) | refine CallS_i (f65 _ _ _ _ _ _ _ _) ?_ | refine CondS_d ?_ ?_ | refine CondS_b ?_ ?_ | refine GrdS_d ?_ ?_ | refine GrdS_b ?_ ?_ | refine OkS_i (by omega) ?_ | fail)
      all_goals first
        | exact hbad (by rw [hr]; simp_all [sMeet])
        | (have h' := hgood (by rw [hr]; simp_all [sMeet]); simp_all)
        | simp_all
  · have : k = n := by omega
    subst this
    repeat' (first | intro _ | (simp [sxa, sxb, sxc, Ex.ok, Ex.val, ← wr_eq, *]) | refine CondS_d ?_ ?_ | refine CondS_b ?_ ?_ | refine GrdS_d ?_ ?_ | refine GrdS_b ?_ ?_ | refine OkS_i (by omega) ?_ | fail)
    all_goals simp_all
theorem l51_2 {S : List Sg} {n : Nat} {V : Env} (hn : n < S.length) (hS : S.length ≤ 1000000000000) (h3 : V 3 = .lst 4 false (S.map cs)) (h4 : V 4 = i n) (h17 : V 17 = i n) (h18 : V 18 = i 0) :
    sx (FC Try.prog) (.loop (.seq (.ops [s 19 (.bin .lss (t 18) (t 17))])
 (.seq (.cond (t 19) .skip (.exit 2))
 (.seq (.block 3 (.seq (.ops [s 20 (.mv (t 18)),
  s 5 (.mv (t 20))])
 (.seq (.ops [s 6 (.mv (c (i 0)))])
 (.seq (.seq (.ops [s 21 (.mv (t 5)),
  s 22 (.mv (t 4)),
  s 23 (.bin .sub (t 22) (c (i 1))),
  s 24 (.bin .eql (t 21) (t 23))])
 (.cond (t 24) (.ops [s 6 (.mv (c (i 1)))]) .skip))
 (.seq (.ops [s 25 (.mv (t 3)),
  s 26 (.mv (t 4)),
  s 27 (.idx (t 25) (t 26) 4),
  s 28 (.ldE 25 27 0 4 true true 4),
  s 29 (.mv (t 3)),
  s 30 (.mv (t 5)),
  s 31 (.idx (t 29) (t 30) 4),
  s 32 (.ldE 29 31 0 4 true true 4),
  k 33 71 [(t 28), (t 32)] .sc,
  s 34 (.mv (t 6)),
  s 35 (.bin .neq (t 33) (t 34))])
 (.cond (t 35) (.seq (.ops [s 2 (.mv (c (.bool false)))])
 .ret) .skip))))))
 (.ops [s 36 (.bin .add (t 18) (c (i 1))),
  s 18 (.mv (t 36))]))))) (fun x V' => (x = .exit 2 ∧ allTo (rowS S n) n = true ∧ V' 0 = V 0 ∧ V' 3 = V 3 ∧ V' 13 = V 13 ∧ V' 14 = V 14) ∨ (x = .ret ∧ allTo (rowS S n) n = false ∧ V' 2 = .bool false)) V := by
  refine sx_count n (fun k V' => V' 0 = V 0 ∧ V' 3 = V 3 ∧ V' 4 = V 4 ∧ V' 13 = V 13 ∧ V' 14 = V 14 ∧ V' 17 = V 17 ∧ V' 18 = i k ∧ allTo (rowS S n) k = true) 0 (by omega) ⟨rfl, rfl, rfl, rfl, rfl, rfl, h18, allTo_zero⟩ ?_
  rintro k V' hk ⟨g0, g3, g4, g13, g14, g17, g18, ha⟩
  have hw : wr .i64 ((k : Int) + 1) = k + 1 := wr_in (by omega) (by omega)
  have hw2 : wr .i64 ((n : Int) - 1) = n - 1 := wr_in (by omega) (by omega)
  simp [sxa, sxb, sxc, Ex.ok, Ex.val, ← wr_eq, g17, g18, h17]
  refine CondS_d (fun hlt => ?_) (fun hge => ?_)
  · have hk' : k < n := by omega
    have hkS : k < S.length := by omega
    have hbad : rowS S n k = false → allTo (rowS S n) n = false := allTo_bad hk'
    have hgood : rowS S n k = true → allTo (rowS S n) (k + 1) = true := fun h => by rw [allTo_succ, ha, h]; rfl
    have hr : rowS S n k = decide (sMeet S[n] S[k] = if k + 1 = n then 1 else 0) := by simp [rowS, sgD, hn, hkS]
    have hc : ((k : Int) = n - 1) = (k + 1 = n) := propext ⟨fun h => by omega, fun h => by omega⟩
    by_cases hkn : k + 1 = n
    · repeat' (first | intro _ | (simp [sxa, sxb, sxc, Ex.ok, Ex.val, ← wr_eq, cs, *]) | refine CallS_i (f71 _ _ _ _ _ _ _ _) ?_ | refine CondS_d ?_ ?_ | refine CondS_b ?_ ?_ | refine GrdS_d ?_ ?_ | refine GrdS_b ?_ ?_ | refine OkS_i (by omega) ?_ | fail)
      all_goals first
        | exact hbad (by rw [hr]; simp_all [sMeet])
        | (have h' := hgood (by rw [hr]; simp_all [sMeet]); simp_all)
        | simp_all
    · repeat' (first | intro _ | (simp [sxa, sxb, sxc, Ex.ok, Ex.val, ← wr_eq, cs, *]) | refine CallS_i (f71 _ _ _ _ _ _ _ _) ?_ | refine CondS_d ?_ ?_ | refine CondS_b ?_ ?_ | refine GrdS_d ?_ ?_ | refine GrdS_b ?_ ?_ | refine OkS_i (by omega) ?_ | fail)
      all_goals first
        | exact hbad (by rw [hr]; simp_all [sMeet])
        | (have h' := hgood (by rw [hr]; simp_all [sMeet]); simp_all)
        | simp_all
  · have : k = n := by omega
    subst this
    repeat' (first | intro _ | (simp [sxa, sxb, sxc, Ex.ok, Ex.val, ← wr_eq, *]) | refine CondS_d ?_ ?_ | refine CondS_b ?_ ?_ | refine GrdS_d ?_ ?_ | refine GrdS_b ?_ ?_ | refine OkS_i (by omega) ?_ | fail)
    all_goals simp_all
theorem wSegs_len (l : List Pt) : (wSegs l).length ≤ 9 := by
  unfold wSegs
  split
  · rename_i h
    have := wLine_len h
    rw [upTo_length]; omega
  · simp
theorem f46 (l : List Pt) (nl : Bool) (hl : l.length ≤ 1000000000000) : Fn Try.prog 46 false [.lst 2 nl (l.map cp)] (.bool (wSimple l)) := by
  refine Fn.by_sx hX (by kernel_rfl) c46 (by kernel_rfl) (by rfl) ?_
  simp [i46, sxa, sxb, sxc, Ex.ok, Ex.val, ← wr_eq]
  refine CallS_l (f48 l nl (by omega)) ?_
  have hS := wSegs_len l
  obtain ⟨S, hSe⟩ : ∃ S, wSegs l = S := ⟨_, rfl⟩
  have hwS : wSimple l = (wLine l && allTo (fun n => allTo (rowS S n) n) S.length) := by rw [← hSe]; rfl
  rw [hSe] at hS ⊢
  simp [sxa, sxb, sxc, Ex.ok, Ex.val, ← wr_eq]
  refine sx_count S.length (fun n V => V 0 = .lst 2 nl (l.map cp) ∧ V 3 = .lst 4 false (S.map cs) ∧ V 4 = i n ∧ allTo (fun n => allTo (rowS S n) n) n = true) 0 (by omega) (by simp [sxa, sxb, sxc, Ex.ok, Ex.val, ← wr_eq, allTo_zero]) ?_
  rintro n V hn ⟨h0, h3, h4, ha⟩
  have hw : wr .i64 ((n : Int) + 1) = n + 1 := wr_in (by omega) (by omega)
  simp [sxa, sxb, sxc, Ex.ok, Ex.val, ← wr_eq, h3, h4]
  refine CondS_d (fun hlt => ?_) (fun hge => ?_)
  · have hlt' : n < S.length := by omega
    have hbad : allTo (rowS S n) n = false → wSimple l = false := fun h => by rw [hwS, allTo_bad (ok := fun n => allTo (rowS S n) n) hlt' h]; simp
    simp [sxa, sxb, sxc, Ex.ok, Ex.val, ← wr_eq]
    refine sx_mono _ _ _ _ ?_ (l46_2 hlt' (by omega) (by simp [sxa, sxb, sxc, Ex.ok, Ex.val, ← wr_eq, h3]) (by simp [sxa, sxb, sxc, Ex.ok, Ex.val, ← wr_eq, h4]) (by simp [sxa, sxb, sxc, Ex.ok, Ex.val, ← wr_eq]))
    rintro x V' (⟨rfl, hall, e0, e3, e4⟩ | ⟨rfl, hall, e2⟩)
    · simp [sxa, sxb, sxc, Ex.ok, Ex.val, ← wr_eq, e0, e3, e4, h0, h3, h4, hw, hlt', allTo_succ, ha, hall]
    · simp [sxa, sxb, sxc, Ex.ok, Ex.val, ← wr_eq, e2, hbad hall]
  · have : n = S.length := by omega
    subst this
    repeat' (first | intro _ | (simp [sxa, sxb, sxc, Ex.ok, Ex.val, ← wr_eq, *]) | refine CallS_i (f66 l nl (by omega)) ?_ | refine CondS_d ?_ ?_ | refine CondS_b ?_ ?_ | refine GrdS_d ?_ ?_ | refine GrdS_b ?_ ?_ | refine OkS_i (by omega) ?_ | fail)
    all_goals simp_all
theorem f51 (l : List Pt) (nl : Bool) (hl : l.length ≤ 1000000000000) : Fn Try.prog 51 false [.lst 2 nl (l.map cp)] (.bool (wSimple l)) := by
  refine Fn.by_sx hX (by kernel_rfl) c51 (by kernel_rfl) (by rfl) ?_
  simp [i51, sxa, sxb, sxc, Ex.ok, Ex.val, ← wr_eq]
  refine CallS_b (f70 l nl (by omega)) (fun hL => ?_) (fun hL => ?_)
  · have hS := wSegs_len l
    obtain ⟨S, hSe⟩ : ∃ S, wSegs l = S := ⟨_, rfl⟩
    have hwS : wSimple l = (wLine l && allTo (fun n => allTo (rowS S n) n) S.length) := by rw [← hSe]; rfl
    rw [hSe] at hS
    simp [sxa, sxb, sxc, Ex.ok, Ex.val, ← wr_eq]
    refine CallS_l (f53 l nl (by omega)) ?_
    rw [hSe]
    simp [sxa, sxb, sxc, Ex.ok, Ex.val, ← wr_eq]
    refine sx_count S.length (fun n V => V 3 = .lst 4 false (S.map cs) ∧ V 13 = i S.length ∧ V 14 = i n ∧ allTo (fun n => allTo (rowS S n) n) n = true) 0 (by omega) (by simp [sxa, sxb, sxc, Ex.ok, Ex.val, ← wr_eq, allTo_zero]) ?_
    rintro n V hn ⟨h3, h13, h14, ha⟩
    have hw : wr .i64 ((n : Int) + 1) = n + 1 := wr_in (by omega) (by omega)
    simp [sxa, sxb, sxc, Ex.ok, Ex.val, ← wr_eq, h13, h14]
    refine CondS_d (fun hlt => ?_) (fun hge => ?_)
    · have hlt' : n < S.length := by omega
      have hbad : allTo (rowS S n) n = false → wSimple l = false := fun h => by rw [hwS, allTo_bad (ok := fun n => allTo (rowS S n) n) hlt' h]; simp
      simp [sxa, sxb, sxc, Ex.ok, Ex.val, ← wr_eq, h14]
      refine sx_mono _ _ _ _ ?_ (l51_2 hlt' (by omega) (by simp [sxa, sxb, sxc, Ex.ok, Ex.val, ← wr_eq, h3]) (by simp [sxa, sxb, sxc, Ex.ok, Ex.val, ← wr_eq, h14]) (by simp [sxa, sxb, sxc, Ex.ok, Ex.val, ← wr_eq, h14]) (by simp [sxa, sxb, sxc, Ex.ok, Ex.val, ← wr_eq]))
      rintro x V' (⟨rfl, hall, e0, e3, e13, e14⟩ | ⟨rfl, hall, e2⟩)
      · simp [sxa, sxb, sxc, Ex.ok, Ex.val, ← wr_eq, e3, e13, e14, h3, h13, h14, hw, hlt', allTo_succ, ha, hall]
      · simp [sxa, sxb, sxc, Ex.ok, Ex.val, ← wr_eq, e2, hbad hall]
    · have : n = S.length := by omega
      subst this
      repeat' (first | intro _ | (simp [sxa, sxb, sxc, Ex.ok, Ex.val, ← wr_eq, *]) | refine CondS_d ?_ ?_ | refine CondS_b ?_ ?_ | refine GrdS_d ?_ ?_ | refine GrdS_b ?_ ?_ | refine OkS_i (by omega) ?_ | fail)
      all_goals simp_all
  · have hf : wSimple l = false := by simp [wSimple, hL]
    repeat' (first | intro _ | (simp [sxa, sxb, sxc, Ex.ok, Ex.val, ← wr_eq, *]) | refine CondS_d ?_ ?_ | refine CondS_b ?_ ?_ | refine GrdS_d ?_ ?_ | refine GrdS_b ?_ ?_ | refine OkS_i (by omega) ?_ | fail)
end Go.Eng
namespace Go.Eng
open Go Go.Proofs Geo
set_option linter.unusedSimpArgs false
set_option linter.unusedVariables false
set_option maxRecDepth 20000
set_option maxHeartbeats 1000000

def rowR (S : List Sg) (n k : Nat) : Bool := decide (sMeet (sgD S n) (sgD S k) = if k + 1 = n ∨ (k = 0 ∧ n + 1 = S.length) then 1 else 0)
def sSeg (a : Sg) : Bool := M_IsSegment a.f0.f0 a.f0.f1 a.f1.f0 a.f1.f1
def ringAt (S : List Sg) (n : Nat) : Bool := sSeg (sgD S n) && allTo (rowR S n) n
def wRing (l : List Pt) : Bool := inR l.length 3 10 && allTo (ringAt (upTo (rgAt l) l.length)) l.length
theorem l47_2 {S : List Sg} {n : Nat} {V : Env} (hn : n < S.length) (hS : S.length ≤ 1000000000000) (h3 : V 3 = .lst 4 false (S.map cs)) (h4 : V 4 = i n) (h5 : V 5 = i 0) :
    sx (FC Try.prog) (.loop (.seq (.seq (.ops [s 25 (.mv (t 5)),
  s 26 (.mv (t 4)),
  s 27 (.bin .lss (t 25) (t 26))])
 (.cond (t 27) .skip (.exit 2)))
 (.seq (.block 3 (.seq (.ops [s 6 (.mv (c (i 0)))])
 (.seq (.seq (.ops [s 30 (.mv (t 5)),
  s 31 (.bin .add (t 30) (c (i 1))),
  s 32 (.mv (t 4)),
  s 33 (.bin .eql (t 31) (t 32)),
  s 34 (.mv (t 33)),
  sg [(34, false)] 35 (.mv (t 5)),
  sg [(34, false)] 36 (.bin .eql (t 35) (c (i 0))),
  sg [(34, false)] 37 (.mv (t 36)),
  sg [(37, true), (34, false)] 38 (.mv (t 4)),
  sg [(37, true), (34, false)] 39 (.bin .add (t 38) (c (i 1))),
  sg [(37, true), (34, false)] 40 (.mv (t 3)),
  sg [(37, true), (34, false)] 41 (.len false (t 40)),
  sg [(37, true), (34, false)] 42 (.bin .eql (t 39) (t 41)),
  sg [(34, false)] 43 (.pick (t 37) (t 42) (c (.bool false))),
  s 44 (.pick (t 34) (c (.bool true)) (t 43))])
 (.cond (t 44) (.ops [s 6 (.mv (c (i 1)))]) .skip))
 (.seq (.ops [s 45 (.mv (t 3)),
  s 46 (.mv (t 4)),
  s 47 (.idx (t 45) (t 46) 4),
  s 48 (.ldE 45 47 0 4 true true 4),
  s 49 (.mv (t 3)),
  s 50 (.mv (t 5)),
  s 51 (.idx (t 49) (t 50) 4),
  s 52 (.ldE 49 51 0 4 true true 4),
  k 53 65 [(t 48), (t 52)] .sc,
  s 54 (.mv (t 6)),
  s 55 (.bin .neq (t 53) (t 54))])
 (.cond (t 55) (.seq (.ops [s 2 (.mv (c (.bool false)))])
 .ret) .skip)))))
 (.ops [s 28 (.mv (t 5)),
  s 29 (.bin .add (t 28) (c (i 1))),
  s 5 (.mv (t 29))])))) (fun x V' => (x = .exit 2 ∧ allTo (rowR S n) n = true ∧ V' 0 = V 0 ∧ V' 3 = V 3 ∧ V' 4 = V 4) ∨ (x = .ret ∧ allTo (rowR S n) n = false ∧ V' 2 = .bool false)) V := by
  refine sx_count n (fun k V' => V' 0 = V 0 ∧ V' 3 = V 3 ∧ V' 4 = V 4 ∧ V' 5 = i k ∧ allTo (rowR S n) k = true) 0 (by omega) ⟨rfl, rfl, rfl, h5, allTo_zero⟩ ?_
  rintro k V' hk ⟨g0, g3, g4, g5, ha⟩
  have hw : wr .i64 ((k : Int) + 1) = k + 1 := wr_in (by omega) (by omega)
  have hw' : wr .i64 ((n : Int) + 1) = n + 1 := wr_in (by omega) (by omega)
  simp [sxa, sxb, sxc, Ex.ok, Ex.val, ← wr_eq, g3, g4, g5, h3, h4]
  refine CondS_d (fun hlt => ?_) (fun hge => ?_)
  · have hk' : k < n := by omega
    have hkS : k < S.length := by omega
    have hbad : rowR S n k = false → allTo (rowR S n) n = false := allTo_bad hk'
    have hgood : rowR S n k = true → allTo (rowR S n) (k + 1) = true := fun h => by rw [allTo_succ, ha, h]; rfl
    have hr : rowR S n k = decide (sMeet S[n] S[k] = if k + 1 = n ∨ (k = 0 ∧ n + 1 = S.length) then 1 else 0) := by simp [rowR, sgD, hn, hkS]
    rcases Nat.eq_zero_or_pos k with rfl | hkp
    · repeat' (first | intro _ | (simp [sxa, sxb, sxc, Ex.ok, Ex.val, ← wr_eq, cs, *]) | refine CallS_i (f65 _ _ _ _ _ _ _ _) ?_ | refine CondS_d ?_ ?_ | refine CondS_b ?_ ?_ | refine GrdS_d ?_ ?_ | refine GrdS_b ?_ ?_ | refine OkS_i (by omega) ?_ | fail)
      all_goals first
        | exact hbad (by rw [hr]; first | (rw [if_pos (by omega)]; simp_all [sMeet]; done) | (rw [if_neg (by omega)]; simp_all [sMeet]; done))
        | (have h' := hgood (by rw [hr]; first | (rw [if_pos (by omega)]; simp_all [sMeet]; done) | (rw [if_neg (by omega)]; simp_all [sMeet]; done)); simp_all; done)
        | simp_all
    · have hk1 : ¬ (k : Int) = 0 := by omega
      repeat' (first | intro _ | (simp [sxa, sxb, sxc, Ex.ok, Ex.val, ← wr_eq, cs, *]) | refine CallS_i (f65 _ _ _ _ _ _ _ _) ?_ | refine CondS_d ?_ ?_ | refine CondS_b ?_ ?_ | refine GrdS_d ?_ ?_ | refine GrdS_b ?_ ?_ | refine OkS_i (by omega) ?_ | fail)
      all_goals first
        | exact hbad (by rw [hr]; first | (rw [if_pos (by omega)]; simp_all [sMeet]; done) | (rw [if_neg (by omega)]; simp_all [sMeet]; done))
        | (have h' := hgood (by rw [hr]; first | (rw [if_pos (by omega)]; simp_all [sMeet]; done) | (rw [if_neg (by omega)]; simp_all [sMeet]; done)); simp_all; done)
        | simp_all
  · have : k = n := by omega
    subst this
    repeat' (first | intro _ | (simp [sxa, sxb, sxc, Ex.ok, Ex.val, ← wr_eq, *]) | refine CondS_d ?_ ?_ | refine CondS_b ?_ ?_ | refine GrdS_d ?_ ?_ | refine GrdS_b ?_ ?_ | refine OkS_i (by omega) ?_ | fail)
    all_goals simp_all
theorem l52_2 {S : List Sg} {n : Nat} {V : Env} (hn : n < S.length) (hS : S.length ≤ 1000000000000) (h3 : V 3 = .lst 4 false (S.map cs)) (h4 : V 4 = i n) (h28 : V 28 = i n) (h29 : V 29 = i 0) :
    sx (FC Try.prog) (.loop (.seq (.ops [s 30 (.bin .lss (t 29) (t 28))])
 (.seq (.cond (t 30) .skip (.exit 2))
 (.seq (.block 3 (.seq (.ops [s 31 (.mv (t 29)),
  s 5 (.mv (t 31))])
 (.seq (.ops [s 6 (.mv (c (i 0)))])
 (.seq (.seq (.ops [s 32 (.mv (t 5)),
  s 33 (.mv (t 4)),
  s 34 (.bin .sub (t 33) (c (i 1))),
  s 35 (.bin .eql (t 32) (t 34)),
  s 36 (.mv (t 35)),
  sg [(36, false)] 37 (.mv (t 5)),
  sg [(36, false)] 38 (.bin .eql (t 37) (c (i 0))),
  sg [(36, false)] 39 (.mv (t 38)),
  sg [(39, true), (36, false)] 40 (.mv (t 4)),
  sg [(39, true), (36, false)] 41 (.mv (t 3)),
  sg [(39, true), (36, false)] 42 (.len false (t 41)),
  sg [(39, true), (36, false)] 43 (.bin .sub (t 42) (c (i 1))),
  sg [(39, true), (36, false)] 44 (.bin .eql (t 40) (t 43)),
  sg [(36, false)] 45 (.pick (t 39) (t 44) (c (.bool false))),
  s 46 (.pick (t 36) (c (.bool true)) (t 45))])
 (.cond (t 46) (.ops [s 6 (.mv (c (i 1)))]) .skip))
 (.seq (.ops [s 47 (.mv (t 3)),
  s 48 (.mv (t 4)),
  s 49 (.idx (t 47) (t 48) 4),
  s 50 (.ldE 47 49 0 4 true true 4),
  s 51 (.mv (t 3)),
  s 52 (.mv (t 5)),
  s 53 (.idx (t 51) (t 52) 4),
  s 54 (.ldE 51 53 0 4 true true 4),
  k 55 71 [(t 50), (t 54)] .sc,
  s 56 (.mv (t 6)),
  s 57 (.bin .neq (t 55) (t 56))])
 (.cond (t 57) (.seq (.ops [s 2 (.mv (c (.bool false)))])
 .ret) .skip))))))
 (.ops [s 58 (.bin .add (t 29) (c (i 1))),
  s 29 (.mv (t 58))]))))) (fun x V' => (x = .exit 2 ∧ allTo (rowR S n) n = true ∧ V' 0 = V 0 ∧ V' 3 = V 3 ∧ V' 18 = V 18 ∧ V' 19 = V 19) ∨ (x = .ret ∧ allTo (rowR S n) n = false ∧ V' 2 = .bool false)) V := by
  refine sx_count n (fun k V' => V' 0 = V 0 ∧ V' 3 = V 3 ∧ V' 4 = V 4 ∧ V' 18 = V 18 ∧ V' 19 = V 19 ∧ V' 28 = V 28 ∧ V' 29 = i k ∧ allTo (rowR S n) k = true) 0 (by omega) ⟨rfl, rfl, rfl, rfl, rfl, rfl, h29, allTo_zero⟩ ?_
  rintro k V' hk ⟨g0, g3, g4, g18, g19, g28, g29, ha⟩
  have hw : wr .i64 ((k : Int) + 1) = k + 1 := wr_in (by omega) (by omega)
  have hw2 : wr .i64 ((n : Int) - 1) = n - 1 := wr_in (by omega) (by omega)
  have hw3 : wr .i64 ((S.length : Int) - 1) = S.length - 1 := wr_in (by omega) (by omega)
  simp [sxa, sxb, sxc, Ex.ok, Ex.val, ← wr_eq, g28, g29, h28]
  refine CondS_d (fun hlt => ?_) (fun hge => ?_)
  · have hk' : k < n := by omega
    have hkS : k < S.length := by omega
    have hbad : rowR S n k = false → allTo (rowR S n) n = false := allTo_bad hk'
    have hgood : rowR S n k = true → allTo (rowR S n) (k + 1) = true := fun h => by rw [allTo_succ, ha, h]; rfl
    have hr : rowR S n k = decide (sMeet S[n] S[k] = if k + 1 = n ∨ (k = 0 ∧ n + 1 = S.length) then 1 else 0) := by simp [rowR, sgD, hn, hkS]
    have hc : ((k : Int) = n - 1) = ((k : Int) + 1 = n) := propext ⟨fun h => by omega, fun h => by omega⟩
    have hc0 : ((0 : Int) = n - 1) = ((n : Int) < 2) := propext ⟨fun h => by omega, fun h => by omega⟩
    have hc1 : ((n : Int) = S.length - 1) = ((n : Int) + 1 = S.length) := propext ⟨fun h => by omega, fun h => by omega⟩
    rcases Nat.eq_zero_or_pos k with rfl | hkp
    · repeat' (first | intro _ | (simp [sxa, sxb, sxc, Ex.ok, Ex.val, ← wr_eq, cs, *]) | refine CallS_i (f71 _ _ _ _ _ _ _ _) ?_ | refine CondS_d ?_ ?_ | refine CondS_b ?_ ?_ | refine GrdS_d ?_ ?_ | refine GrdS_b ?_ ?_ | refine OkS_i (by omega) ?_ | fail)
      all_goals first
        | exact hbad (by rw [hr]; first | (rw [if_pos (by omega)]; simp_all [sMeet]; done) | (rw [if_neg (by omega)]; simp_all [sMeet]; done))
        | (have h' := hgood (by rw [hr]; first | (rw [if_pos (by omega)]; simp_all [sMeet]; done) | (rw [if_neg (by omega)]; simp_all [sMeet]; done)); simp_all; done)
        | simp_all
    · have hk1 : ¬ (k : Int) = 0 := by omega
      repeat' (first | intro _ | (simp [sxa, sxb, sxc, Ex.ok, Ex.val, ← wr_eq, cs, *]) | refine CallS_i (f71 _ _ _ _ _ _ _ _) ?_ | refine CondS_d ?_ ?_ | refine CondS_b ?_ ?_ | refine GrdS_d ?_ ?_ | refine GrdS_b ?_ ?_ | refine OkS_i (by omega) ?_ | fail)
      all_goals first
        | exact hbad (by rw [hr]; first | (rw [if_pos (by omega)]; simp_all [sMeet]; done) | (rw [if_neg (by omega)]; simp_all [sMeet]; done))
        | (have h' := hgood (by rw [hr]; first | (rw [if_pos (by omega)]; simp_all [sMeet]; done) | (rw [if_neg (by omega)]; simp_all [sMeet]; done)); simp_all; done)
        | simp_all
  · have : k = n := by omega
    subst this
    repeat' (first | intro _ | (simp [sxa, sxb, sxc, Ex.ok, Ex.val, ← wr_eq, *]) | refine CondS_d ?_ ?_ | refine CondS_b ?_ ?_ | refine GrdS_d ?_ ?_ | refine GrdS_b ?_ ?_ | refine OkS_i (by omega) ?_ | fail)
    all_goals simp_all
theorem f47 (l : List Pt) (nl : Bool) (hl : l.length ≤ 1000000000000) : Fn Try.prog 47 false [.lst 2 nl (l.map cp)] (.bool (wRing l)) := by
  refine Fn.by_sx hX (by kernel_rfl) c47 (by kernel_rfl) (by rfl) ?_
  simp [i47, sxa, sxb, sxc, Ex.ok, Ex.val, ← wr_eq]
  refine CallS_b (f35 _ _ _) (fun hL => ?_) (fun hL => ?_)
  · obtain ⟨S, hSe, hS⟩ : ∃ S, upTo (rgAt l) l.length = S ∧ S.length = l.length := ⟨_, rfl, upTo_length⟩
    have hwS : allTo (ringAt S) S.length = wRing l := by unfold wRing; rw [hSe, hL, hS]; rfl
    repeat' (first | intro _ | (simp [sxa, sxb, sxc, Ex.ok, Ex.val, ← wr_eq, *]) | refine CondS_d ?_ ?_ | refine CondS_b ?_ ?_ | refine GrdS_d ?_ ?_ | refine GrdS_b ?_ ?_ | refine OkS_i (by omega) ?_ | fail)
    refine CallS_l (f67 l nl hl) ?_
    rw [hSe]
    simp [sxa, sxb, sxc, Ex.ok, Ex.val, ← wr_eq]
    refine sx_count S.length (fun n V => V 0 = .lst 2 nl (l.map cp) ∧ V 3 = .lst 4 false (S.map cs) ∧ V 4 = i n ∧ allTo (ringAt S) n = true) 0 (by omega) (by simp [sxa, sxb, sxc, Ex.ok, Ex.val, ← wr_eq, allTo_zero]) ?_
    rintro n V hn ⟨h0, h3, h4, ha⟩
    have hw : wr .i64 ((n : Int) + 1) = n + 1 := wr_in (by omega) (by omega)
    simp [sxa, sxb, sxc, Ex.ok, Ex.val, ← wr_eq, h3, h4]
    refine CondS_d (fun hlt => ?_) (fun hge => ?_)
    · have hlt' : n < S.length := by omega
      have hr : ringAt S n = (sSeg S[n] && allTo (rowR S n) n) := by simp [ringAt, sgD, hlt']
      have hbad : ringAt S n = false → wRing l = false := fun h => by rw [← hwS, allTo_bad hlt' h]
      simp [sxa, sxb, sxc, Ex.ok, Ex.val, ← wr_eq, h3, h4, hlt', cs]
      refine CallS_b (f68 _ _ _ _) (fun hs => ?_) (fun hs => ?_)
      · simp [sxa, sxb, sxc, Ex.ok, Ex.val, ← wr_eq]
        refine sx_mono _ _ _ _ ?_ (l47_2 hlt' (by omega) (by simp [sxa, sxb, sxc, Ex.ok, Ex.val, ← wr_eq, h3]) (by simp [sxa, sxb, sxc, Ex.ok, Ex.val, ← wr_eq, h4]) (by simp [sxa, sxb, sxc, Ex.ok, Ex.val, ← wr_eq]))
        rintro x V' (⟨rfl, hall, e0, e3, e4⟩ | ⟨rfl, hall, e2⟩)
        · simp [sxa, sxb, sxc, Ex.ok, Ex.val, ← wr_eq, e0, e3, e4, h0, h3, h4, hw, hlt', allTo_succ, ha, hall, hr, sSeg, hs, cs]
        · have := hbad (by rw [hr, hall]; simp)
          simp [sxa, sxb, sxc, Ex.ok, Ex.val, ← wr_eq, e2, this]
      · have := hbad (by rw [hr]; simp [sSeg, hs])
        repeat' (first | intro _ | (simp [sxa, sxb, sxc, Ex.ok, Ex.val, ← wr_eq, *]) | refine CondS_d ?_ ?_ | refine CondS_b ?_ ?_ | refine GrdS_d ?_ ?_ | refine GrdS_b ?_ ?_ | refine OkS_i (by omega) ?_ | fail)
    · have : n = S.length := by omega
      subst this
      repeat' (first | intro _ | (simp [sxa, sxb, sxc, Ex.ok, Ex.val, ← wr_eq, *]) | refine CondS_d ?_ ?_ | refine CondS_b ?_ ?_ | refine GrdS_d ?_ ?_ | refine GrdS_b ?_ ?_ | refine OkS_i (by omega) ?_ | fail)
      all_goals simp_all
  · have hf : wRing l = false := by simp [wRing, hL]
    repeat' (first | intro _ | (simp [sxa, sxb, sxc, Ex.ok, Ex.val, ← wr_eq, *]) | refine CondS_d ?_ ?_ | refine CondS_b ?_ ?_ | refine GrdS_d ?_ ?_ | refine GrdS_b ?_ ?_ | refine OkS_i (by omega) ?_ | fail)
theorem f52 (l : List Pt) (nl : Bool) (hl : l.length ≤ 1000000000000) : Fn Try.prog 52 false [.lst 2 nl (l.map cp)] (.bool (wRing l)) := by
  refine Fn.by_sx hX (by kernel_rfl) c52 (by kernel_rfl) (by rfl) ?_
  simp [i52, sxa, sxb, sxc, Ex.ok, Ex.val, ← wr_eq]
  by_cases hL : inR l.length 3 10 = true
  · obtain ⟨S, hSe, hS⟩ : ∃ S, upTo (rgAt l) l.length = S ∧ S.length = l.length := ⟨_, rfl, upTo_length⟩
    have hwS : allTo (ringAt S) S.length = wRing l := by unfold wRing; rw [hSe, hL, hS]; rfl
    have hL1 : ¬ (l.length : Int) < 3 := by simp [inR] at hL; omega
    have hL2 : ¬ (10 : Int) < l.length := by simp [inR] at hL; omega
    repeat' (first | intro _ | (simp [sxa, sxb, sxc, Ex.ok, Ex.val, ← wr_eq, *]) | refine CondS_d ?_ ?_ | refine CondS_b ?_ ?_ | refine GrdS_d ?_ ?_ | refine GrdS_b ?_ ?_ | refine OkS_i (by omega) ?_ | fail)
    refine CallS_l (f72 l nl hl) ?_
    rw [hSe]
    simp [sxa, sxb, sxc, Ex.ok, Ex.val, ← wr_eq]
    refine sx_count S.length (fun n V => V 3 = .lst 4 false (S.map cs) ∧ V 18 = i S.length ∧ V 19 = i n ∧ allTo (ringAt S) n = true) 0 (by omega) (by simp [sxa, sxb, sxc, Ex.ok, Ex.val, ← wr_eq, allTo_zero]) ?_
    rintro n V hn ⟨h3, h18, h19, ha⟩
    have hw : wr .i64 ((n : Int) + 1) = n + 1 := wr_in (by omega) (by omega)
    simp [sxa, sxb, sxc, Ex.ok, Ex.val, ← wr_eq, h18, h19]
    refine CondS_d (fun hlt => ?_) (fun hge => ?_)
    · have hlt' : n < S.length := by omega
      have hr : ringAt S n = (sSeg S[n] && allTo (rowR S n) n) := by simp [ringAt, sgD, hlt']
      have hbad : ringAt S n = false → wRing l = false := fun h => by rw [← hwS, allTo_bad hlt' h]
      simp [sxa, sxb, sxc, Ex.ok, Ex.val, ← wr_eq, h3, h19, hlt', cs]
      refine CallS_b (f73 _ _ _ _) (fun hs => ?_) (fun hs => ?_)
      · simp [sxa, sxb, sxc, Ex.ok, Ex.val, ← wr_eq]
        refine sx_mono _ _ _ _ ?_ (l52_2 hlt' (by omega) (by simp [sxa, sxb, sxc, Ex.ok, Ex.val, ← wr_eq, h3]) (by simp [sxa, sxb, sxc, Ex.ok, Ex.val, ← wr_eq, h19]) (by simp [sxa, sxb, sxc, Ex.ok, Ex.val, ← wr_eq, h19]) (by simp [sxa, sxb, sxc, Ex.ok, Ex.val, ← wr_eq]))
        rintro x V' (⟨rfl, hall, e0, e3, e18, e19⟩ | ⟨rfl, hall, e2⟩)
        · simp [sxa, sxb, sxc, Ex.ok, Ex.val, ← wr_eq, e3, e18, e19, h3, h18, h19, hw, hlt', allTo_succ, ha, hall, hr, sSeg, hs, cs]
        · have := hbad (by rw [hr, hall]; simp)
          simp [sxa, sxb, sxc, Ex.ok, Ex.val, ← wr_eq, e2, this]
      · have := hbad (by rw [hr]; simp [sSeg, hs])
        repeat' (first | intro _ | (simp [sxa, sxb, sxc, Ex.ok, Ex.val, ← wr_eq, *]) | refine CondS_d ?_ ?_ | refine CondS_b ?_ ?_ | refine GrdS_d ?_ ?_ | refine GrdS_b ?_ ?_ | refine OkS_i (by omega) ?_ | fail)
    · have : n = S.length := by omega
      subst this
      repeat' (first | intro _ | (simp [sxa, sxb, sxc, Ex.ok, Ex.val, ← wr_eq, *]) | refine CondS_d ?_ ?_ | refine CondS_b ?_ ?_ | refine GrdS_d ?_ ?_ | refine GrdS_b ?_ ?_ | refine OkS_i (by omega) ?_ | fail)
      all_goals simp_all
  · have hf : wRing l = false := by simp [wRing, hL]
    have hL : (l.length : Int) < 3 ∨ (10 : Int) < l.length := by simp [inR] at hL; omega
    rcases hL with h | h
    · repeat' (first | intro _ | (simp [sxa, sxb, sxc, Ex.ok, Ex.val, ← wr_eq, *]) | refine CondS_d ?_ ?_ | refine CondS_b ?_ ?_ | refine GrdS_d ?_ ?_ | refine GrdS_b ?_ ?_ | refine OkS_i (by omega) ?_ | fail)
    · have : ¬ (l.length : Int) < 3 := by omega
      repeat' (first | intro _ | (simp [sxa, sxb, sxc, Ex.ok, Ex.val, ← wr_eq, *]) | refine CondS_d ?_ ?_ | refine CondS_b ?_ ?_ | refine GrdS_d ?_ ?_ | refine GrdS_b ?_ ?_ | refine OkS_i (by omega) ?_ | fail)
end Go.Eng
namespace Go.Eng
open Go Go.Proofs Geo
set_option linter.unusedSimpArgs false
set_option linter.unusedVariables false
set_option maxRecDepth 20000
set_option maxHeartbeats 1000000

def lowAt (s : ByteArray) (n : Nat) : Bool := decide (¬ ((s.data[n]?.getD 0).toNat : Int) < 97 ∧ ¬ (122 : Int) < ((s.data[n]?.getD 0).toNat : Int))
def isNm (s : ByteArray) : Bool := allTo (lowAt s) s.size && inR s.size 1 8
theorem f45 (s : ByteArray) (hs : s.size ≤ 4611686018427387904) : Fn Try.prog 45 false [.str s] (.bool (isNm s)) := by
  refine Fn.by_sx hX (by kernel_rfl) c45 (by kernel_rfl) (by rfl) ?_
  simp [i45, sxa, sxb, sxc, Ex.ok, Ex.val, ← wr_eq]
  refine sx_count s.size (fun n V => V 0 = .str s ∧ V 3 = i n ∧ allTo (lowAt s) n = true) 0 (by omega) (by simp [sxa, sxb, sxc, Ex.ok, Ex.val, ← wr_eq, allTo_zero]) ?_
  rintro n V hn ⟨h0, h3, ha⟩
  have hw : wr .i64 ((n : Int) + 1) = n + 1 := wr_in (by omega) (by omega)
  simp [sxa, sxb, sxc, Ex.ok, Ex.val, ← wr_eq, h0, h3]
  refine CondS_d (fun hlt => ?_) (fun hge => ?_)
  · have hlt' : n < s.size := by omega
    have hbad : lowAt s n = false → isNm s = false := fun h => by simp [isNm, allTo_bad hlt' h]
    have hlt2 : n < s.data.size := hlt'
    obtain ⟨b, hb⟩ : ∃ b, (s.data[n].toNat : Int) = b := ⟨_, rfl⟩
    have hr : lowAt s n = decide (¬ b < 97 ∧ ¬ (122 : Int) < b) := by unfold lowAt; rw [Array.getElem?_eq_getElem hlt2]; simp only [Option.getD_some, hb]
    simp [sxa, sxb, sxc, Ex.ok, Ex.val, ← wr_eq, hlt', h0, h3, hb]
    repeat' (first | intro _ | (simp [sxa, sxb, sxc, Ex.ok, Ex.val, ← wr_eq, allTo_succ, *]) | refine CondS_d ?_ ?_ | refine CondS_b ?_ ?_ | refine GrdS_d ?_ ?_ | refine GrdS_b ?_ ?_ | refine OkS_i (by omega) ?_ | fail)
    all_goals first
      | exact hbad (by rw [hr]; simp; omega)
      | (rw [hr]; simp; omega)
      | omega
  · have : n = s.size := by omega
    subst this
    repeat' (first | intro _ | (simp [sxa, sxb, sxc, Ex.ok, Ex.val, ← wr_eq, *]) | refine CallS_i (f35 _ _ _) ?_ | refine CondS_d ?_ ?_ | refine CondS_b ?_ ?_ | refine GrdS_d ?_ ?_ | refine GrdS_b ?_ ?_ | refine OkS_i (by omega) ?_ | fail)
    all_goals simp_all [isNm]
theorem f50 (s : ByteArray) (hs : s.size ≤ 4611686018427387904) : Fn Try.prog 50 false [.str s] (.bool (isNm s)) := by
  refine Fn.by_sx hX (by kernel_rfl) c50 (by kernel_rfl) (by rfl) ?_
  simp [i50, sxa, sxb, sxc, Ex.ok, Ex.val, ← wr_eq]
  refine sx_count s.size (fun n V => V 0 = .str s ∧ V 5 = i s.size ∧ V 6 = i n ∧ allTo (lowAt s) n = true) 0 (by omega) (by simp [sxa, sxb, sxc, Ex.ok, Ex.val, ← wr_eq, allTo_zero]) ?_
  rintro n V hn ⟨h0, h5, h6, ha⟩
  have hw : wr .i64 ((n : Int) + 1) = n + 1 := wr_in (by omega) (by omega)
  simp [sxa, sxb, sxc, Ex.ok, Ex.val, ← wr_eq, h5, h6]
  refine CondS_d (fun hlt => ?_) (fun hge => ?_)
  · have hlt' : n < s.size := by omega
    have hbad : lowAt s n = false → isNm s = false := fun h => by simp [isNm, allTo_bad hlt' h]
    have hlt2 : n < s.data.size := hlt'
    obtain ⟨b, hb⟩ : ∃ b, (s.data[n].toNat : Int) = b := ⟨_, rfl⟩
    have hr : lowAt s n = decide (¬ b < 97 ∧ ¬ (122 : Int) < b) := by unfold lowAt; rw [Array.getElem?_eq_getElem hlt2]; simp only [Option.getD_some, hb]
    simp [sxa, sxb, sxc, Ex.ok, Ex.val, ← wr_eq, hlt', h0, h6, hb]
    repeat' (first | intro _ | (simp [sxa, sxb, sxc, Ex.ok, Ex.val, ← wr_eq, allTo_succ, *]) | refine CondS_d ?_ ?_ | refine CondS_b ?_ ?_ | refine GrdS_d ?_ ?_ | refine GrdS_b ?_ ?_ | refine OkS_i (by omega) ?_ | fail)
    all_goals first
      | exact hbad (by rw [hr]; simp; omega)
      | (rw [hr]; simp; omega)
      | omega
  · have : n = s.size := by omega
    subst this
    repeat' (first | intro _ | (simp [sxa, sxb, sxc, Ex.ok, Ex.val, ← wr_eq, *]) | refine CallS_i (f39 _ _ _) ?_ | refine CondS_d ?_ ?_ | refine CondS_b ?_ ?_ | refine GrdS_d ?_ ?_ | refine GrdS_b ?_ ?_ | refine OkS_i (by omega) ?_ | fail)
    all_goals simp_all [isNm]
structure Ft where
  f0 : Int
  f1 : Int
  f2 : Int
  f3 : ByteArray
  f4 : List Pt
  nl : Bool
def ft (x : Ft) : List PV := [i x.f0, i x.f1, i x.f2, .str x.f3, .lst 2 x.nl (x.f4.map cp)]
def wShape (x : Ft) : Bool := if x.f1 = 1 then decide (x.f4.length = 1) && M_IsPoint (x.f4.getD 0 ⟨0, 0⟩).f0 (x.f4.getD 0 ⟨0, 0⟩).f1 else if x.f1 = 2 then wSimple x.f4 else if x.f1 = 3 then wRing x.f4 else false
def wFeat (x : Ft) : Bool := (inR x.f0 1 99 && (inR x.f2 0 9 && (decide (x.f3 = bs []) || isNm x.f3))) && wShape x
def Ft.okay (x : Ft) : Prop := x.f3.size ≤ 4611686018427387904 ∧ x.f4.length ≤ 1000000000000
theorem f34 (x : Ft) (hx : x.okay) : Fn Try.prog 34 false [.agg (ft x)] (.bool (wFeat x)) := by
  obtain ⟨hx1, hx2⟩ := hx
  unfold ft
  refine Fn.by_sx hX (by kernel_rfl) c34 (by kernel_rfl) (by rfl) ?_
  simp [i34, sxa, sxb, sxc, Ex.ok, Ex.val, ← wr_eq]
  by_cases hk1 : x.f1 = 1
  · by_cases hl : x.f4.length = 1
    · have hl0 : 0 < x.f4.length := by omega
      repeat' (first | intro _ | (simp [sxa, sxb, sxc, Ex.ok, Ex.val, ← wr_eq, cp, *]) | refine CallS_b (f35 _ _ _) (fun h => ?_) (fun h => ?_) | refine CallS_b (f45 _ hx1) (fun h => ?_) (fun h => ?_) | refine CallS_b (f19 _ _) (fun h => ?_) (fun h => ?_) | refine CondS_d ?_ ?_ | refine CondS_b ?_ ?_ | refine GrdS_d ?_ ?_ | refine GrdS_b ?_ ?_ | refine OkS_i (by omega) ?_ | fail)
      all_goals simp_all [wFeat, wShape]
    · have hlI : ¬ (x.f4.length : Int) = 1 := by omega
      repeat' (first | intro _ | (simp [sxa, sxb, sxc, Ex.ok, Ex.val, ← wr_eq, cp, *]) | refine CallS_b (f35 _ _ _) (fun h => ?_) (fun h => ?_) | refine CallS_b (f45 _ hx1) (fun h => ?_) (fun h => ?_) | refine CondS_d ?_ ?_ | refine CondS_b ?_ ?_ | refine GrdS_d ?_ ?_ | refine GrdS_b ?_ ?_ | refine OkS_i (by omega) ?_ | fail)
      all_goals simp_all [wFeat, wShape]
  · repeat' (first | intro _ | (simp [sxa, sxb, sxc, Ex.ok, Ex.val, ← wr_eq, cp, *]) | refine CallS_b (f35 _ _ _) (fun h => ?_) (fun h => ?_) | refine CallS_b (f45 _ hx1) (fun h => ?_) (fun h => ?_) | refine CallS_i (f46 _ _ hx2) ?_ | refine CallS_i (f47 _ _ hx2) ?_ | refine CondS_d ?_ ?_ | refine CondS_b ?_ ?_ | refine GrdS_d ?_ ?_ | refine GrdS_b ?_ ?_ | refine OkS_i (by omega) ?_ | fail)
    all_goals simp_all [wFeat, wShape]

theorem f38 (x : Ft) (hx : x.okay) : Fn Try.prog 38 false [.agg (ft x)] (.bool (wFeat x)) := by
  obtain ⟨hx1, hx2⟩ := hx
  unfold ft
  refine Fn.by_sx hX (by kernel_rfl) c38 (by kernel_rfl) (by rfl) ?_
  simp [i38, sxa, sxb, sxc, Ex.ok, Ex.val, ← wr_eq]
  by_cases hk1 : x.f1 = 1
  · by_cases hl : x.f4.length = 1
    · have hl0 : 0 < x.f4.length := by omega
      repeat' (first | intro _ | (simp [sxa, sxb, sxc, Ex.ok, Ex.val, ← wr_eq, cp, *]) | refine CallS_b (f39 _ _ _) (fun h => ?_) (fun h => ?_) | refine CallS_b (f50 _ hx1) (fun h => ?_) (fun h => ?_) | refine CallS_b (f24 _ _) (fun h => ?_) (fun h => ?_) | refine CondS_d ?_ ?_ | refine CondS_b ?_ ?_ | refine GrdS_d ?_ ?_ | refine GrdS_b ?_ ?_ | refine OkS_i (by omega) ?_ | fail)
      all_goals simp_all [wFeat, wShape]
    · have hlI : ¬ (x.f4.length : Int) = 1 := by omega
      repeat' (first | intro _ | (simp [sxa, sxb, sxc, Ex.ok, Ex.val, ← wr_eq, cp, *]) | refine CallS_b (f39 _ _ _) (fun h => ?_) (fun h => ?_) | refine CallS_b (f50 _ hx1) (fun h => ?_) (fun h => ?_) | refine CondS_d ?_ ?_ | refine CondS_b ?_ ?_ | refine GrdS_d ?_ ?_ | refine GrdS_b ?_ ?_ | refine OkS_i (by omega) ?_ | fail)
      all_goals simp_all [wFeat, wShape]
  · repeat' (first | intro _ | (simp [sxa, sxb, sxc, Ex.ok, Ex.val, ← wr_eq, cp, *]) | refine CallS_b (f39 _ _ _) (fun h => ?_) (fun h => ?_) | refine CallS_b (f50 _ hx1) (fun h => ?_) (fun h => ?_) | refine CallS_i (f51 _ _ hx2) ?_ | refine CallS_i (f52 _ _ hx2) ?_ | refine CondS_d ?_ ?_ | refine CondS_b ?_ ?_ | refine GrdS_d ?_ ?_ | refine GrdS_b ?_ ?_ | refine OkS_i (by omega) ?_ | fail)
    all_goals simp_all [wFeat, wShape]
end Go.Eng
namespace Go.Eng
open Go Go.Proofs Geo
set_option linter.unusedSimpArgs false
set_option linter.unusedVariables false
set_option maxRecDepth 20000
set_option maxHeartbeats 1000000

structure En where
  f0 : Ft
  f1 : Int
  f2 : Int
  f3 : Bool
def en (x : En) : List PV := [i x.f0.f0, i x.f0.f1, i x.f0.f2, .str x.f0.f3, .lst 2 x.f0.nl (x.f0.f4.map cp), i x.f1, i x.f2, .bool x.f3]
/-! sizes -/
def szr (left n : Int) : Int := if left - n < 0 then -1 else left - n
theorem f33 (l : List Pt) (nl : Bool) (left : Int) (h0 : 0 ≤ left) (h1 : left ≤ 1048576) (hl : l.length ≤ 9223372036854775807) : Fn Try.prog 33 false [.lst 2 nl (l.map cp), i left] (i (szr left l.length)) := by
  refine Fn.by_sx hX (by kernel_rfl) c33 (by kernel_rfl) (by rfl) ?_
  simp [i33, sxa, sxb, sxc, Ex.ok, Ex.val, ← wr_eq]
  have hw : wr .i64 (left - l.length) = left - l.length := wr_in (by omega) (by omega)
  repeat' (first | intro _ | (simp [sxa, sxb, sxc, Ex.ok, Ex.val, ← wr_eq, *]) | refine CondS_d ?_ ?_ | refine CondS_b ?_ ?_ | refine GrdS_d ?_ ?_ | refine GrdS_b ?_ ?_ | refine OkS_i (by omega) ?_ | fail)
  all_goals (unfold szr; split <;> omega)
def wtF (x : Ft) : Nat := x.f3.size + x.f4.length
def Ft.fits (x : Ft) : Prop := x.f3.size ≤ 9223372036854775807 ∧ x.f4.length ≤ 9223372036854775807
theorem f17 (x : Ft) (left : Int) (h0 : 0 ≤ left) (h1 : left ≤ 1048576) (hx : x.fits) : Fn Try.prog 17 false [.agg (ft x), i left] (i (szr left (wtF x : Nat))) := by
  obtain ⟨hx1, hx2⟩ := hx
  unfold ft
  refine Fn.by_sx hX (by kernel_rfl) c17 (by kernel_rfl) (by rfl) ?_
  simp [i17, sxa, sxb, sxc, Ex.ok, Ex.val, ← wr_eq]
  have hw : wr .i64 (left - x.f3.size) = left - x.f3.size := wr_in (by omega) (by omega)
  by_cases hc : left - x.f3.size < 0
  · repeat' (first | intro _ | (simp [sxa, sxb, sxc, Ex.ok, Ex.val, ← wr_eq, *]) | refine CondS_d ?_ ?_ | refine CondS_b ?_ ?_ | refine GrdS_d ?_ ?_ | refine GrdS_b ?_ ?_ | refine OkS_i (by omega) ?_ | fail)
    unfold szr wtF; split <;> omega
  · have hc' := f33 x.f4 x.nl (left - x.f3.size) (by omega) (by omega) hx2
    repeat' (first | intro _ | (simp [sxa, sxb, sxc, Ex.ok, Ex.val, ← wr_eq, *]) | refine CallS_i (hc') ?_ | refine CondS_d ?_ ?_ | refine CondS_b ?_ ?_ | refine GrdS_d ?_ ?_ | refine GrdS_b ?_ ?_ | refine OkS_i (by omega) ?_ | fail)
    all_goals (unfold szr wtF at *; split at * <;> omega)
end Go.Eng
namespace Go.Eng
open Go Go.Proofs Geo
set_option linter.unusedSimpArgs false
set_option linter.unusedVariables false
set_option maxRecDepth 20000
set_option maxHeartbeats 1000000

/-! copies -/
/-- a made slice that is filled as far as n -/
def fillTo {α : Type} (g : α → List PV) (z : List PV) (l : List α) (n : Nat) : List (List PV) := (l.map g).take n ++ List.replicate (l.length - n) z
theorem fillTo_zero {α : Type} {g : α → List PV} {z : List PV} {l : List α} : fillTo g z l 0 = List.replicate l.length z := rfl
theorem fillTo_full {α : Type} {g : α → List PV} {z : List PV} {l : List α} : fillTo g z l l.length = l.map g := by
  unfold fillTo; rw [Nat.sub_self, List.take_of_length_le (by simp)]; simp
theorem fillTo_len {α : Type} {g : α → List PV} {z : List PV} {l : List α} {n : Nat} (h : n ≤ l.length) : (fillTo g z l n).length = l.length := by
  unfold fillTo; simp; omega
theorem fillTo_set {α : Type} {g : α → List PV} {z : List PV} {l : List α} {n : Nat} (h : n < l.length) : (fillTo g z l n).set n (g l[n]) = fillTo g z l (n + 1) := by
  unfold fillTo
  have e : l.length - n = (l.length - (n + 1)) + 1 := by omega
  rw [e, List.replicate_succ, List.set_append_right _ _ (by simp; omega)]
  have e2 : n - ((l.map g).take n).length = 0 := by simp; omega
  rw [e2, List.set_cons_zero, List.take_add_one, List.getElem?_map, List.getElem?_eq_getElem h]
  simp
theorem f8 (x y : Int) : Fn Try.prog 8 false [.agg [i x, i y]] (.agg [i x, i y]) := by
  refine Fn.by_sx hX (by kernel_rfl) c8 (by kernel_rfl) (by rfl) ?_
  simp [i8, sxa, sxb, sxc, Ex.ok, Ex.val, ← wr_eq]
theorem f37 (l : List Pt) (nl : Bool) (hl : l.length ≤ 1048576) : Fn Try.prog 37 true [.lst 2 nl (l.map cp)] (.lst 2 false (l.map cp)) := by
  refine Fn.by_sx hX (by kernel_rfl) c37 (by kernel_rfl) (by rfl) ?_
  simp [i37, sxa, sxb, sxc, Ex.ok, Ex.val, ← wr_eq]
  repeat' (first | intro _ | (simp [sxa, sxb, sxc, Ex.ok, Ex.val, ← wr_eq, *]) | refine CondS_d ?_ ?_ | refine CondS_b ?_ ?_ | refine GrdS_d ?_ ?_ | refine GrdS_b ?_ ?_ | refine OkS_i (by omega) ?_ | fail)
  refine sx_count l.length (fun n V => V 0 = .lst 2 nl (l.map cp) ∧ V 4 = i n ∧ V 3 = .lst 2 false (fillTo cp [i 0, i 0] l n)) 0 (by omega) (by simp [sxa, sxb, sxc, Ex.ok, Ex.val, ← wr_eq, fillTo_zero]) ?_
  rintro n V hn ⟨h0, h4, h3⟩
  have hw : wr .i64 ((n : Int) + 1) = n + 1 := wr_in (by omega) (by omega)
  simp [sxa, sxb, sxc, Ex.ok, Ex.val, ← wr_eq, h0, h4]
  refine CondS_d (fun hlt => ?_) (fun hge => ?_)
  · have hlt' : n < l.length := by omega
    have hs := fillTo_set (g := cp) (z := [i 0, i 0]) hlt'
    have hfl := fillTo_len (g := cp) (z := [i 0, i 0]) (l := l) (n := n) (by omega)
    simp only [cp] at hs
    repeat' (first | intro _ | (simp [sxa, sxb, sxc, Ex.ok, Ex.val, ← wr_eq, cp, *]) | refine CallS_i (f8 _ _) ?_ | refine CondS_d ?_ ?_ | refine CondS_b ?_ ?_ | refine GrdS_d ?_ ?_ | refine GrdS_b ?_ ?_ | refine OkS_i (by omega) ?_ | fail)
  · have : n = l.length := by omega
    subst this
    repeat' (first | intro _ | (simp [sxa, sxb, sxc, Ex.ok, Ex.val, ← wr_eq, fillTo_full, *]) | refine CondS_d ?_ ?_ | refine CondS_b ?_ ?_ | refine GrdS_d ?_ ?_ | refine GrdS_b ?_ ?_ | refine OkS_i (by omega) ?_ | fail)
def Ft.fr (x : Ft) : Ft := { x with nl := false }
def En.fr (x : En) : En := { x with f0 := x.f0.fr }
theorem f22 (x : Ft) (hl : x.f4.length ≤ 1048576) : Fn Try.prog 22 true [.agg (ft x)] (.agg (ft x.fr)) := by
  have hc := f37 x.f4 x.nl hl
  unfold ft Ft.fr
  refine Fn.by_sx hX (by kernel_rfl) c22 (by kernel_rfl) (by rfl) ?_
  simp [i22, sxa, sxb, sxc, Ex.ok, Ex.val, ← wr_eq]
  repeat' (first | intro _ | (simp [sxa, sxb, sxc, Ex.ok, Ex.val, ← wr_eq, *]) | refine CallS_i (hc) ?_ | refine CondS_d ?_ ?_ | refine CondS_b ?_ ?_ | refine GrdS_d ?_ ?_ | refine GrdS_b ?_ ?_ | refine OkS_i (by omega) ?_ | fail)
/-! what is read as it was -/
theorem f31 (x y : Int) : Fn Try.prog 31 false [.agg [i x, i y], .agg [i x, i y]] (.bool true) := by
  refine Fn.by_sx hX (by kernel_rfl) c31 (by kernel_rfl) (by rfl) ?_
  simp [i31, sxa, sxb, sxc, Ex.ok, Ex.val, ← wr_eq]
  repeat' (first | intro _ | (simp [sxa, sxb, sxc, Ex.ok, Ex.val, ← wr_eq, *]) | refine CondS_d ?_ ?_ | refine CondS_b ?_ ?_ | refine GrdS_d ?_ ?_ | refine GrdS_b ?_ ?_ | refine OkS_i (by omega) ?_ | fail)
theorem f13 (l : List Pt) (n1 n2 : Bool) (hl : l.length ≤ 1000000000000) : Fn Try.prog 13 false [.lst 2 n1 (l.map cp), .lst 2 n2 (l.map cp)] (.bool true) := by
  refine Fn.by_sx hX (by kernel_rfl) c13 (by kernel_rfl) (by rfl) ?_
  simp [i13, sxa, sxb, sxc, Ex.ok, Ex.val, ← wr_eq]
  repeat' (first | intro _ | (simp [sxa, sxb, sxc, Ex.ok, Ex.val, ← wr_eq, *]) | refine CondS_d ?_ ?_ | refine CondS_b ?_ ?_ | refine GrdS_d ?_ ?_ | refine GrdS_b ?_ ?_ | refine OkS_i (by omega) ?_ | fail)
  refine sx_count l.length (fun n V => V 0 = .lst 2 n1 (l.map cp) ∧ V 1 = .lst 2 n2 (l.map cp) ∧ V 5 = i n) 0 (by omega) (by simp [sxa, sxb, sxc, Ex.ok, Ex.val, ← wr_eq]) ?_
  rintro n V hn ⟨h0, h1, h5⟩
  have hw : wr .i64 ((n : Int) + 1) = n + 1 := wr_in (by omega) (by omega)
  simp [sxa, sxb, sxc, Ex.ok, Ex.val, ← wr_eq, h0, h5]
  refine CondS_d (fun hlt => ?_) (fun hge => ?_)
  · have hlt' : n < l.length := by omega
    repeat' (first | intro _ | (simp [sxa, sxb, sxc, Ex.ok, Ex.val, ← wr_eq, cp, *]) | refine CallS_b (f31 _ _) (fun h => ?_) (fun h => ?_) | refine CondS_d ?_ ?_ | refine CondS_b ?_ ?_ | refine GrdS_d ?_ ?_ | refine GrdS_b ?_ ?_ | refine OkS_i (by omega) ?_ | fail)
    all_goals simp_all
  · have : n = l.length := by omega
    subst this
    repeat' (first | intro _ | (simp [sxa, sxb, sxc, Ex.ok, Ex.val, ← wr_eq, *]) | refine CondS_d ?_ ?_ | refine CondS_b ?_ ?_ | refine GrdS_d ?_ ?_ | refine GrdS_b ?_ ?_ | refine OkS_i (by omega) ?_ | fail)
theorem f26 (x : Ft) (n1 n2 : Bool) (hl : x.f4.length ≤ 1000000000000) : Fn Try.prog 26 false [.agg (ft { x with nl := n1 }), .agg (ft { x with nl := n2 })] (.bool true) := by
  have hc := f13 x.f4 n1 n2 hl
  unfold ft
  refine Fn.by_sx hX (by kernel_rfl) c26 (by kernel_rfl) (by rfl) ?_
  simp [i26, sxa, sxb, sxc, Ex.ok, Ex.val, ← wr_eq]
  repeat' (first | intro _ | (simp [sxa, sxb, sxc, Ex.ok, Ex.val, ← wr_eq, *]) | refine CallS_i (hc) ?_ | refine CondS_d ?_ ?_ | refine CondS_b ?_ ?_ | refine GrdS_d ?_ ?_ | refine GrdS_b ?_ ?_ | refine OkS_i (by omega) ?_ | fail)
end Go.Eng
namespace Go.Eng
open Go Go.Proofs
set_option linter.unusedSimpArgs false
set_option linter.unusedVariables false
set_option maxRecDepth 20000
set_option maxHeartbeats 1000000

/-! lists of features and of numbers: sizes, copies, what is read as it was -/
def wtToF (l : List Ft) (n : Nat) : Nat := ((l.take n).map fun x => wtF x).sum
theorem wtToF_zero (l : List Ft) : wtToF l 0 = 0 := rfl
theorem wtToF_succ {l : List Ft} {n : Nat} (h : n < l.length) : wtToF l (n + 1) = wtToF l n + wtF l[n] := by
  unfold wtToF
  rw [List.take_add_one, List.getElem?_eq_getElem h, List.map_append, List.sum_append]
  simp
theorem wtToF_le {l : List Ft} {n m : Nat} (h : n ≤ m) : wtToF l n ≤ wtToF l m := by
  unfold wtToF
  have : l.take m = l.take n ++ (l.take m).drop n := by
    have := List.take_append_drop n (l.take m)
    rw [List.take_take, Nat.min_eq_left h] at this
    exact this.symm
  rw [this, List.map_append, List.sum_append]
  omega
def wtLF (l : List Ft) : Nat := l.length + wtToF l l.length
theorem f5 (l : List Ft) (nl : Bool) (left : Int) (h0 : 0 ≤ left) (h1 : left ≤ 1048576) (hl : l.length ≤ 9223372036854775807) (hx : ∀ x ∈ l, x.fits) : Fn Try.prog 5 false [.lst 5 nl (l.map ft), i left] (i (szr left (wtLF l : Nat))) := by
  refine Fn.by_sx hX (by kernel_rfl) c5 (by kernel_rfl) (by rfl) ?_
  simp [i5, sxa, sxb, sxc, Ex.ok, Ex.val, ← wr_eq]
  have hw : wr .i64 (left - l.length) = left - l.length := wr_in (by omega) (by omega)
  by_cases hc : left - l.length < 0
  · repeat' (first | intro _ | (simp [sxa, sxb, sxc, Ex.ok, Ex.val, ← wr_eq, *]) | refine CondS_d ?_ ?_ | refine CondS_b ?_ ?_ | refine GrdS_d ?_ ?_ | refine GrdS_b ?_ ?_ | refine OkS_i (by omega) ?_ | fail)
    unfold szr wtLF; split <;> omega
  · repeat' (first | intro _ | (simp [sxa, sxb, sxc, Ex.ok, Ex.val, ← wr_eq, *]) | refine CondS_d ?_ ?_ | refine CondS_b ?_ ?_ | refine GrdS_d ?_ ?_ | refine GrdS_b ?_ ?_ | refine OkS_i (by omega) ?_ | fail)
    refine sx_count l.length (fun n V => V 0 = .lst 5 nl (l.map ft) ∧ V 5 = i n ∧ V 1 = i (left - l.length - wtToF l n) ∧ 0 ≤ left - l.length - wtToF l n) 0 (by omega) (by simp [sxa, sxb, sxc, Ex.ok, Ex.val, ← wr_eq, wtToF_zero]; omega) ?_
    rintro n V hn ⟨h0, h5, h1, hp⟩
    have hw : wr .i64 ((n : Int) + 1) = n + 1 := wr_in (by omega) (by omega)
    simp [sxa, sxb, sxc, Ex.ok, Ex.val, ← wr_eq, h0, h5]
    refine CondS_d (fun hlt => ?_) (fun hge => ?_)
    · have hlt' : n < l.length := by omega
      have hs := wtToF_succ hlt'
      have hle := wtToF_le (l := l) (n := n + 1) (m := l.length) hlt'
      have hc := f17 l[n] (left - l.length - wtToF l n) hp (by omega) (hx _ (List.getElem_mem ..))
      have hz : szr (left - l.length - wtToF l n) (wtF l[n] : Nat) = if left - l.length - wtToF l (n + 1) < 0 then -1 else left - l.length - wtToF l (n + 1) := by
        unfold szr; rw [hs]; split <;> split <;> omega
      rw [hz] at hc
      by_cases hneg : left - l.length - wtToF l (n + 1) < 0
      · rw [if_pos hneg] at hc
        repeat' (first | intro _ | (simp [sxa, sxb, sxc, Ex.ok, Ex.val, ← wr_eq, ft, *]) | refine CallS_i (hc) ?_ | refine CondS_d ?_ ?_ | refine CondS_b ?_ ?_ | refine GrdS_d ?_ ?_ | refine GrdS_b ?_ ?_ | refine OkS_i (by omega) ?_ | fail)
        unfold szr wtLF; split <;> omega
      · rw [if_neg hneg] at hc
        repeat' (first | intro _ | (simp [sxa, sxb, sxc, Ex.ok, Ex.val, ← wr_eq, ft, *]) | refine CallS_i (hc) ?_ | refine CondS_d ?_ ?_ | refine CondS_b ?_ ?_ | refine GrdS_d ?_ ?_ | refine GrdS_b ?_ ?_ | refine OkS_i (by omega) ?_ | fail)
        all_goals omega
    · have : n = l.length := by omega
      subst this
      repeat' (first | intro _ | (simp [sxa, sxb, sxc, Ex.ok, Ex.val, ← wr_eq, *]) | refine CondS_d ?_ ?_ | refine CondS_b ?_ ?_ | refine GrdS_d ?_ ?_ | refine GrdS_b ?_ ?_ | refine OkS_i (by omega) ?_ | fail)
      unfold szr wtLF; split <;> omega
def ftz : List PV := [i 0, i 0, i 0, .str (bs []), .lst 2 true []]
def ftf (x : Ft) : List PV := [i x.f0, i x.f1, i x.f2, .str x.f3, .lst 2 false (x.f4.map cp)]
theorem f7w (l : List Ft) (nl : Bool) (hl : l.length ≤ 1048576) (hx : ∀ x ∈ l, x.f4.length ≤ 1048576) : Fn Try.prog 7 true [.lst 5 nl (l.map ft)] (.lst 5 false (l.map ftf)) := by
  refine Fn.by_sx hX (by kernel_rfl) c7 (by kernel_rfl) (by rfl) ?_
  simp [i7, sxa, sxb, sxc, Ex.ok, Ex.val, ← wr_eq]
  repeat' (first | intro _ | (simp [sxa, sxb, sxc, Ex.ok, Ex.val, ← wr_eq, *]) | refine CondS_d ?_ ?_ | refine CondS_b ?_ ?_ | refine GrdS_d ?_ ?_ | refine GrdS_b ?_ ?_ | refine OkS_i (by omega) ?_ | fail)
  refine sx_count l.length (fun n V => V 0 = .lst 5 nl (l.map ft) ∧ V 4 = i n ∧ V 3 = .lst 5 false (fillTo ftf ftz l n)) 0 (by omega) (by simp [sxa, sxb, sxc, Ex.ok, Ex.val, ← wr_eq, fillTo_zero, ftz]) ?_
  rintro n V hn ⟨h0, h4, h3⟩
  have hw : wr .i64 ((n : Int) + 1) = n + 1 := wr_in (by omega) (by omega)
  simp [sxa, sxb, sxc, Ex.ok, Ex.val, ← wr_eq, h0, h4]
  refine CondS_d (fun hlt => ?_) (fun hge => ?_)
  · have hlt' : n < l.length := by omega
    have hs : (fillTo ftf ftz l n).set n [i l[n].f0, i l[n].f1, i l[n].f2, .str l[n].f3, .lst 2 false (l[n].f4.map cp)] = fillTo ftf ftz l (n + 1) := fillTo_set hlt'
    have hfl := fillTo_len (g := ftf) (z := ftz) (l := l) (n := n) (by omega)
    have hc := f22 l[n] (hx _ (List.getElem_mem ..))
    unfold ft Ft.fr at hc
    repeat' (first | intro _ | (simp [sxa, sxb, sxc, Ex.ok, Ex.val, ← wr_eq, ft, *]) | refine CallS_i (hc) ?_ | refine CondS_d ?_ ?_ | refine CondS_b ?_ ?_ | refine GrdS_d ?_ ?_ | refine GrdS_b ?_ ?_ | refine OkS_i (by omega) ?_ | fail)
  · have : n = l.length := by omega
    subst this
    have hfu := fillTo_full (g := ftf) (z := ftz) (l := l)
    repeat' (first | intro _ | (simp [sxa, sxb, sxc, Ex.ok, Ex.val, ← wr_eq, *]) | refine CondS_d ?_ ?_ | refine CondS_b ?_ ?_ | refine GrdS_d ?_ ?_ | refine GrdS_b ?_ ?_ | refine OkS_i (by omega) ?_ | fail)
theorem f7 (l : List Ft) (nl : Bool) (hl : l.length ≤ 1048576) (hx : ∀ x ∈ l, x.f4.length ≤ 1048576) : Fn Try.prog 7 true [.lst 5 nl (l.map ft)] (.lst 5 false ((l.map Ft.fr).map ft)) := by
  have := f7w l nl hl hx
  rw [List.map_map]
  exact this
theorem f10 (l : List Ft) (n1 n2 : Bool) (hl : l.length ≤ 1000000000000) (hx : ∀ x ∈ l, x.f4.length ≤ 1000000000000) : Fn Try.prog 10 false [.lst 5 n1 (l.map ft), .lst 5 n2 (l.map ft)] (.bool true) := by
  refine Fn.by_sx hX (by kernel_rfl) c10 (by kernel_rfl) (by rfl) ?_
  simp [i10, sxa, sxb, sxc, Ex.ok, Ex.val, ← wr_eq]
  repeat' (first | intro _ | (simp [sxa, sxb, sxc, Ex.ok, Ex.val, ← wr_eq, *]) | refine CondS_d ?_ ?_ | refine CondS_b ?_ ?_ | refine GrdS_d ?_ ?_ | refine GrdS_b ?_ ?_ | refine OkS_i (by omega) ?_ | fail)
  refine sx_count l.length (fun n V => V 0 = .lst 5 n1 (l.map ft) ∧ V 1 = .lst 5 n2 (l.map ft) ∧ V 5 = i n) 0 (by omega) (by simp [sxa, sxb, sxc, Ex.ok, Ex.val, ← wr_eq]) ?_
  rintro n V hn ⟨h0, h1, h5⟩
  have hw : wr .i64 ((n : Int) + 1) = n + 1 := wr_in (by omega) (by omega)
  simp [sxa, sxb, sxc, Ex.ok, Ex.val, ← wr_eq, h0, h5]
  refine CondS_d (fun hlt => ?_) (fun hge => ?_)
  · have hlt' : n < l.length := by omega
    have hc := f26 l[n] l[n].nl l[n].nl (hx _ (List.getElem_mem ..))
    unfold ft at hc
    repeat' (first | intro _ | (simp [sxa, sxb, sxc, Ex.ok, Ex.val, ← wr_eq, ft, *]) | refine CallS_i (hc) ?_ | refine CondS_d ?_ ?_ | refine CondS_b ?_ ?_ | refine GrdS_d ?_ ?_ | refine GrdS_b ?_ ?_ | refine OkS_i (by omega) ?_ | fail)
    all_goals simp_all
  · have : n = l.length := by omega
    subst this
    repeat' (first | intro _ | (simp [sxa, sxb, sxc, Ex.ok, Ex.val, ← wr_eq, *]) | refine CondS_d ?_ ?_ | refine CondS_b ?_ ?_ | refine GrdS_d ?_ ?_ | refine GrdS_b ?_ ?_ | refine OkS_i (by omega) ?_ | fail)
theorem wtLF_len (l : List Ft) : l.length ≤ wtLF l := Nat.le_add_right ..
theorem wtLF_mem {l : List Ft} {x : Ft} (h : x ∈ l) : x.f3.size + x.f4.length ≤ wtLF l := by
  unfold wtLF wtToF
  rw [List.take_of_length_le (Nat.le_refl _)]
  have : ∀ (l : List Ft), x ∈ l → wtF x ≤ (l.map fun x => wtF x).sum := by
    intro l
    induction l with
    | nil => intro h; cases h
    | cons y r ih =>
      intro h
      rw [List.map_cons, List.sum_cons]
      rcases List.mem_cons.1 h with rfl | h
      · exact Nat.le_add_right ..
      · have := ih h; omega
  have := this l h
  have e : wtF x = x.f3.size + x.f4.length := rfl
  omega
end Go.Eng
namespace Go.Eng
open Go Go.Proofs Geo
set_option linter.unusedSimpArgs false
set_option linter.unusedVariables false
set_option maxRecDepth 20000
set_option maxHeartbeats 1000000

/-! lengths -/
def wSt (ax ay bx by' : Int) : Int := if M_IsPoint ax ay = true ∧ M_IsPoint bx by' = true then max (ax - bx) (bx - ax) + max (ay - by') (by' - ay) else -1
theorem wSt_ok {ax ay bx by' : Int} (h1 : M_IsPoint ax ay = true) (h2 : M_IsPoint bx by' = true) : wSt ax ay bx by' = max (ax - bx) (bx - ax) + max (ay - by') (by' - ay) ∧
    (wr .i64 (ax - bx) = ax - bx ∧ wr .i64 (bx - ax) = bx - ax ∧ wr .i64 (ay - by') = ay - by' ∧ wr .i64 (by' - ay) = by' - ay) ∧
    wr .i64 (max (ax - bx) (bx - ax) + max (ay - by') (by' - ay)) = max (ax - bx) (bx - ax) + max (ay - by') (by' - ay) := by
  have v1 := (M_IsPoint_iff _ _).1 h1
  have v2 := (M_IsPoint_iff _ _).1 h2
  unfold Vl at v1 v2
  refine ⟨if_pos ⟨h1, h2⟩, ⟨wr_in (by omega) (by omega), wr_in (by omega) (by omega), wr_in (by omega) (by omega), wr_in (by omega) (by omega)⟩, wr_in (by omega) (by omega)⟩
theorem wSt_bound (ax ay bx by' : Int) : -1 ≤ wSt ax ay bx by' ∧ wSt ax ay bx by' ≤ 400 := by
  unfold wSt
  split
  · rename_i h
    have v1 := (M_IsPoint_iff _ _).1 h.1
    have v2 := (M_IsPoint_iff _ _).1 h.2
    unfold Vl at v1 v2
    omega
  · omega
theorem mx_max (a b : Int) : (if a < b then b else a) = max a b := by omega
theorem f49 (ax ay bx by' : Int) : Fn Try.prog 49 false [.agg [i ax, i ay], .agg [i bx, i by']] (i (wSt ax ay bx by')) := by
  refine Fn.by_sx hX (by kernel_rfl) c49 (by kernel_rfl) (by rfl) ?_
  simp [i49, sxa, sxb, sxc, Ex.ok, Ex.val, ← wr_eq]
  refine CallS_b (f19 _ _) (fun h1 => ?_) (fun h1 => ?_)
  · by_cases h2 : M_IsPoint bx by' = true
    · obtain ⟨e1, ⟨w1, w2, w3, w4⟩, w5⟩ := wSt_ok h1 h2
      repeat' (first | intro _ | (simp [sxa, sxb, sxc, Ex.ok, Ex.val, ← wr_eq, *]) | refine CallS_b (f19 _ _) (fun h => ?_) (fun h => ?_) | refine CallS_i (f69 _ _) ?_ | refine CondS_d ?_ ?_ | refine CondS_b ?_ ?_ | refine GrdS_d ?_ ?_ | refine GrdS_b ?_ ?_ | refine OkS_i (by omega) ?_ | fail)
      all_goals simp_all
    · have : wSt ax ay bx by' = -1 := if_neg (fun h => h2 h.2)
      repeat' (first | intro _ | (simp [sxa, sxb, sxc, Ex.ok, Ex.val, ← wr_eq, *]) | refine CallS_b (f19 _ _) (fun h => ?_) (fun h => ?_) | refine CondS_d ?_ ?_ | refine CondS_b ?_ ?_ | refine GrdS_d ?_ ?_ | refine GrdS_b ?_ ?_ | refine OkS_i (by omega) ?_ | fail)
      all_goals simp_all
  · have : wSt ax ay bx by' = -1 := if_neg (fun h => by simp [h1] at h)
    repeat' (first | intro _ | (simp [sxa, sxb, sxc, Ex.ok, Ex.val, ← wr_eq, *]) | refine CondS_d ?_ ?_ | refine CondS_b ?_ ?_ | refine GrdS_d ?_ ?_ | refine GrdS_b ?_ ?_ | refine OkS_i (by omega) ?_ | fail)
theorem f54 (ax ay bx by' : Int) : Fn Try.prog 54 false [.agg [i ax, i ay], .agg [i bx, i by']] (i (wSt ax ay bx by')) := by
  refine Fn.by_sx hX (by kernel_rfl) c54 (by kernel_rfl) (by rfl) ?_
  simp [i54, sxa, sxb, sxc, Ex.ok, Ex.val, ← wr_eq]
  refine CallS_b (f24 _ _) (fun h1 => ?_) (fun h1 => ?_)
  · by_cases h2 : M_IsPoint bx by' = true
    · obtain ⟨e1, ⟨w1, w2, w3, w4⟩, w5⟩ := wSt_ok h1 h2
      repeat' (first | intro _ | (simp [sxa, sxb, sxc, Ex.ok, Ex.val, ← wr_eq, mx_max, *]) | refine CallS_b (f24 _ _) (fun h => ?_) (fun h => ?_) | refine CondS_d ?_ ?_ | refine CondS_b ?_ ?_ | refine GrdS_d ?_ ?_ | refine GrdS_b ?_ ?_ | refine OkS_i (by omega) ?_ | fail)
      all_goals simp_all
    · have : wSt ax ay bx by' = -1 := if_neg (fun h => h2 h.2)
      repeat' (first | intro _ | (simp [sxa, sxb, sxc, Ex.ok, Ex.val, ← wr_eq, *]) | refine CallS_b (f24 _ _) (fun h => ?_) (fun h => ?_) | refine CondS_d ?_ ?_ | refine CondS_b ?_ ?_ | refine GrdS_d ?_ ?_ | refine GrdS_b ?_ ?_ | refine OkS_i (by omega) ?_ | fail)
      all_goals simp_all
  · have : wSt ax ay bx by' = -1 := if_neg (fun h => by simp [h1] at h)
    repeat' (first | intro _ | (simp [sxa, sxb, sxc, Ex.ok, Ex.val, ← wr_eq, *]) | refine CondS_d ?_ ?_ | refine CondS_b ?_ ?_ | refine GrdS_d ?_ ?_ | refine GrdS_b ?_ ?_ | refine OkS_i (by omega) ?_ | fail)
def sumTo (f : Nat → Int) : Nat → Int
  | 0 => 0
  | n + 1 => sumTo f n + f n
theorem sumTo_zero {f : Nat → Int} : sumTo f 0 = 0 := rfl
theorem sumTo_succ {f : Nat → Int} {n : Nat} : sumTo f (n + 1) = sumTo f n + f n := rfl
theorem sumTo_bound {f : Nat → Int} {a b : Int} (h : ∀ k, -a ≤ f k ∧ f k ≤ b) : ∀ n : Nat, -(a * n) ≤ sumTo f n ∧ sumTo f n ≤ b * n := by
  intro n
  induction n with
  | zero => simp [sumTo]
  | succ n ih =>
    have := h n
    have e1 : a * ((n + 1 : Nat) : Int) = a * n + a := by rw [Int.natCast_add, Int.mul_add]; simp
    have e2 : b * ((n + 1 : Nat) : Int) = b * n + b := by rw [Int.natCast_add, Int.mul_add]; simp
    rw [sumTo_succ, e1, e2]
    omega
def sSt (S : List Sg) (k : Nat) : Int := wSt (sgD S k).f0.f0 (sgD S k).f0.f1 (sgD S k).f1.f0 (sgD S k).f1.f1
def wSteps (l : List Pt) : Int := sumTo (sSt (wSegs l)) (wSegs l).length
theorem sSt_sum (S : List Sg) (n : Nat) : -(1 * (n : Int)) ≤ sumTo (sSt S) n ∧ sumTo (sSt S) n ≤ 400 * n := sumTo_bound (fun k => wSt_bound ..) n
theorem wSteps_bound (l : List Pt) : -9 ≤ wSteps l ∧ wSteps l ≤ 3600 := by
  have := sSt_sum (wSegs l) (wSegs l).length
  have h9 := wSegs_len l
  unfold wSteps
  omega
theorem f36 (l : List Pt) (nl : Bool) (hl : l.length ≤ 1000000000000) : Fn Try.prog 36 false [.lst 2 nl (l.map cp)] (i (wSteps l)) := by
  refine Fn.by_sx hX (by kernel_rfl) c36 (by kernel_rfl) (by rfl) ?_
  simp [i36, sxa, sxb, sxc, Ex.ok, Ex.val, ← wr_eq]
  refine CallS_l (f48 l nl (by omega)) ?_
  have hS := wSegs_len l
  unfold wSteps
  generalize wSegs l = S at hS ⊢
  simp [sxa, sxb, sxc, Ex.ok, Ex.val, ← wr_eq]
  refine sx_count S.length (fun n V => V 4 = .lst 4 false (S.map cs) ∧ V 5 = i n ∧ V 3 = i (sumTo (sSt S) n)) 0 (by omega) (by simp [sxa, sxb, sxc, Ex.ok, Ex.val, ← wr_eq, sumTo_zero]) ?_
  rintro n V hn ⟨h4, h5, h3⟩
  have hw : wr .i64 ((n : Int) + 1) = n + 1 := wr_in (by omega) (by omega)
  simp [sxa, sxb, sxc, Ex.ok, Ex.val, ← wr_eq, h4, h5]
  refine CondS_d (fun hlt => ?_) (fun hge => ?_)
  · have hlt' : n < S.length := by omega
    have hb := sSt_sum S n
    have hs : sSt S n = wSt S[n].f0.f0 S[n].f0.f1 S[n].f1.f0 S[n].f1.f1 := by simp [sSt, sgD, hlt']
    have hb2 := wSt_bound S[n].f0.f0 S[n].f0.f1 S[n].f1.f0 S[n].f1.f1
    have hw2 : wr .i64 (sumTo (sSt S) n + wSt S[n].f0.f0 S[n].f0.f1 S[n].f1.f0 S[n].f1.f1) = sumTo (sSt S) n + wSt S[n].f0.f0 S[n].f0.f1 S[n].f1.f0 S[n].f1.f1 := wr_in (by omega) (by omega)
    have hn1 : sumTo (sSt S) (n + 1) = sumTo (sSt S) n + wSt S[n].f0.f0 S[n].f0.f1 S[n].f1.f0 S[n].f1.f1 := by rw [sumTo_succ, hs]
    repeat' (first | intro _ | (simp [sxa, sxb, sxc, Ex.ok, Ex.val, ← wr_eq, cs, *]) | refine CallS_i (f49 _ _ _ _) ?_ | refine CondS_d ?_ ?_ | refine CondS_b ?_ ?_ | refine GrdS_d ?_ ?_ | refine GrdS_b ?_ ?_ | refine OkS_i (by omega) ?_ | fail)
  · have : n = S.length := by omega
    subst this
    repeat' (first | intro _ | (simp [sxa, sxb, sxc, Ex.ok, Ex.val, ← wr_eq, *]) | refine CondS_d ?_ ?_ | refine CondS_b ?_ ?_ | refine GrdS_d ?_ ?_ | refine GrdS_b ?_ ?_ | refine OkS_i (by omega) ?_ | fail)
theorem f42 (l : List Pt) (nl : Bool) (hl : l.length ≤ 1000000000000) : Fn Try.prog 42 false [.lst 2 nl (l.map cp)] (i (wSteps l)) := by
  refine Fn.by_sx hX (by kernel_rfl) c42 (by kernel_rfl) (by rfl) ?_
  simp [i42, sxa, sxb, sxc, Ex.ok, Ex.val, ← wr_eq]
  refine CallS_l (f53 l nl (by omega)) ?_
  have hS := wSegs_len l
  unfold wSteps
  generalize wSegs l = S at hS ⊢
  simp [sxa, sxb, sxc, Ex.ok, Ex.val, ← wr_eq]
  refine sx_count S.length (fun n V => V 7 = .lst 4 false (S.map cs) ∧ V 8 = i S.length ∧ V 9 = i n ∧ V 3 = i (sumTo (sSt S) n)) 0 (by omega) (by simp [sxa, sxb, sxc, Ex.ok, Ex.val, ← wr_eq, sumTo_zero]) ?_
  rintro n V hn ⟨h7, h8, h9, h3⟩
  have hw : wr .i64 ((n : Int) + 1) = n + 1 := wr_in (by omega) (by omega)
  simp [sxa, sxb, sxc, Ex.ok, Ex.val, ← wr_eq, h8, h9]
  refine CondS_d (fun hlt => ?_) (fun hge => ?_)
  · have hlt' : n < S.length := by omega
    have hb := sSt_sum S n
    have hs : sSt S n = wSt S[n].f0.f0 S[n].f0.f1 S[n].f1.f0 S[n].f1.f1 := by simp [sSt, sgD, hlt']
    have hb2 := wSt_bound S[n].f0.f0 S[n].f0.f1 S[n].f1.f0 S[n].f1.f1
    have hw2 : wr .i64 (sumTo (sSt S) n + wSt S[n].f0.f0 S[n].f0.f1 S[n].f1.f0 S[n].f1.f1) = sumTo (sSt S) n + wSt S[n].f0.f0 S[n].f0.f1 S[n].f1.f0 S[n].f1.f1 := wr_in (by omega) (by omega)
    have hn1 : sumTo (sSt S) (n + 1) = sumTo (sSt S) n + wSt S[n].f0.f0 S[n].f0.f1 S[n].f1.f0 S[n].f1.f1 := by rw [sumTo_succ, hs]
    repeat' (first | intro _ | (simp [sxa, sxb, sxc, Ex.ok, Ex.val, ← wr_eq, cs, *]) | refine CallS_i (f54 _ _ _ _) ?_ | refine CondS_d ?_ ?_ | refine CondS_b ?_ ?_ | refine GrdS_d ?_ ?_ | refine GrdS_b ?_ ?_ | refine OkS_i (by omega) ?_ | fail)
  · have : n = S.length := by omega
    subst this
    repeat' (first | intro _ | (simp [sxa, sxb, sxc, Ex.ok, Ex.val, ← wr_eq, *]) | refine CondS_d ?_ ?_ | refine CondS_b ?_ ?_ | refine GrdS_d ?_ ?_ | refine GrdS_b ?_ ?_ | refine OkS_i (by omega) ?_ | fail)
/-! the first that is found -/
def firstFrom (ok : Nat → Bool) : Nat → Nat → Int
  | 0, _ => -1
  | d + 1, i => if ok i = true then i else firstFrom ok d (i + 1)
def ftD : Ft := ⟨0, 0, 0, ⟨#[]⟩, [], true⟩
def hasId (l : List Ft) (id : Int) (n : Nat) : Bool := decide ((l.getD n ftD).f0 = id)
def wFind (l : List Ft) (id : Int) : Int := firstFrom (hasId l id) (l.length - 0) 0
end Go.Eng
namespace Go.Eng
open Go Go.Proofs Geo
set_option linter.unusedSimpArgs false
set_option linter.unusedVariables false
set_option maxRecDepth 20000
set_option maxHeartbeats 1000000

/-! the length of a way -/
def ints (l : List Int) : List (List PV) := l.map fun m => [i m]
theorem frF_small {l r : List Ft} (hr : l.map Ft.fr = r) {B : Nat} (h : ∀ x ∈ l, x.f3.size ≤ B ∧ x.f4.length ≤ B) : ∀ x ∈ r, x.f3.size ≤ B ∧ x.f4.length ≤ B := by
  intro x hx
  rw [← hr] at hx
  obtain ⟨y, hy, rfl⟩ := List.mem_map.1 hx
  exact h y hy
end Go.Eng
namespace Go.Eng
open Go Go.Proofs Geo
set_option linter.unusedSimpArgs false
set_option linter.unusedVariables false
set_option maxRecDepth 20000
set_option maxHeartbeats 1000000

/-! a source, and a way -/
def srcAt (l : List Ft) (n : Nat) : Bool := wFeat (l.getD n ftD) && !(decide (0 < n) && decide ((l.getD n ftD).f0 ≤ (l.getD (n - 1) ftD).f0))
def wSrc (l : List Ft) : Bool := decide (l.length ≤ 16) && allTo (srcAt l) l.length
theorem f18 (l : List Ft) (nl : Bool) (hl : l.length ≤ 1000000000000) (hb : ∀ x ∈ l, x.okay) : Fn Try.prog 18 false [.lst 5 nl (l.map ft)] (.bool (wSrc l)) := by
  refine Fn.by_sx hX (by kernel_rfl) c18 (by kernel_rfl) (by rfl) ?_
  simp [i18, sxa, sxb, sxc, Ex.ok, Ex.val, ← wr_eq]
  refine sx_count l.length (fun n V => V 0 = .lst 5 nl (l.map ft) ∧ V 3 = i n ∧ allTo (srcAt l) n = true) 0 (by omega) (by simp [sxa, sxb, sxc, Ex.ok, Ex.val, ← wr_eq, allTo_zero]) ?_
  rintro n V hn ⟨h0, h3, ha⟩
  simp [sxa, sxb, sxc, Ex.ok, Ex.val, ← wr_eq, h0, h3]
  refine CondS_d (fun hlt => ?_) (fun hge => ?_)
  · have hlt' : n < l.length := by omega
    have hbad : srcAt l n = false → wSrc l = false := fun h => by simp [wSrc, allTo_bad hlt' h]
    have hok : l[n].okay := hb _ (List.getElem_mem ..)
    have hc := f34 l[n] hok
    rcases Nat.eq_zero_or_pos n with rfl | hpos
    · repeat' (first | intro _ | (simp [sxa, sxb, sxc, Ex.ok, Ex.val, ← wr_eq, ft, allTo_succ, *]) | refine CallS_b (hc) (fun h => ?_) (fun h => ?_) | refine CondS_d ?_ ?_ | refine CondS_b ?_ ?_ | refine GrdS_d ?_ ?_ | refine GrdS_b ?_ ?_ | refine OkS_i (by omega) ?_ | fail)
      all_goals first | (apply hbad; simp_all [srcAt]; done) | simp_all [srcAt]
    · have hw : wr .i64 ((n : Int) + 1) = n + 1 := wr_in (by omega) (by omega)
      have hw2 : wr .i64 ((n : Int) - 1) = ((n - 1 : Nat) : Int) := wrap_down n hpos (by omega)
      have hpos' : (0 : Int) < n := by omega
      have hm : n - 1 < l.length := by omega
      repeat' (first | intro _ | (simp [sxa, sxb, sxc, Ex.ok, Ex.val, ← wr_eq, ft, allTo_succ, *]) | refine CallS_b (hc) (fun h => ?_) (fun h => ?_) | refine CondS_d ?_ ?_ | refine CondS_b ?_ ?_ | refine GrdS_d ?_ ?_ | refine GrdS_b ?_ ?_ | refine OkS_i (by omega) ?_ | fail)
      all_goals first | (apply hbad; simp_all [srcAt]; done) | simp_all [srcAt]
      all_goals omega
  · have : n = l.length := by omega
    subst this
    repeat' (first | intro _ | (simp [sxa, sxb, sxc, Ex.ok, Ex.val, ← wr_eq, *]) | refine CondS_d ?_ ?_ | refine CondS_b ?_ ?_ | refine GrdS_d ?_ ?_ | refine GrdS_b ?_ ?_ | refine OkS_i (by omega) ?_ | fail)
    all_goals simp_all [wSrc]
    all_goals omega
theorem f23 (l : List Ft) (nl : Bool) (hl : l.length ≤ 1000000000000) (hb : ∀ x ∈ l, x.okay) : Fn Try.prog 23 false [.lst 5 nl (l.map ft)] (.bool (wSrc l)) := by
  refine Fn.by_sx hX (by kernel_rfl) c23 (by kernel_rfl) (by rfl) ?_
  simp [i23, sxa, sxb, sxc, Ex.ok, Ex.val, ← wr_eq]
  by_cases hL : (l.length : Int) > 16
  · have hf : wSrc l = false := by simp [wSrc]; omega
    repeat' (first | intro _ | (simp [sxa, sxb, sxc, Ex.ok, Ex.val, ← wr_eq, *]) | refine CondS_d ?_ ?_ | refine CondS_b ?_ ?_ | refine GrdS_d ?_ ?_ | refine GrdS_b ?_ ?_ | refine OkS_i (by omega) ?_ | fail)
  have hL' : l.length ≤ 16 := by omega
  repeat' (first | intro _ | (simp [sxa, sxb, sxc, Ex.ok, Ex.val, ← wr_eq, *]) | refine CondS_d ?_ ?_ | refine CondS_b ?_ ?_ | refine GrdS_d ?_ ?_ | refine GrdS_b ?_ ?_ | refine OkS_i (by omega) ?_ | fail)
  refine sx_count l.length (fun n V => V 0 = .lst 5 nl (l.map ft) ∧ V 8 = .lst 5 nl (l.map ft) ∧ V 9 = i l.length ∧ V 10 = i n ∧ allTo (srcAt l) n = true) 0 (by omega) (by simp [sxa, sxb, sxc, Ex.ok, Ex.val, ← wr_eq, allTo_zero]) ?_
  rintro n V hn ⟨h0, h8, h9, h10, ha⟩
  simp [sxa, sxb, sxc, Ex.ok, Ex.val, ← wr_eq, h9, h10]
  refine CondS_d (fun hlt => ?_) (fun hge => ?_)
  · have hlt' : n < l.length := by omega
    have hbad : srcAt l n = false → wSrc l = false := fun h => by simp [wSrc, allTo_bad hlt' h]
    have hok : l[n].okay := hb _ (List.getElem_mem ..)
    have hc := f38 l[n] hok
    rcases Nat.eq_zero_or_pos n with rfl | hpos
    · repeat' (first | intro _ | (simp [sxa, sxb, sxc, Ex.ok, Ex.val, ← wr_eq, ft, allTo_succ, *]) | refine CallS_b (hc) (fun h => ?_) (fun h => ?_) | refine CondS_d ?_ ?_ | refine CondS_b ?_ ?_ | refine GrdS_d ?_ ?_ | refine GrdS_b ?_ ?_ | refine OkS_i (by omega) ?_ | fail)
      all_goals first | (apply hbad; simp_all [srcAt]; done) | simp_all [srcAt]
    · have hw : wr .i64 ((n : Int) + 1) = n + 1 := wr_in (by omega) (by omega)
      have hw2 : wr .i64 ((n : Int) - 1) = ((n - 1 : Nat) : Int) := wrap_down n hpos (by omega)
      have hpos' : (0 : Int) < n := by omega
      have hm : n - 1 < l.length := by omega
      repeat' (first | intro _ | (simp [sxa, sxb, sxc, Ex.ok, Ex.val, ← wr_eq, ft, allTo_succ, *]) | refine CallS_b (hc) (fun h => ?_) (fun h => ?_) | refine CondS_d ?_ ?_ | refine CondS_b ?_ ?_ | refine GrdS_d ?_ ?_ | refine GrdS_b ?_ ?_ | refine OkS_i (by omega) ?_ | fail)
      all_goals first | (apply hbad; simp_all [srcAt]; done) | simp_all [srcAt]
      all_goals omega
  · have : n = l.length := by omega
    subst this
    repeat' (first | intro _ | (simp [sxa, sxb, sxc, Ex.ok, Ex.val, ← wr_eq, *]) | refine CondS_d ?_ ?_ | refine CondS_b ?_ ?_ | refine GrdS_d ?_ ?_ | refine GrdS_b ?_ ?_ | refine OkS_i (by omega) ?_ | fail)
    all_goals simp_all [wSrc]
theorem allTo_at {ok : Nat → Bool} {n N : Nat} (h : allTo ok N = true) (hn : n < N) : ok n = true := by
  cases hb : ok n with
  | true => rfl
  | false => rw [allTo_bad hn hb] at h; cases h
theorem wSrc_line {l : List Ft} (h : wSrc l = true) {k : Nat} (hk : k < l.length) (h2 : l[k].f1 = 2) : 2 ≤ l[k].f4.length ∧ l[k].f4.length ≤ 10 := by
  unfold wSrc at h
  rw [Bool.and_eq_true] at h
  have := allTo_at h.2 hk
  simp [srcAt, hk, wFeat, wShape, h2, wSimple] at this
  exact wLine_len this.1.2.1
def pe (p q : Pt) : Bool := decide (p.f0 = q.f0) && decide (p.f1 = q.f1)
def endA (x : Ft) : Pt := x.f4.getD 0 ⟨0, 0⟩
def endB (x : Ft) : Pt := x.f4.getD (x.f4.length - 1) ⟨0, 0⟩
theorem f40 (x : Ft) (rank : Int) : Fn Try.prog 40 false [.agg (ft x), i rank] (.bool (decide (x.f1 = 2) && !decide (x.f2 < rank))) := by
  have hd : decide (rank ≤ x.f2) = !decide (x.f2 < rank) := by by_cases h : x.f2 < rank <;> simp [h] <;> omega
  unfold ft
  refine Fn.by_sx hX (by kernel_rfl) c40 (by kernel_rfl) (by rfl) ?_
  simp [i40, sxa, sxb, sxc, Ex.ok, Ex.val, ← wr_eq]
  repeat' (first | intro _ | (simp [sxa, sxb, sxc, Ex.ok, Ex.val, ← wr_eq, *]) | refine CondS_d ?_ ?_ | refine CondS_b ?_ ?_ | refine GrdS_d ?_ ?_ | refine GrdS_b ?_ ?_ | refine OkS_i (by omega) ?_ | fail)
theorem f41 (x : Ft) (p : Pt) (h : 0 < x.f4.length) (hl : x.f4.length ≤ 1000000000000) : Fn Try.prog 41 false [.agg (ft x), .agg (cp p)] (.tup [.agg (cp (if pe (endA x) p = true then endB x else endA x)), .bool (pe (endA x) p || pe (endB x) p)]) := by
  have hw : wr .i64 ((x.f4.length : Int) - 1) = ((x.f4.length - 1 : Nat) : Int) := wrap_down _ h (by omega)
  have hm : x.f4.length - 1 < x.f4.length := by omega
  have ea : endA x = x.f4[0] := by simp [endA, h]
  have eb : endB x = x.f4[x.f4.length - 1] := by simp [endB, hm]
  unfold ft cp
  refine Fn.by_sx hX (by kernel_rfl) c41 (by kernel_rfl) (by rfl) ?_
  simp [i41, sxa, sxb, sxc, Ex.ok, Ex.val, ← wr_eq]
  repeat' (first | intro _ | (simp [sxa, sxb, sxc, Ex.ok, Ex.val, ← wr_eq, *]) | refine CondS_d ?_ ?_ | refine CondS_b ?_ ?_ | refine GrdS_d ?_ ?_ | refine GrdS_b ?_ ?_ | refine OkS_i (by omega) ?_ | fail)
  all_goals simp_all [pe]
  rename_i h
  rw [if_neg (fun g => h g.1 g.2)]
  exact ⟨rfl, rfl⟩
def hopF (x : Ft) (rank : Int) (p : Pt) : Option Pt := if x.f1 = 2 ∧ ¬ x.f2 < rank then (if pe p (endA x) = true then some (endB x) else if pe p (endB x) = true then some (endA x) else none) else none
def hop (l : List Ft) (rank : Int) (p : Pt) (id : Int) : Option Pt := if wFind l id < 0 then none else hopF (l.getD (wFind l id).toNat ftD) rank p
end Go.Eng
namespace Go.Eng
open Go Go.Proofs Geo
set_option linter.unusedSimpArgs false
set_option linter.unusedVariables false
set_option maxRecDepth 20000
set_option maxHeartbeats 1000000

/-! marks. WRITES -/
def dig1 (m : Nat) : ByteArray := ⟨#[UInt8.ofNat (48 + m % 10)]⟩
def mtd (m : Nat) (acc : ByteArray) : ByteArray := if h : m = 0 then acc else mtd (m / 10) (dig1 m ++ acc)
termination_by m
decreasing_by omega
def mt (k : Int) : ByteArray := if k ≤ 0 then bs [109, 48] else bs [109] ++ mtd k.toNat (bs [])
theorem f32 (k : Int) (hk : k ≤ 1000000000000) : Fn Try.prog 32 false [i k] (.str (mt k)) := by
  refine Fn.by_sx hX (by kernel_rfl) c32 (by kernel_rfl) (by rfl) ?_
  simp [i32, sxa, sxb, sxc, Ex.ok, Ex.val, ← wr_eq]
  by_cases h0 : k ≤ 0
  · have : mt k = bs [109, 48] := if_pos h0
    repeat' (first | intro _ | (simp [sxa, sxb, sxc, Ex.ok, Ex.val, ← wr_eq, *]) | refine CondS_d ?_ ?_ | refine CondS_b ?_ ?_ | refine GrdS_d ?_ ?_ | refine GrdS_b ?_ ?_ | refine OkS_i (by omega) ?_ | fail)
  · obtain ⟨N, rfl⟩ : ∃ N : Nat, k = N := ⟨k.toNat, by omega⟩
    obtain ⟨D, hD⟩ : ∃ D, mtd N (bs []) = D := ⟨_, rfl⟩
    have hm : mt (N : Int) = bs [109] ++ D := by unfold mt; rw [if_neg h0, Int.toNat_natCast, hD]
    rw [hm]
    clear hm
    have hN0 : ¬ N = 0 := by omega
    repeat' (first | intro _ | (simp [sxa, sxb, sxc, Ex.ok, Ex.val, ← wr_eq, *]) | refine CondS_d ?_ ?_ | refine CondS_b ?_ ?_ | refine GrdS_d ?_ ?_ | refine GrdS_b ?_ ?_ | refine OkS_i (by omega) ?_ | fail)
    refine sx_down (fun m V => ∃ acc : ByteArray, V 3 = .str acc ∧ V 0 = i m ∧ mtd m acc = D ∧ acc.size + m ≤ N) N ⟨bs [], by simp [sxa, sxb, sxc, Ex.ok, Ex.val, ← wr_eq], by simp [sxa, sxb, sxc, Ex.ok, Ex.val, ← wr_eq], hD, by show 0 + N ≤ N; omega⟩ ?_
    rintro m V ⟨acc, h3, h0, hd, hsz⟩
    simp [sxa, sxb, sxc, Ex.ok, Ex.val, ← wr_eq, h0, h3]
    refine CondS_d (fun hlt => ?_) (fun hge => ?_)
    · have hm0 : ¬ m = 0 := by omega
      have hmt : ((m : Int).tmod 10) = (m : Int) % 10 := Int.tmod_eq_emod_of_nonneg (by omega)
      have hmq : ((m : Int).tdiv 10) = (m : Int) / 10 := Int.tdiv_eq_ediv_of_nonneg (by omega)
      have hw1 : wr .i64 (48 + (m : Int) % 10) = 48 + (m : Int) % 10 := wr_in (by omega) (by omega)
      have hw2 : wr .u8 (48 + (m : Int) % 10) = 48 + (m : Int) % 10 := wr_u8 (by omega) (by omega)
      have hw3 : wr .i64 ((m : Int) / 10) = (m : Int) / 10 := wr_in (by omega) (by omega)
      rw [mtd, dif_neg hm0] at hd
      have hds : (dig1 m).size = 1 := rfl
      have hlt2 : m / 10 < m := by omega
      have htn : (48 + (m : Int) % 10).toNat = 48 + m % 10 := by omega
      have hdd : (⟨#[48 + UInt8.ofNat (m % 10)]⟩ : ByteArray) = dig1 m := by unfold dig1; rw [UInt8.ofNat_add]; rfl
      repeat' (first | intro _ | (simp [sxa, sxb, sxc, Ex.ok, Ex.val, ← wr_eq, *]) | refine CondS_d ?_ ?_ | refine CondS_b ?_ ?_ | refine GrdS_d ?_ ?_ | refine GrdS_b ?_ ?_ | refine OkS_i (by omega) ?_ | fail)
      refine OkS_i ⟨[_], rfl⟩ ?_
      repeat' (first | intro _ | (simp [sxa, sxb, sxc, Ex.ok, Ex.val, ← wr_eq, *]) | refine CondS_d ?_ ?_ | refine CondS_b ?_ ?_ | refine GrdS_d ?_ ?_ | refine GrdS_b ?_ ?_ | refine OkS_i (by omega) ?_ | fail)
      refine ⟨m / 10, hlt2, by omega, hd, ?_⟩
      omega
    · have : m = 0 := by omega
      subst this
      rw [mtd, dif_pos rfl] at hd
      subst hd
      have hb1 : (bs [109]).size = 1 := rfl
      repeat' (first | intro _ | (simp [sxa, sxb, sxc, Ex.ok, Ex.val, ← wr_eq, *]) | refine CondS_d ?_ ?_ | refine CondS_b ?_ ?_ | refine GrdS_d ?_ ?_ | refine GrdS_b ?_ ?_ | refine OkS_i (by omega) ?_ | fail)
      all_goals (rw [hb1]; omega)
/-- a list that is new as far as n, and old behind -/
def mix (a b : List (List PV)) (n : Nat) : List (List PV) := a.take n ++ b.drop n
theorem mix_zero {a b : List (List PV)} : mix a b 0 = b := rfl
theorem mix_full {a b : List (List PV)} (h : a.length = b.length) : mix a b b.length = a := by unfold mix; rw [← h, List.take_length, h, List.drop_length, List.append_nil]
theorem mix_len {a b : List (List PV)} {n : Nat} (h : a.length = b.length) : (mix a b n).length = b.length := by unfold mix; simp; omega
theorem mix_at {a b : List (List PV)} {n : Nat} (h : a.length = b.length) (hn : n < b.length) : (mix a b n)[n]? = some b[n] := by
  unfold mix
  rw [List.getElem?_append_right (by simp; omega), List.getElem?_drop]
  have : n + (n - (a.take n).length) = n := by simp; omega
  rw [this, List.getElem?_eq_getElem hn]
theorem get_of {α : Type} {l : List α} {n : Nat} {x : α} (h : l[n]? = some x) : ∃ hn : n < l.length, l[n] = x := by
  have hn : n < l.length := by
    rcases Nat.lt_or_ge n l.length with h1 | h1
    · exact h1
    · rw [List.getElem?_eq_none h1] at h; cases h
  exact ⟨hn, by rw [List.getElem?_eq_getElem hn] at h; exact Option.some.inj h⟩
theorem mix_set {a b : List (List PV)} {n : Nat} (h : a.length = b.length) (hn : n < b.length) {e : List PV} (he : a[n]? = some e) : (mix a b n).set n e = mix a b (n + 1) := by
  unfold mix
  rw [List.set_append_right _ _ (by simp; omega)]
  have e1 : n - (a.take n).length = 0 := by simp; omega
  rw [e1, List.drop_eq_getElem_cons hn, List.set_cons_zero, List.take_add_one, he]
  simp
def mkPt (k : Int) (j : Nat) : Pt := ⟨k + 2 * j, k + 2 * j + 1⟩
theorem f15 (l : List Pt) (nl : Bool) (k : Int) (hnl : nl = true → l = []) (hk0 : 0 ≤ k) (hk : k + 2 * l.length ≤ 1000000000000) :
    FnM Try.prog 15 [.lst 2 nl (l.map cp), i k] (i (k + 2 * l.length)) (.lst 2 nl ((upTo (mkPt k) l.length).map cp)) := by
  obtain ⟨b, hb⟩ : ∃ b : List (List PV), l.map cp = b := ⟨_, rfl⟩
  have hbl : b.length = l.length := by rw [← hb]; simp
  obtain ⟨a, ha⟩ : ∃ a, (upTo (mkPt k) l.length).map cp = a := ⟨_, rfl⟩
  have hal : a.length = b.length := by rw [← ha, List.length_map, upTo_length, hbl]
  rw [ha, hb]
  refine FnM.by_sx hX (by kernel_rfl) c15 rfl rfl ?_
  simp [i15, sxa, sxb, sxc, Ex.ok, Ex.val, ← wr_eq]
  refine sx_count l.length (fun n V => V 0 = .lst 2 nl (mix a b n) ∧ V 5 = i n ∧ V 1 = i (k + 2 * n)) 0 (by omega) (by simp [sxa, sxb, sxc, Ex.ok, Ex.val, ← wr_eq, mix_zero]) ?_
  rintro n V hn ⟨h0, h5, h1⟩
  have hml := mix_len (n := n) hal
  rw [hbl] at hml
  simp [sxa, sxb, sxc, Ex.ok, Ex.val, ← wr_eq, h0, h5]
  refine CondS_d (fun hlt => ?_) (fun hge => ?_)
  · have hlt' : n < l.length := by omega
    have hnb : n < b.length := by omega
    have hf : nl = false := by cases nl with | false => rfl | true => rw [hnl rfl] at hlt'; simp at hlt'
    subst hf
    have hw : wr .i64 ((n : Int) + 1) = n + 1 := wr_in (by omega) (by omega)
    have hw2 : wr .i64 (k + 2 * n + 1) = k + 2 * n + 1 := wr_in (by omega) (by omega)
    have hw3 : wr .i64 (k + 2 * n + 1 + 1) = k + 2 * (n + 1) := by rw [wr_in (by omega) (by omega)]; omega
    have hat : (mix a b n)[n]? = some [i l[n].f0, i l[n].f1] := by rw [mix_at hal hnb]; subst hb; simp [cp]
    obtain ⟨hlm, hat'⟩ := get_of hat
    have hst : (mix a b n).set n [i (k + 2 * n), i (k + 2 * n + 1)] = mix a b (n + 1) := mix_set hal hnb (by rw [← ha, List.getElem?_map, upTo_get hlt']; rfl)
    repeat' (first | intro _ | (simp [sxa, sxb, sxc, Ex.ok, Ex.val, ← wr_eq, *]) | refine CondS_d ?_ ?_ | refine CondS_b ?_ ?_ | refine GrdS_d ?_ ?_ | refine GrdS_b ?_ ?_ | refine OkS_i (by omega) ?_ | fail)
  · have : n = l.length := by omega
    subst this
    have hfu := mix_full hal
    rw [hbl] at hfu
    repeat' (first | intro _ | (simp [sxa, sxb, sxc, Ex.ok, Ex.val, ← wr_eq, *]) | refine CondS_d ?_ ?_ | refine CondS_b ?_ ?_ | refine GrdS_d ?_ ?_ | refine GrdS_b ?_ ?_ | refine OkS_i (by omega) ?_ | fail)
end Go.Eng
namespace Go.Eng
open Go Go.Proofs Geo
set_option linter.unusedSimpArgs false
set_option linter.unusedVariables false
set_option maxRecDepth 20000
set_option maxHeartbeats 1000000

/-! marks of features. WRITES -/
def kTo (l : List Ft) (k : Int) : Nat → Int
  | 0 => k
  | n + 1 => kTo l k n + 4 + 2 * ((l.getD n ftD).f4.length : Nat)
def mkFt (k : Int) (x : Ft) : Ft := ⟨k, k + 1, k + 2, mt (k + 3), upTo (mkPt (k + 4)) x.f4.length, x.nl⟩
def mkFtAt (l : List Ft) (k : Int) (j : Nat) : Ft := mkFt (kTo l k j) (l.getD j ftD)
def Ft.nlok (x : Ft) : Prop := x.nl = true → x.f4 = []
theorem kTo_mono {l : List Ft} {k : Int} {n m : Nat} (h : n ≤ m) : kTo l k n ≤ kTo l k m := by
  induction m with
  | zero => obtain rfl : n = 0 := by omega
            exact Int.le_refl _
  | succ m ih =>
    rcases Nat.lt_or_ge m n with h1 | h1
    · obtain rfl : n = m + 1 := by omega
      exact Int.le_refl _
    · have := ih h1
      have h2 : kTo l k (m + 1) = kTo l k m + 4 + 2 * ((l.getD m ftD).f4.length : Nat) := rfl
      omega
theorem f14 (l : List Ft) (nl : Bool) (k : Int) (hnl : nl = true → l = []) (hx : ∀ x ∈ l, x.nlok) (hk0 : 0 ≤ k) (hl : l.length ≤ 1000000000) (hk : kTo l k l.length ≤ 1000000000) :
    FnM Try.prog 14 [.lst 5 nl (l.map ft), i k] (i (kTo l k l.length)) (.lst 5 nl ((upTo (mkFtAt l k) l.length).map ft)) := by
  obtain ⟨b, hb⟩ : ∃ b : List (List PV), l.map ft = b := ⟨_, rfl⟩
  have hbl : b.length = l.length := by rw [← hb]; simp
  obtain ⟨a, ha⟩ : ∃ a, (upTo (mkFtAt l k) l.length).map ft = a := ⟨_, rfl⟩
  have hal : a.length = b.length := by rw [← ha, List.length_map, upTo_length, hbl]
  rw [ha, hb]
  refine FnM.by_sx hX (by kernel_rfl) c14 rfl rfl ?_
  simp [i14, sxa, sxb, sxc, Ex.ok, Ex.val, ← wr_eq]
  refine sx_count l.length (fun n V => V 0 = .lst 5 nl (mix a b n) ∧ V 5 = i n ∧ V 1 = i (kTo l k n)) 0 (by omega) (by simp [sxa, sxb, sxc, Ex.ok, Ex.val, ← wr_eq, mix_zero, kTo]) ?_
  rintro n V hn ⟨h0, h5, h1⟩
  have hml := mix_len (n := n) hal
  rw [hbl] at hml
  simp [sxa, sxb, sxc, Ex.ok, Ex.val, ← wr_eq, h0, h5]
  refine CondS_d (fun hlt => ?_) (fun hge => ?_)
  · have hlt' : n < l.length := by omega
    have hnb : n < b.length := by omega
    have hf : nl = false := by cases nl with | false => rfl | true => rw [hnl rfl] at hlt'; simp at hlt'
    subst hf
    have hm1 := kTo_mono (l := l) (k := k) (n := 0) (m := n) (by omega)
    have hm2 := kTo_mono (l := l) (k := k) (n := n + 1) (m := l.length) (by omega)
    have hks : kTo l k (n + 1) = kTo l k n + 4 + 2 * (l[n].f4.length : Nat) := by simp [kTo, hlt']
    have hm1 : k ≤ kTo l k n := hm1
    have hmk : ft (mkFtAt l k n) = [i (kTo l k n), i (kTo l k n + 1), i (kTo l k n + 2), .str (mt (kTo l k n + 3)), .lst 2 l[n].nl ((upTo (mkPt (kTo l k n + 4)) l[n].f4.length).map cp)] := by unfold mkFtAt mkFt ft; simp [hlt']
    obtain ⟨x, hxe⟩ : ∃ x, l[n] = x := ⟨_, rfl⟩
    have hxo := hx l[n] (List.getElem_mem ..)
    have hat : (mix a b n)[n]? = some [i x.f0, i x.f1, i x.f2, .str x.f3, .lst 2 x.nl (x.f4.map cp)] := by rw [mix_at hal hnb]; subst hb; simp [ft, hxe]
    rw [hxe] at hks hmk hxo
    obtain ⟨q, hq⟩ : ∃ q, kTo l k n = q := ⟨_, rfl⟩
    rw [hq] at hks hmk h1 hm1
    have hst : (mix a b n).set n [i q, i (q + 1), i (q + 2), .str (mt (q + 3)), .lst 2 x.nl ((upTo (mkPt (q + 4)) x.f4.length).map cp)] = mix a b (n + 1) := mix_set hal hnb (by rw [← ha, List.getElem?_map, upTo_get hlt', Option.map_some, hmk])
    obtain ⟨hlm, hat'⟩ := get_of hat
    have hw : wr .i64 ((n : Int) + 1) = n + 1 := wr_in (by omega) (by omega)
    have w1 : wr .i64 (q + 1) = q + 1 := wr_in (by omega) (by omega)
    have w2 : wr .i64 (q + 1 + 1) = q + 2 := by rw [wr_in (by omega) (by omega)]; omega
    have w3 : wr .i64 (q + 2 + 1) = q + 3 := by rw [wr_in (by omega) (by omega)]; omega
    have w4 : wr .i64 (q + 3 + 1) = q + 4 := by rw [wr_in (by omega) (by omega)]; omega
    have c1 := f32 (q + 3) (by omega)
    have c2 := f15 x.f4 x.nl (q + 4) hxo (by omega) (by omega)
    have hks' : q + 4 + 2 * (x.f4.length : Int) = kTo l k (n + 1) := hks.symm
    clear hks hmk ha hb hq
    rw [hks'] at c2
    repeat' (first | intro _ | (simp [sxa, sxb, sxc, Ex.ok, Ex.val, ← wr_eq, cp, *]) | refine CallS_i (c1) ?_ | refine CallS_i (c2) ?_ | refine CallE_i (c1) ?_ | refine CallE_i (c2) ?_ | refine CondS_d ?_ ?_ | refine CondS_b ?_ ?_ | refine GrdS_d ?_ ?_ | refine GrdS_b ?_ ?_ | refine OkS_i (by omega) ?_ | fail)
  · have : n = l.length := by omega
    subst this
    have hfu := mix_full hal
    rw [hbl] at hfu
    repeat' (first | intro _ | (simp [sxa, sxb, sxc, Ex.ok, Ex.val, ← wr_eq, *]) | refine CondS_d ?_ ?_ | refine CondS_b ?_ ?_ | refine GrdS_d ?_ ?_ | refine GrdS_b ?_ ?_ | refine OkS_i (by omega) ?_ | fail)
theorem kTo_le (l : List Ft) : ∀ n : Nat, n ≤ l.length → ∀ k : Int, kTo l k n ≤ k + 4 * n + 2 * (wtToF l n : Nat)
  | 0, _, k => by simp [kTo]; omega
  | n + 1, hn, k => by
    have h1 := kTo_le l n (by omega) k
    have h2 := wtToF_succ (l := l) (n := n) (by omega)
    have h3 : wtF l[n] = l[n].f3.size + l[n].f4.length := rfl
    have h4 : kTo l k (n + 1) = kTo l k n + 4 + 2 * (l[n].f4.length : Nat) := by simp [kTo, show n < l.length by omega]
    omega
end Go.Eng
namespace Go.Eng
open Go Go.Proofs Geo
set_option linter.unusedSimpArgs false
set_option linter.unusedVariables false
set_option maxRecDepth 20000
set_option maxHeartbeats 1000000

/-! marks that are read again. WRITES -/
theorem f16 (N : Nat) (nl : Bool) (k : Int) (hk0 : 0 ≤ k) (hk : k + 2 * N ≤ 1000000000000) :
    Fn Try.prog 16 false [.lst 2 nl ((upTo (mkPt k) N).map cp), i k] (i (k + 2 * N)) := by
  obtain ⟨a, ha⟩ : ∃ a, (upTo (mkPt k) N).map cp = a := ⟨_, rfl⟩
  have hal : a.length = N := by rw [← ha, List.length_map, upTo_length]
  rw [ha]
  refine Fn.by_sx hX (by kernel_rfl) c16 (by kernel_rfl) (by rfl) ?_
  simp [i16, sxa, sxb, sxc, Ex.ok, Ex.val, ← wr_eq]
  refine sx_count N (fun n V => V 0 = .lst 2 nl a ∧ V 5 = i n ∧ V 1 = i (k + 2 * n)) 0 (by omega) (by simp [sxa, sxb, sxc, Ex.ok, Ex.val, ← wr_eq]) ?_
  rintro n V hn ⟨h0, h5, h1⟩
  simp [sxa, sxb, sxc, Ex.ok, Ex.val, ← wr_eq, h0, h5]
  refine CondS_d (fun hlt => ?_) (fun hge => ?_)
  · have hlt' : n < N := by omega
    have hw : wr .i64 ((n : Int) + 1) = n + 1 := wr_in (by omega) (by omega)
    have hw2 : wr .i64 (k + 2 * n + 1) = k + 2 * n + 1 := wr_in (by omega) (by omega)
    have hw3 : wr .i64 (k + 2 * n + 1 + 1) = k + 2 * (n + 1) := by rw [wr_in (by omega) (by omega)]; omega
    have hat : a[n]? = some [i (k + 2 * n), i (k + 2 * n + 1)] := by rw [← ha, List.getElem?_map, upTo_get hlt']; rfl
    obtain ⟨hlm, hat'⟩ := get_of hat
    repeat' (first | intro _ | (simp [sxa, sxb, sxc, Ex.ok, Ex.val, ← wr_eq, *]) | refine CondS_d ?_ ?_ | refine CondS_b ?_ ?_ | refine GrdS_d ?_ ?_ | refine GrdS_b ?_ ?_ | refine OkS_i (by omega) ?_ | fail)
  · have : n = N := by omega
    subst this
    repeat' (first | intro _ | (simp [sxa, sxb, sxc, Ex.ok, Ex.val, ← wr_eq, *]) | refine CondS_d ?_ ?_ | refine CondS_b ?_ ?_ | refine GrdS_d ?_ ?_ | refine GrdS_b ?_ ?_ | refine OkS_i (by omega) ?_ | fail)
end Go.Eng
namespace Go.Eng
open Go Go.Proofs Geo
set_option linter.unusedSimpArgs false
set_option linter.unusedVariables false
set_option maxRecDepth 100000
set_option maxHeartbeats 1000000

/-! structs are marked: what lies behind them. WRITES -/
end Go.Eng
namespace Go.Eng
open Go Go.Proofs Geo
set_option linter.unusedSimpArgs false
set_option linter.unusedVariables false
set_option maxRecDepth 20000
set_option maxHeartbeats 1000000

/-! the least lengths of ways: plain -/
abbrev Ey := Int × Int × Int
def kE (e : Ey) : Int × Int := (e.1, e.2.1)
def kP (p : Pt) : Int × Int := (p.f0, p.f1)
theorem lookE_none {x y : Int} : ∀ {m : List Ey}, lookE x y m = none → ∀ e ∈ m, kE e ≠ (x, y)
  | [], _, e, he => by cases he
  | f :: r, h, e, he => by
    unfold lookE at h
    split at h
    · cases h
    · rename_i hc
      rcases List.mem_cons.1 he with rfl | he
      · intro hk; apply hc; simp only [kE, Prod.mk.injEq] at hk; exact hk
      · exact lookE_none h e he
theorem lookE_some {x y n : Int} : ∀ {m : List Ey}, lookE x y m = some n → ∃ A B, m = A ++ (x, y, n) :: B ∧ (∀ e ∈ A, kE e ≠ (x, y)) ∧ ∀ k, putE x y k m = A ++ (x, y, k) :: B
  | [], h => by cases h
  | f :: r, h => by
    unfold lookE at h
    split at h
    · rename_i hc
      refine ⟨[], r, ?_, by simp, fun k => by simp [putE, hc]⟩
      simp only [Option.some.injEq] at h
      obtain ⟨a, b, c⟩ := f
      simp only at hc h
      simp [hc.1, hc.2, h]
    · rename_i hc
      obtain ⟨A, B, h1, h2, h3⟩ := lookE_some h
      refine ⟨f :: A, B, by rw [h1]; rfl, fun e he => ?_, fun k => by simp [putE, hc, h3]⟩
      rcases List.mem_cons.1 he with rfl | he
      · intro hk; apply hc; simp only [kE, Prod.mk.injEq] at hk; exact hk
      · exact h2 e he
theorem putE_new {x y k : Int} : ∀ {m : List Ey}, lookE x y m = none → putE x y k m = m ++ [(x, y, k)]
  | [], _ => rfl
  | f :: r, h => by
    unfold lookE at h
    split at h
    · cases h
    · rename_i hc
      simp [putE, hc, putE_new h]
def upd1 (p q : Pt) (s : Int) (S : List Ey × Bool) : List Ey × Bool := match lookE p.f0 p.f1 S.1 with
  | none => S
  | some n => match lookE q.f0 q.f1 S.1 with
    | none => (putE q.f0 q.f1 (n + s) S.1, true)
    | some k => if n + s < k then (putE q.f0 q.f1 (n + s) S.1, true) else S
structure Iv (D : List (Int × Int)) (m : List Ey) : Prop where
  nd : (m.map kE).Nodup
  mem : ∀ e ∈ m, kE e ∈ D
  bd : ∀ e ∈ m, 0 ≤ e.2.2 ∧ e.2.2 ≤ 3600 * ((m.length : Int) - 1)
def sumE : List Ey → Int
  | [] => 0
  | e :: r => e.2.2 + sumE r
theorem sumE_app : ∀ (a b : List Ey), sumE (a ++ b) = sumE a + sumE b
  | [], b => by simp [sumE]
  | e :: a, b => by simp only [List.cons_append, sumE, sumE_app a b]; omega
theorem sumE_pos : ∀ {m : List Ey}, (∀ e ∈ m, 0 ≤ e.2.2) → 0 ≤ sumE m
  | [], _ => by simp [sumE]
  | e :: r, h => by
    have h1 := h e (by simp)
    have h2 := sumE_pos (m := r) fun f hf => h f (by simp [hf])
    simp only [sumE]; omega
def phi (m : List Ey) : Nat := (40 - m.length) * 200000 + (sumE m).toNat
theorem nodup_le {α : Type} [BEq α] [LawfulBEq α] : ∀ {a D : List α}, a.Nodup → (∀ x ∈ a, x ∈ D) → a.length ≤ D.length
  | [], D, _, _ => by simp
  | x :: a, D, hn, hm => by
    have hx : x ∈ D := hm x (by simp)
    obtain ⟨h1, h2⟩ := List.nodup_cons.1 hn
    have := nodup_le (a := a) (D := D.erase x) h2 (fun y hy => (List.mem_erase_of_ne (fun h => h1 (by rw [← h]; exact hy))).2 (hm y (by simp [hy])))
    rw [List.length_erase_of_mem hx] at this
    have hp : 0 < D.length := List.length_pos_of_mem hx
    simp only [List.length_cons]; omega
theorem Iv.len {D : List (Int × Int)} {m : List Ey} (h : Iv D m) (hD : D.length ≤ 33) : m.length ≤ 33 := by
  have := nodup_le h.nd (D := D) (fun x hx => by obtain ⟨e, he, rfl⟩ := List.mem_map.1 hx; exact h.mem e he)
  simp only [List.length_map] at this
  omega
theorem upd1_spec {D : List (Int × Int)} {m : List Ey} {p q : Pt} {s : Int} (hI : Iv D m) (hD : D.length ≤ 33) (hq : kP q ∈ D) (hs : 0 ≤ s ∧ s ≤ 3600) (c : Bool) :
    upd1 p q s (m, c) = (m, c) ∨ ∃ m', upd1 p q s (m, c) = (m', true) ∧ Iv D m' ∧ phi m' < phi m := by
  unfold upd1
  simp only
  split
  · exact .inl rfl
  · rename_i n hp
    obtain ⟨A, B, hm, _, _⟩ := lookE_some hp
    have hn := hI.bd (p.f0, p.f1, n) (by rw [hm]; simp)
    have hlen := hI.len hD
    simp only at hn
    split
    · rename_i hq0
      right
      have hnew := putE_new (k := n + s) hq0
      have hno := lookE_none hq0
      have hI' : Iv D (m ++ [(q.f0, q.f1, n + s)]) := by
        refine ⟨?_, fun e he => ?_, fun e he => ?_⟩
        · rw [List.map_append, List.nodup_append]
          refine ⟨hI.nd, by simp, ?_⟩
          intro a ha b hb
          obtain ⟨e, he, rfl⟩ := List.mem_map.1 ha
          simp only [List.map_cons, List.map_nil, List.mem_singleton] at hb
          rw [hb]; exact hno e he
        · rcases List.mem_append.1 he with he | he
          · exact hI.mem e he
          · simp only [List.mem_singleton] at he; rw [he]; exact hq
        · rw [List.length_append]
          simp only [List.length_cons, List.length_nil]
          rcases List.mem_append.1 he with he | he
          · have := hI.bd e he; omega
          · simp only [List.mem_singleton] at he; rw [he]; simp only; omega
      refine ⟨_, by rw [hnew], hI', ?_⟩
      have hlen' := hI'.len hD
      rw [List.length_append] at hlen'
      simp only [List.length_cons, List.length_nil] at hlen'
      have hsum : sumE (m ++ [(q.f0, q.f1, n + s)]) = sumE m + (n + s) := by rw [sumE_app]; simp [sumE]
      unfold phi
      rw [hsum, List.length_append]
      simp only [List.length_cons, List.length_nil]
      omega
    · rename_i k hq1
      obtain ⟨A', B', hm', hA', hput⟩ := lookE_some hq1
      split
      · rename_i hlt
        right
        rw [hput]
        have hk := hI.bd (q.f0, q.f1, k) (by rw [hm']; simp)
        simp only at hk
        have hlen2 : (A' ++ (q.f0, q.f1, n + s) :: B').length = m.length := by rw [hm']; simp
        refine ⟨_, rfl, ⟨?_, fun e he => ?_, fun e he => ?_⟩, ?_⟩
        · have := hI.nd
          rw [hm'] at this
          simpa [kE] using this
        · rcases List.mem_append.1 he with he | he
          · exact hI.mem e (by rw [hm']; simp [he])
          · rcases List.mem_cons.1 he with rfl | he
            · exact hq
            · exact hI.mem e (by rw [hm']; simp [he])
        · rw [hlen2]
          rcases List.mem_append.1 he with he | he
          · exact hI.bd e (by rw [hm']; simp [he])
          · rcases List.mem_cons.1 he with rfl | he
            · simp only; omega
            · exact hI.bd e (by rw [hm']; simp [he])
        · have e1 : sumE (A' ++ (q.f0, q.f1, n + s) :: B') = sumE A' + ((n + s) + sumE B') := by rw [sumE_app]; rfl
          have e2 : sumE m = sumE A' + (k + sumE B') := by rw [hm', sumE_app]; rfl
          have p1 : 0 ≤ sumE A' := sumE_pos fun e he => (hI.bd e (by rw [hm']; simp [he])).1
          have p2 : 0 ≤ sumE B' := sumE_pos fun e he => (hI.bd e (by rw [hm']; simp [he])).1
          unfold phi
          rw [hlen2, e1, e2]
          omega
      · exact .inl rfl
/-- a state within a pass -/
def GoodS (D : List (Int × Int)) (m0 : List Ey) (S : List Ey × Bool) : Prop := Iv D S.1 ∧ phi S.1 ≤ phi m0 ∧ (S.2 = true → phi S.1 < phi m0)
theorem GoodS.upd {D : List (Int × Int)} {m0 : List Ey} {S : List Ey × Bool} {p q : Pt} {s : Int} (h : GoodS D m0 S) (hD : D.length ≤ 33) (hq : kP q ∈ D) (hs : 0 ≤ s ∧ s ≤ 3600) : GoodS D m0 (upd1 p q s S) := by
  obtain ⟨m, c⟩ := S
  obtain ⟨h1, h2, h3⟩ := h
  rcases upd1_spec (p := p) h1 hD hq hs c with h | ⟨m', h, k1, k2⟩
  · rw [h]; exact ⟨h1, h2, h3⟩
  · rw [h]
    have h2' : phi m ≤ phi m0 := h2
    exact ⟨k1, Nat.le_of_lt (Nat.lt_of_lt_of_le k2 h2'), fun _ => Nat.lt_of_lt_of_le k2 h2'⟩
def isRd (x : Ft) (rank : Int) : Bool := decide (x.f1 = 2) && !decide (x.f2 < rank)
def halfR (x : Ft) (S : List Ey × Bool) : Nat → List Ey × Bool
  | 0 => S
  | 1 => upd1 (endA x) (endB x) (wSteps x.f4) S
  | _ => upd1 (endB x) (endA x) (wSteps x.f4) (upd1 (endA x) (endB x) (wSteps x.f4) S)
def updR (x : Ft) (rank : Int) (S : List Ey × Bool) : List Ey × Bool := if isRd x rank = true then halfR x S 2 else S
def passTo (l : List Ft) (rank : Int) (S : List Ey × Bool) : Nat → List Ey × Bool
  | 0 => S
  | n + 1 => updR (l.getD n ftD) rank (passTo l rank S n)
def dEnds (l : List Ft) (p : Pt) : List (Int × Int) := kP p :: l.flatMap fun x => [kP (endA x), kP (endB x)]
theorem dEnds_len {l : List Ft} (h : wSrc l = true) (p : Pt) : (dEnds l p).length ≤ 33 := by
  have h16 : l.length ≤ 16 := by unfold wSrc at h; simp at h; exact h.1
  have : ∀ l : List Ft, (l.flatMap fun x => [kP (endA x), kP (endB x)]).length = 2 * l.length := by
    intro l
    induction l with
    | nil => rfl
    | cons x r ih => simp only [List.flatMap_cons, List.length_append, ih, List.length_cons, List.length_nil]; omega
  unfold dEnds
  rw [List.length_cons, this]; omega
theorem dEnds_mem {l : List Ft} {p : Pt} {k : Nat} (hk : k < l.length) : kP (endA l[k]) ∈ dEnds l p ∧ kP (endB l[k]) ∈ dEnds l p := by
  unfold dEnds
  constructor <;>
    (refine List.mem_cons_of_mem _ (List.mem_flatMap.2 ⟨l[k], List.getElem_mem .., ?_⟩); simp)
theorem wLine_pt {l : List Pt} (h : wLine l = true) {k : Nat} (hk : k < l.length) : M_IsPoint (l.getD k ⟨0, 0⟩).f0 (l.getD k ⟨0, 0⟩).f1 = true := by
  unfold wLine at h
  rw [Bool.and_eq_true] at h
  have h2 := h.2
  unfold allTo at h2
  have := List.all_eq_true.1 h2 k (List.mem_range.2 hk)
  unfold okAt at this
  rw [Bool.and_eq_true] at this
  exact this.1
theorem wSteps_pos (l : List Pt) : 0 ≤ wSteps l := by
  have key : ∀ k, 0 ≤ sSt (wSegs l) k ∨ (wSegs l).length ≤ k := by
    intro k
    unfold wSegs
    split
    · rename_i hl
      have h2 := wLine_len hl
      rcases Nat.lt_or_ge k (l.length - 1) with hk | hk
      · left
        have e : sgD (upTo (sgAt l) (l.length - 1)) k = sgAt l k := by
          simp [sgD, upTo_get hk]
        unfold sSt
        rw [e]
        have p1 := wLine_pt hl (k := k) (by omega)
        have p2 := wLine_pt hl (k := k + 1) (by omega)
        unfold sgAt wSt
        simp only
        rw [if_pos ⟨p1, p2⟩]
        omega
      · right; rw [upTo_length]; exact hk
    · right; simp
  unfold wSteps
  have : ∀ n, n ≤ (wSegs l).length → 0 ≤ sumTo (sSt (wSegs l)) n := by
    intro n
    induction n with
    | zero => intro _; exact Int.le_refl _
    | succ n ih =>
      intro hn
      have h1 := ih (by omega)
      rcases key n with h2 | h2
      · rw [sumTo_succ]; omega
      · omega
  exact this _ (Nat.le_refl _)
theorem wSteps_in (l : List Pt) : 0 ≤ wSteps l ∧ wSteps l ≤ 3600 := ⟨wSteps_pos l, (wSteps_bound l).2⟩
theorem GoodS.half {l : List Ft} {p : Pt} {m0 : List Ey} {S : List Ey × Bool} (h : GoodS (dEnds l p) m0 S) (hs : wSrc l = true) {k : Nat} (hk : k < l.length) : ∀ n, GoodS (dEnds l p) m0 (halfR l[k] S n)
  | 0 => h
  | 1 => h.upd (dEnds_len hs p) (dEnds_mem hk).2 (wSteps_in _)
  | n + 2 => (h.upd (dEnds_len hs p) (dEnds_mem hk).2 (wSteps_in _)).upd (dEnds_len hs p) (dEnds_mem hk).1 (wSteps_in _)
theorem GoodS.updR {l : List Ft} {p : Pt} {m0 : List Ey} {S : List Ey × Bool} (h : GoodS (dEnds l p) m0 S) (hs : wSrc l = true) {k : Nat} (hk : k < l.length) (rank : Int) : GoodS (dEnds l p) m0 (Go.Eng.updR l[k] rank S) := by
  unfold Go.Eng.updR
  split
  · exact h.half hs hk 2
  · exact h
theorem passTo_good {l : List Ft} {p : Pt} {m0 : List Ey} (rank : Int) (hI : Iv (dEnds l p) m0) (hs : wSrc l = true) : ∀ n, n ≤ l.length → GoodS (dEnds l p) m0 (passTo l rank (m0, false) n)
  | 0, _ => ⟨hI, Nat.le_refl _, fun h => by cases h⟩
  | n + 1, hn => by
    have ih := passTo_good rank hI hs n (by omega)
    unfold passTo
    have hk : n < l.length := by omega
    have e : l.getD n ftD = l[n] := by simp [hk]
    rw [e]
    exact ih.updR hs hk rank
/-- passes, until nothing changes -/
def spread (l : List Ft) (rank : Int) : Nat → List Ey → List Ey
  | 0, m => m
  | k + 1, m => if (passTo l rank (m, false) l.length).2 = true then spread l rank k (passTo l rank (m, false) l.length).1 else (passTo l rank (m, false) l.length).1
def stE (p : Pt) : List Ey := [(p.f0, p.f1, 0)]
def farN : Nat := 8000001
def far (l : List Ft) (p : Pt) (rank : Int) : List Ey := spread l rank farN (stE p)
theorem stE_iv (l : List Ft) (p : Pt) : Iv (dEnds l p) (stE p) := by
  refine ⟨by simp [stE], fun e he => ?_, fun e he => ?_⟩
  · simp only [stE, List.mem_singleton] at he; rw [he]; simp [dEnds, kE, kP]
  · simp only [stE, List.mem_singleton] at he; rw [he]; simp [stE]
theorem stE_phi (p : Pt) : phi (stE p) < farN := by simp [phi, stE, sumE, farN]
theorem spread_step {l : List Ft} {rank : Int} {N n : Nat} {m : List Ey} (h : n < N) : spread l rank (N - n) m = if (passTo l rank (m, false) l.length).2 = true then spread l rank (N - (n + 1)) (passTo l rank (m, false) l.length).1 else (passTo l rank (m, false) l.length).1 := by
  rw [show N - n = (N - (n + 1)) + 1 by omega]; rfl
end Go.Eng
namespace Go.Eng
open Go Go.Proofs Geo
set_option linter.unusedSimpArgs false
set_option linter.unusedVariables false
set_option maxRecDepth 20000
set_option maxHeartbeats 1000000

/-! the least lengths of ways: the model's walk -/
def pcE (m : List Ey) : List (List PV) := m.map fun e => [i e.1, i e.2.1]
def dcE (m : List Ey) : List (List PV) := m.map fun e => [i e.2.2]
theorem pcE_len (m : List Ey) : (pcE m).length = m.length := by simp [pcE]
theorem dcE_len (m : List Ey) : (dcE m).length = m.length := by simp [dcE]
theorem get_ofE {α : Type} {l : List α} {j : Nat} {v : α} (h : l[j]? = some v) : ∀ h' : j < l.length, l[j]'h' = v := fun h' => by
  rw [List.getElem?_eq_getElem h'] at h; exact Option.some.inj h
def ixF (q : Pt) : List Ey → Nat → Int
  | [], _ => -1
  | e :: r, k => if e.1 = q.f0 ∧ e.2.1 = q.f1 then k else ixF q r (k + 1)
def ixE (q : Pt) (m : List Ey) : Int := ixF q m 0
theorem ixF_none {q : Pt} : ∀ {m : List Ey} {k : Nat}, lookE q.f0 q.f1 m = none → ixF q m k = -1
  | [], _, _ => rfl
  | e :: r, k, h => by
    unfold lookE at h
    split at h
    · cases h
    · rename_i hc; unfold ixF; rw [if_neg hc]; exact ixF_none h
theorem ixF_some {q : Pt} {n : Int} : ∀ {m : List Ey} {k : Nat}, lookE q.f0 q.f1 m = some n → ∃ j, j < m.length ∧ ixF q m k = ((k + j : Nat) : Int) ∧ m[j]? = some (q.f0, q.f1, n) ∧ ∀ v, putE q.f0 q.f1 v m = m.set j (q.f0, q.f1, v)
  | [], _, h => by cases h
  | e :: r, k, h => by
    unfold lookE at h
    split at h
    · rename_i hc
      simp only [Option.some.injEq] at h
      refine ⟨0, by simp, by unfold ixF; rw [if_pos hc]; simp, ?_, fun v => by simp [putE, hc]⟩
      simp [← hc.1, ← hc.2, ← h]
    · rename_i hc
      obtain ⟨j, h1, h2, h3, h4⟩ := ixF_some (k := k + 1) h
      refine ⟨j + 1, by simp; omega, by unfold ixF; rw [if_neg hc, h2]; congr 1; omega, by simpa using h3, fun v => by simp [putE, hc, h4]⟩
theorem ixE_none {q : Pt} {m : List Ey} (h : lookE q.f0 q.f1 m = none) : ixE q m = -1 := ixF_none h
theorem ixE_some {q : Pt} {m : List Ey} {n : Int} (h : lookE q.f0 q.f1 m = some n) : ∃ j : Nat, j < m.length ∧ ixE q m = (j : Int) ∧ (dcE m)[j]? = some [i n] ∧ ∀ v, dcE (putE q.f0 q.f1 v m) = (dcE m).set j [i v] ∧ pcE (putE q.f0 q.f1 v m) = pcE m := by
  obtain ⟨j, h1, h2, h3, h4⟩ := ixF_some (k := 0) h
  refine ⟨j, h1, by unfold ixE; rw [h2]; simp, by simp [dcE, h3], fun v => ⟨by rw [h4]; simp [dcE, List.map_set], ?_⟩⟩
  rw [h4]
  unfold pcE
  apply List.ext_getElem?
  intro k
  simp only [List.getElem?_map, List.getElem?_set]
  by_cases hk : j = k
  · subst hk
    rw [if_pos rfl, if_pos h1, h3]; rfl
  · rw [if_neg hk]
theorem f21 (m : List Ey) (q : Pt) (nl : Bool) (hm : m.length ≤ 1000000000000) : Fn Try.prog 21 false [.lst 2 nl (pcE m), .agg (cp q)] (i (ixE q m)) := by
  unfold cp
  refine Fn.by_sx hX (by kernel_rfl) c21 (by kernel_rfl) (by rfl) ?_
  simp [i21, sxa, sxb, sxc, Ex.ok, Ex.val, ← wr_eq]
  refine sx_count m.length (fun n V => V 0 = .lst 2 nl (pcE m) ∧ V 3 = .ptr [i q.f0, i q.f1] ∧ V 5 = i n ∧ ixE q m = ixF q (m.drop n) n) 0 (by omega) (by simp [sxa, sxb, sxc, Ex.ok, Ex.val, ← wr_eq, ixE]) ?_
  rintro n V hn ⟨h0, h3, h5, hf⟩
  have hw : wr .i64 ((n : Int) + 1) = n + 1 := wr_in (by omega) (by omega)
  have hpl := pcE_len m
  simp [sxa, sxb, sxc, Ex.ok, Ex.val, ← wr_eq, h0, h5]
  refine CondS_d (fun hlt => ?_) (fun hge => ?_)
  · have hlt' : n < m.length := by omega
    rw [List.drop_eq_getElem_cons hlt'] at hf
    unfold ixF at hf
    have hg : ∀ h : n < (pcE m).length, (pcE m)[n]'h = [i m[n].1, i m[n].2.1] := fun h => by simp [pcE]
    by_cases he : m[n].1 = q.f0 ∧ m[n].2.1 = q.f1
    · rw [if_pos he] at hf
      obtain ⟨e1, e2⟩ := he
      repeat' (first | intro _ | (simp [sxa, sxb, sxc, Ex.ok, Ex.val, ← wr_eq, cp, *]) | refine CondS_d ?_ ?_ | refine CondS_b ?_ ?_ | refine GrdS_d ?_ ?_ | refine GrdS_b ?_ ?_ | refine OkS_i (by omega) ?_ | fail)
    · rw [if_neg he] at hf
      have he' : (decide (m[n].1 = q.f0) && decide (m[n].2.1 = q.f1)) = false := by
        cases hd : (decide (m[n].1 = q.f0) && decide (m[n].2.1 = q.f1)) with
        | false => rfl
        | true => simp at hd; exact absurd hd he
      repeat' (first | intro _ | (simp [sxa, sxb, sxc, Ex.ok, Ex.val, ← wr_eq, cp, *]) | refine CondS_d ?_ ?_ | refine CondS_b ?_ ?_ | refine GrdS_d ?_ ?_ | refine GrdS_b ?_ ?_ | refine OkS_i (by omega) ?_ | fail)
  · have : n = m.length := by omega
    subst this
    rw [List.drop_length] at hf
    replace hf : ixE q m = -1 := hf
    repeat' (first | intro _ | (simp [sxa, sxb, sxc, Ex.ok, Ex.val, ← wr_eq, *]) | refine CondS_d ?_ ?_ | refine CondS_b ?_ ?_ | refine GrdS_d ?_ ?_ | refine GrdS_b ?_ ?_ | refine OkS_i (by omega) ?_ | fail)
end Go.Eng
namespace Go.Eng
open Go Go.Proofs Geo
set_option linter.unusedSimpArgs false
set_option linter.unusedVariables false
set_option maxRecDepth 20000
set_option maxHeartbeats 2000000

/-! the spread, walked -/
def smE (S : List Ey × Bool) : Prop := S.1.length ≤ 33 ∧ ∀ e ∈ S.1, 0 ≤ e.2.2 ∧ e.2.2 ≤ 120000
theorem GoodS.small {l : List Ft} {p : Pt} {m0 : List Ey} {S : List Ey × Bool} (h : GoodS (dEnds l p) m0 S) (hs : wSrc l = true) : smE S := by
  have := h.1.len (dEnds_len hs p)
  refine ⟨this, fun e he => ?_⟩
  have := h.1.bd e he
  omega
theorem smE.look {S : List Ey × Bool} (h : smE S) {x y n : Int} (hl : lookE x y S.1 = some n) : 0 ≤ n ∧ n ≤ 120000 := by
  obtain ⟨A, B, h1, _⟩ := lookE_some hl
  exact h.2 (x, y, n) (by rw [h1]; simp)
theorem l20_4 {x : Ft} {A B : Pt} {sl : Int} {S : List Ey × Bool} {V : Env} (hA : endA x = A) (hB : endB x = B) (hsx : wSteps x.f4 = sl) (h10 : x.f4.length ≤ 10) (hsm : ∀ n, smE (halfR x S n)) (v8 : V 8 = .lst 2 false (pcE S.1)) (v9 : V 9 = .lst 1 false (dcE S.1)) (v10 : V 10 = .bool S.2) (v12 : V 12 = .ptr (ft x)) (v13 : V 13 = .lst 2 false [cp A, cp B]) (v14 : V 14 = i 0) :
    sx (FC Try.prog) (.loop (.seq (.seq (.ops [s 54 (.mv (t 14)),
  s 55 (.bin .lss (t 54) (c (i 2)))])
 (.cond (t 55) .skip (.exit 4)))
 (.seq (.block 5 (.seq (.ops [s 58 (.mv (t 8)),
  s 59 (.mv (t 13)),
  s 60 (.mv (t 14)),
  s 61 (.idx (t 59) (t 60) 2),
  s 62 (.ldE 59 61 0 2 true true 2),
  k 63 21 [(t 58), (t 62)] .sc,
  s 15 (.mv (t 63))])
 (.seq (.ops [s 64 (.mv (t 8)),
  s 65 (.mv (t 13)),
  s 66 (.mv (t 14)),
  s 67 (.bin .sub (c (i 1)) (t 66)),
  s 68 (.idx (t 65) (t 67) 2),
  s 69 (.ldE 65 68 0 2 true true 2),
  k 70 21 [(t 64), (t 69)] .sc,
  s 16 (.mv (t 70))])
 (.seq (.seq (.ops [s 71 (.mv (t 15)),
  s 72 (.bin .lss (t 71) (c (i 0)))])
 (.cond (t 72) (.exit 5) .skip))
 (.seq (.ops [s 73 (.mv (t 9)),
  s 74 (.mv (t 15)),
  s 75 (.idx (t 73) (t 74) 1),
  s 76 (.ldE 73 75 0 1 false true 1),
  s 77 (.mv (c (i 0))),
  s 78 (.ldB 12 4 1 false false),
  k 79 36 [(t 78)] .sc,
  s 80 (.bin .add (t 76) (t 79)),
  s 17 (.mv (t 80))])
 (.seq (.ops [s 81 (.mv (t 16)),
  s 82 (.bin .lss (t 81) (c (i 0)))])
 (.cond (t 82) (.seq (.ops [s 83 (.mv (t 8)),
  s 84 (.mv (t 13)),
  s 85 (.mv (t 14)),
  s 86 (.bin .sub (c (i 1)) (t 85)),
  s 87 (.idx (t 84) (t 86) 2),
  s 88 (.ldE 84 87 0 2 true true 2),
  s 89 (.bsl 2 [(t 88)]),
  s 90 (.app (t 83) (t 89) 2 16),
  s 8 (.mv (t 90))])
 (.seq (.ops [s 91 (.mv (t 9)),
  s 92 (.mv (t 17)),
  s 93 (.bsl 1 [(t 92)]),
  s 94 (.app (t 91) (t 93) 1 8),
  s 9 (.mv (t 94))])
 (.ops [s 10 (.mv (c (.bool true)))]))) (.seq (.ops [s 95 (.mv (t 17)),
  s 96 (.mv (t 9)),
  s 97 (.mv (t 16)),
  s 98 (.idx (t 96) (t 97) 1),
  s 99 (.ldE 96 98 0 1 false true 1),
  s 100 (.bin .lss (t 95) (t 99))])
 (.cond (t 100) (.seq (.seq (.ops [s 101 (.mv (t 9)),
  s 102 (.mv (t 16)),
  s 103 (.mv (t 17)),
  s 104 (.idx (t 101) (t 102) 1)])
 (.seq (opW 9 104 0 1 1 (t 103))
 (.ops [])))
 (.ops [s 10 (.mv (c (.bool true)))])) .skip)))))))))
 (.ops [s 56 (.mv (t 14)),
  s 57 (.bin .add (t 56) (c (i 1))),
  s 14 (.mv (t 57))])))) (fun e V' => e = .exit 4 ∧ V' 0 = V 0 ∧ V' 2 = V 2 ∧ V' 11 = V 11 ∧ V' 8 = .lst 2 false (pcE (halfR x S 2).1) ∧ V' 9 = .lst 1 false (dcE (halfR x S 2).1) ∧ V' 10 = .bool (halfR x S 2).2) V := by
  refine sx_count 2 (fun h V' => V' 0 = V 0 ∧ V' 2 = V 2 ∧ V' 11 = V 11 ∧ V' 12 = V 12 ∧ V' 13 = V 13 ∧ V' 14 = i h ∧ V' 8 = .lst 2 false (pcE (halfR x S h).1) ∧ V' 9 = .lst 1 false (dcE (halfR x S h).1) ∧ V' 10 = .bool (halfR x S h).2) 0 (by omega) ⟨rfl, rfl, rfl, rfl, rfl, v14, v8, v9, v10⟩ ?_
  rintro h V' hh ⟨g0, g2, g11, g12, g13, g14, g8, g9, g10⟩
  rw [v12] at g12
  rw [v13] at g13
  have hs := hsm h
  have key : h < 2 → ∃ P Q, halfR x S (h + 1) = upd1 P Q sl (halfR x S h) ∧ ((h = 0 ∧ P = A ∧ Q = B) ∨ (h = 1 ∧ P = B ∧ Q = A)) := by
    intro hlt
    rcases (show h = 0 ∨ h = 1 by omega) with rfl | rfl
    · exact ⟨A, B, by rw [← hA, ← hB, ← hsx]; rfl, .inl ⟨rfl, rfl, rfl⟩⟩
    · exact ⟨B, A, by rw [← hA, ← hB, ← hsx]; rfl, .inr ⟨rfl, rfl, rfl⟩⟩
  simp [sxa, sxb, sxc, Ex.ok, Ex.val, ← wr_eq, g14]
  refine CondS_d (fun hlt => ?_) (fun hge => ?_)
  · obtain ⟨P, Q, hst, hcase⟩ := key (by omega)
    have hsb := wSteps_in x.f4
    rw [hsx] at hsb
    obtain ⟨m, hm⟩ : ∃ m, (halfR x S h).1 = m := ⟨_, rfl⟩
    obtain ⟨cc, hc⟩ : ∃ cc, (halfR x S h).2 = cc := ⟨_, rfl⟩
    have hmc : halfR x S h = (m, cc) := by rw [← hm, ← hc]
    rw [hm] at g8 g9
    rw [hc] at g10
    rw [hmc] at hs hst
    have hl33 : m.length ≤ 33 := hs.1
    have c1 := f21 m P false (by omega)
    have c2 := f21 m Q false (by omega)
    have cst := f36 x.f4 x.nl (by omega)
    rw [hsx] at cst
    have hdl := dcE_len m
    have hpl := pcE_len m
    have hw1 : wr .i64 ((h : Int) + 1) = ((h + 1 : Nat) : Int) := wr_in (by omega) (by omega)
    have hwa : wr .i64 (2 : Int) = 2 := wr_in (by omega) (by omega)
    have hwb : wr .i64 (1 : Int) = 1 := wr_in (by omega) (by omega)
    have hwc : wr .i64 (0 : Int) = 0 := wr_in (by omega) (by omega)
    unfold ft at g12 v12
    unfold upd1 at hst
    simp only at hst
    cases hp : lookE P.f0 P.f1 m with
    | none =>
      rw [ixE_none hp] at c1
      rw [hp] at hst
      simp only at hst
      clear hp hmc hm hc key
      cases hq : lookE Q.f0 Q.f1 m with
      | none =>
        rw [ixE_none hq] at c2
        rcases hcase with ⟨rfl, rfl, rfl⟩ | ⟨rfl, rfl, rfl⟩ <;> unfold cp at * <;> (repeat' (first | intro _ | (simp [sxa, sxb, sxc, Ex.ok, Ex.val, ← wr_eq, *]) | refine CallS_i (c1) ?_ | refine CallS_i (c2) ?_ | refine CallS_i (cst) ?_ | refine CondS_d ?_ ?_ | refine CondS_b ?_ ?_ | refine GrdS_d ?_ ?_ | refine GrdS_b ?_ ?_ | refine OkS_i (by omega) ?_ | fail))
        all_goals omega
      | some k =>
        obtain ⟨j, j1, j2, j3, j4⟩ := ixE_some hq
        rw [j2] at c2
        rcases hcase with ⟨rfl, rfl, rfl⟩ | ⟨rfl, rfl, rfl⟩ <;> unfold cp at * <;> (repeat' (first | intro _ | (simp [sxa, sxb, sxc, Ex.ok, Ex.val, ← wr_eq, *]) | refine CallS_i (c1) ?_ | refine CallS_i (c2) ?_ | refine CallS_i (cst) ?_ | refine CondS_d ?_ ?_ | refine CondS_b ?_ ?_ | refine GrdS_d ?_ ?_ | refine GrdS_b ?_ ?_ | refine OkS_i (by omega) ?_ | fail))
        all_goals omega
    | some n =>
      obtain ⟨ja, ja1, ja2, ja3, _⟩ := ixE_some hp
      rw [ja2] at c1
      have ja4 := get_ofE ja3
      have hn := hs.look (x := P.f0) (y := P.f1) hp
      have hws : wr .i64 (n + sl) = n + sl := wr_in (by omega) (by omega)
      rw [hp] at hst
      simp only at hst
      cases hq : lookE Q.f0 Q.f1 m with
      | none =>
        rw [ixE_none hq] at c2
        rw [hq] at hst
        simp only at hst
        rw [putE_new hq] at hst
        have e1 : pcE (m ++ [(Q.f0, Q.f1, n + sl)]) = pcE m ++ [[i Q.f0, i Q.f1]] := by simp [pcE]
        have e2 : dcE (m ++ [(Q.f0, Q.f1, n + sl)]) = dcE m ++ [[i (n + sl)]] := by simp [dcE]
        clear hp hq hmc hm hc key
        rcases hcase with ⟨rfl, rfl, rfl⟩ | ⟨rfl, rfl, rfl⟩ <;> unfold cp at * <;> (repeat' (first | intro _ | (simp [sxa, sxb, sxc, Ex.ok, Ex.val, ← wr_eq, *]) | refine CallS_i (c1) ?_ | refine CallS_i (c2) ?_ | refine CallS_i (cst) ?_ | refine CondS_d ?_ ?_ | refine CondS_b ?_ ?_ | refine GrdS_d ?_ ?_ | refine GrdS_b ?_ ?_ | refine OkS_i (by omega) ?_ | fail))
        all_goals omega
      | some k =>
        obtain ⟨j, j1, j2, j3, j4⟩ := ixE_some hq
        have j5 := get_ofE j3
        rw [j2] at c2
        rw [hq] at hst
        simp only at hst
        by_cases hlt2 : n + sl < k
        · rw [if_pos hlt2] at hst
          have e1 := (j4 (n + sl)).2
          have e2 := (j4 (n + sl)).1
          clear hp hq hmc hm hc key j4
          rcases hcase with ⟨rfl, rfl, rfl⟩ | ⟨rfl, rfl, rfl⟩ <;> unfold cp at * <;> (repeat' (first | intro _ | (simp [sxa, sxb, sxc, Ex.ok, Ex.val, ← wr_eq, *]) | refine CallS_i (c1) ?_ | refine CallS_i (c2) ?_ | refine CallS_i (cst) ?_ | refine CondS_d ?_ ?_ | refine CondS_b ?_ ?_ | refine GrdS_d ?_ ?_ | refine GrdS_b ?_ ?_ | refine OkS_i (by omega) ?_ | fail))
          all_goals omega
        · rw [if_neg hlt2] at hst
          clear hp hq hmc hm hc key j4
          rcases hcase with ⟨rfl, rfl, rfl⟩ | ⟨rfl, rfl, rfl⟩ <;> unfold cp at * <;> (repeat' (first | intro _ | (simp [sxa, sxb, sxc, Ex.ok, Ex.val, ← wr_eq, *]) | refine CallS_i (c1) ?_ | refine CallS_i (c2) ?_ | refine CallS_i (cst) ?_ | refine CondS_d ?_ ?_ | refine CondS_b ?_ ?_ | refine GrdS_d ?_ ?_ | refine GrdS_b ?_ ?_ | refine OkS_i (by omega) ?_ | fail))
          all_goals omega
  · have : h = 2 := by omega
    subst this
    repeat' (first | intro _ | (simp [sxa, sxb, sxc, Ex.ok, Ex.val, ← wr_eq, *]) | refine CondS_d ?_ ?_ | refine CondS_b ?_ ?_ | refine GrdS_d ?_ ?_ | refine GrdS_b ?_ ?_ | refine OkS_i (by omega) ?_ | fail)

theorem isRd_iff {x : Ft} {rank : Int} : isRd x rank = true ↔ x.f1 = 2 ∧ ¬ x.f2 < rank := by simp [isRd]
theorem l20_2 {l : List Ft} {nl : Bool} {rank : Int} {p : Pt} {m : List Ey} {V : Env} (hsrc : wSrc l = true) (hl : l.length ≤ 1000000000000) (hI : Iv (dEnds l p) m) (v0 : V 0 = .lst 5 nl (l.map ft)) (v2 : V 2 = i rank) (v8 : V 8 = .lst 2 false (pcE m)) (v9 : V 9 = .lst 1 false (dcE m)) (v10 : V 10 = .bool false) (v11 : V 11 = i 0) :
    sx (FC Try.prog) (.loop (.seq (.seq (.ops [s 22 (.mv (t 11)),
  s 23 (.mv (t 0)),
  s 24 (.len false (t 23)),
  s 25 (.bin .lss (t 22) (t 24))])
 (.cond (t 25) .skip (.exit 2)))
 (.seq (.block 3 (.seq (.ops [s 28 (.mv (t 0)),
  s 29 (.mv (t 11)),
  s 30 (.idx (t 28) (t 29) 5),
  s 31 (.ldE 28 30 0 5 true false 5),
  s 12 (.alc [(i 0), (i 0), (i 0), (.str (bs [])), (.lst 2 true [])]),
  s 12 (.stB 12 0 5 (t 31) true)])
 (.seq (.seq (.ops [s 32 (.mv (c (i 0))),
  s 33 (.ldB 12 1 1 false true),
  s 34 (.bin .neq (t 33) (c (i 2))),
  s 35 (.mv (t 34)),
  sg [(35, false)] 36 (.mv (c (i 0))),
  sg [(35, false)] 37 (.ldB 12 2 1 false true),
  sg [(35, false)] 38 (.mv (t 2)),
  sg [(35, false)] 39 (.bin .lss (t 37) (t 38)),
  s 40 (.pick (t 35) (c (.bool true)) (t 39))])
 (.cond (t 40) (.exit 3) .skip))
 (.seq (.ops [s 41 (.mv (c (i 0))),
  s 42 (.ldB 12 4 1 false false),
  s 43 (.idx (t 42) (c (i 0)) 2),
  s 44 (.ldE 42 43 0 2 true true 2),
  s 45 (.mv (c (i 0))),
  s 46 (.ldB 12 4 1 false false),
  s 47 (.mv (c (i 0))),
  s 48 (.ldB 12 4 1 false false),
  s 49 (.len false (t 48)),
  s 50 (.bin .sub (t 49) (c (i 1))),
  s 51 (.idx (t 46) (t 50) 2),
  s 52 (.ldE 46 51 0 2 true true 2),
  s 53 (.bsl 2 [(t 44), (t 52)]),
  s 13 (.mv (t 53))])
 (.seq (.ops [s 14 (.mv (c (i 0)))])
 (.block 4 (.loop (.seq (.seq (.ops [s 54 (.mv (t 14)),
  s 55 (.bin .lss (t 54) (c (i 2)))])
 (.cond (t 55) .skip (.exit 4)))
 (.seq (.block 5 (.seq (.ops [s 58 (.mv (t 8)),
  s 59 (.mv (t 13)),
  s 60 (.mv (t 14)),
  s 61 (.idx (t 59) (t 60) 2),
  s 62 (.ldE 59 61 0 2 true true 2),
  k 63 21 [(t 58), (t 62)] .sc,
  s 15 (.mv (t 63))])
 (.seq (.ops [s 64 (.mv (t 8)),
  s 65 (.mv (t 13)),
  s 66 (.mv (t 14)),
  s 67 (.bin .sub (c (i 1)) (t 66)),
  s 68 (.idx (t 65) (t 67) 2),
  s 69 (.ldE 65 68 0 2 true true 2),
  k 70 21 [(t 64), (t 69)] .sc,
  s 16 (.mv (t 70))])
 (.seq (.seq (.ops [s 71 (.mv (t 15)),
  s 72 (.bin .lss (t 71) (c (i 0)))])
 (.cond (t 72) (.exit 5) .skip))
 (.seq (.ops [s 73 (.mv (t 9)),
  s 74 (.mv (t 15)),
  s 75 (.idx (t 73) (t 74) 1),
  s 76 (.ldE 73 75 0 1 false true 1),
  s 77 (.mv (c (i 0))),
  s 78 (.ldB 12 4 1 false false),
  k 79 36 [(t 78)] .sc,
  s 80 (.bin .add (t 76) (t 79)),
  s 17 (.mv (t 80))])
 (.seq (.ops [s 81 (.mv (t 16)),
  s 82 (.bin .lss (t 81) (c (i 0)))])
 (.cond (t 82) (.seq (.ops [s 83 (.mv (t 8)),
  s 84 (.mv (t 13)),
  s 85 (.mv (t 14)),
  s 86 (.bin .sub (c (i 1)) (t 85)),
  s 87 (.idx (t 84) (t 86) 2),
  s 88 (.ldE 84 87 0 2 true true 2),
  s 89 (.bsl 2 [(t 88)]),
  s 90 (.app (t 83) (t 89) 2 16),
  s 8 (.mv (t 90))])
 (.seq (.ops [s 91 (.mv (t 9)),
  s 92 (.mv (t 17)),
  s 93 (.bsl 1 [(t 92)]),
  s 94 (.app (t 91) (t 93) 1 8),
  s 9 (.mv (t 94))])
 (.ops [s 10 (.mv (c (.bool true)))]))) (.seq (.ops [s 95 (.mv (t 17)),
  s 96 (.mv (t 9)),
  s 97 (.mv (t 16)),
  s 98 (.idx (t 96) (t 97) 1),
  s 99 (.ldE 96 98 0 1 false true 1),
  s 100 (.bin .lss (t 95) (t 99))])
 (.cond (t 100) (.seq (.seq (.ops [s 101 (.mv (t 9)),
  s 102 (.mv (t 16)),
  s 103 (.mv (t 17)),
  s 104 (.idx (t 101) (t 102) 1)])
 (.seq (opW 9 104 0 1 1 (t 103))
 (.ops [])))
 (.ops [s 10 (.mv (c (.bool true)))])) .skip)))))))))
 (.ops [s 56 (.mv (t 14)),
  s 57 (.bin .add (t 56) (c (i 1))),
  s 14 (.mv (t 57))]))))))))))
 (.ops [s 26 (.mv (t 11)),
  s 27 (.bin .add (t 26) (c (i 1))),
  s 11 (.mv (t 27))])))) (fun e V' => e = .exit 2 ∧ V' 0 = V 0 ∧ V' 2 = V 2 ∧ V' 8 = .lst 2 false (pcE (passTo l rank (m, false) l.length).1) ∧ V' 9 = .lst 1 false (dcE (passTo l rank (m, false) l.length).1) ∧ V' 10 = .bool (passTo l rank (m, false) l.length).2) V := by
  refine sx_count l.length (fun k V' => V' 0 = V 0 ∧ V' 2 = V 2 ∧ V' 11 = i k ∧ V' 8 = .lst 2 false (pcE (passTo l rank (m, false) k).1) ∧ V' 9 = .lst 1 false (dcE (passTo l rank (m, false) k).1) ∧ V' 10 = .bool (passTo l rank (m, false) k).2) 0 (by omega) ⟨rfl, rfl, v11, v8, v9, v10⟩ ?_
  rintro k V' hk ⟨g0, g2, g11, g8, g9, g10⟩
  have hG := passTo_good rank hI hsrc k hk
  have hw : wr .i64 ((k : Int) + 1) = k + 1 := wr_in (by omega) (by omega)
  rw [v0] at g0
  rw [v2] at g2
  simp [sxa, sxb, sxc, Ex.ok, Ex.val, ← wr_eq, g0, g11]
  refine CondS_d (fun hlt => ?_) (fun hge => ?_)
  · have hlt' : k < l.length := by omega
    have hst : passTo l rank (m, false) (k + 1) = updR l[k] rank (passTo l rank (m, false) k) := by simp [passTo, hlt']
    obtain ⟨S, hS⟩ : ∃ S, passTo l rank (m, false) k = S := ⟨_, rfl⟩
    rw [hS] at hst hG g8 g9 g10
    by_cases hr : isRd l[k] rank = true
    · have hst2 : passTo l rank (m, false) (k + 1) = halfR l[k] S 2 := by rw [hst]; unfold updR; rw [if_pos hr]
      obtain ⟨e2, e3⟩ := isRd_iff.1 hr
      have hle := wSrc_line hsrc hlt' e2
      have hm : l[k].f4.length - 1 < l[k].f4.length := by omega
      have hm0 : 0 < l[k].f4.length := by omega
      have hw2 : wr .i64 ((l[k].f4.length : Int) - 1) = ((l[k].f4.length - 1 : Nat) : Int) := wrap_down _ (by omega) (by omega)
      have ea : endA l[k] = l[k].f4[0] := by simp [endA, hm0]
      have eb : endB l[k] = l[k].f4[l[k].f4.length - 1] := by simp [endB, hm]
      have hsm : ∀ n, smE (halfR l[k] S n) := fun n => (hG.half hsrc hlt' n).small hsrc
      have e3' : (decide (l[k].f2 < rank)) = false := by simpa using e3
      clear hst hr
      simp [sxa, sxb, sxc, Ex.ok, Ex.val, ← wr_eq, g0, g2, g11, ft, cp, e2, e3, e3', hlt', hw2, hm0, hm]
      refine sx_mono _ _ _ _ ?_ (l20_4 (x := l[k]) (A := l[k].f4[0]) (B := l[k].f4[l[k].f4.length - 1]) (sl := wSteps l[k].f4) (S := S) ea eb rfl (by omega) hsm (by simp [sxa, sxb, sxc, Ex.ok, Ex.val, ← wr_eq, g8]) (by simp [sxa, sxb, sxc, Ex.ok, Ex.val, ← wr_eq, g9]) (by simp [sxa, sxb, sxc, Ex.ok, Ex.val, ← wr_eq, g10]) (by simp [sxa, sxb, sxc, Ex.ok, Ex.val, ← wr_eq, ft, cp, e2]) (by simp [sxa, sxb, sxc, Ex.ok, Ex.val, ← wr_eq, cp]) (by simp [sxa, sxb, sxc, Ex.ok, Ex.val, ← wr_eq]))
      rintro e V2 ⟨rfl, q0, q2, q11, q8, q9, q10⟩
      simp [sxa, sxb, sxc, Ex.ok, Ex.val, ← wr_eq, g0, g2, g11] at q0 q2 q11
      simp [sxa, sxb, sxc, Ex.ok, Ex.val, ← wr_eq, q0, q2, q11, q8, q9, q10, hw, hst2, hlt', v0, v2]
    · have hst2 : passTo l rank (m, false) (k + 1) = S := by rw [hst]; unfold updR; rw [if_neg hr]
      have hrr : ¬ (l[k].f1 = 2 ∧ ¬ l[k].f2 < rank) := fun h => hr (isRd_iff.2 h)
      clear hst hr
      by_cases e2 : l[k].f1 = 2
      · have e3 : l[k].f2 < rank := by
          rcases Decidable.em (l[k].f2 < rank) with h | h
          · exact h
          · exact absurd ⟨e2, h⟩ hrr
        simp [sxa, sxb, sxc, Ex.ok, Ex.val, ← wr_eq, g0, g2, g11, ft, cp, e2, e3, hlt', g8, g9, g10, hw, hst2, v0, v2]
      · simp [sxa, sxb, sxc, Ex.ok, Ex.val, ← wr_eq, g0, g2, g11, ft, cp, e2, hlt', g8, g9, g10, hw, hst2, v0, v2]
  · have : k = l.length := by omega
    subst this
    repeat' (first | intro _ | (simp [sxa, sxb, sxc, Ex.ok, Ex.val, ← wr_eq, *]) | refine CondS_d ?_ ?_ | refine CondS_b ?_ ?_ | refine GrdS_d ?_ ?_ | refine GrdS_b ?_ ?_ | refine OkS_i (by omega) ?_ | fail)

theorem f20 (l : List Ft) (p : Pt) (rank : Int) (n1 : Bool) (hl : l.length ≤ 1000000000000) (hsrc : wSrc l = true) : Fn Try.prog 20 true [.lst 5 n1 (l.map ft), .agg (cp p), i rank] (.tup [.lst 2 false (pcE (far l p rank)), .lst 1 false (dcE (far l p rank))]) := by
  have hI0 := stE_iv l p
  have hp0 := stE_phi p
  obtain ⟨R, hR⟩ : ∃ R, far l p rank = R := ⟨_, rfl⟩
  have hR0 : spread l rank farN (stE p) = R := hR
  rw [hR]
  clear hR
  generalize farN = N at hp0 hR0
  have e8 : pcE (stE p) = [[i p.f0, i p.f1]] := rfl
  have e9 : dcE (stE p) = [[i 0]] := rfl
  unfold cp
  refine Fn.by_sx hX (by kernel_rfl) c20 (by kernel_rfl) (by rfl) ?_
  simp [i20, sxa, sxb, sxc, Ex.ok, Ex.val, ← wr_eq]
  refine sx_count N (fun n V => V 0 = .lst 5 n1 (l.map ft) ∧ V 2 = i rank ∧ ∃ m, V 8 = .lst 2 false (pcE m) ∧ V 9 = .lst 1 false (dcE m) ∧ ((V 10 = .bool true ∧ Iv (dEnds l p) m ∧ phi m + n < N ∧ spread l rank (N - n) m = R) ∨ (V 10 = .bool false ∧ m = R))) 0 (by omega) ⟨by simp [sxa, sxb, sxc, Ex.ok, Ex.val, ← wr_eq], by simp [sxa, sxb, sxc, Ex.ok, Ex.val, ← wr_eq], stE p, by simp [sxa, sxb, sxc, Ex.ok, Ex.val, ← wr_eq, e8], by simp [sxa, sxb, sxc, Ex.ok, Ex.val, ← wr_eq, e9], .inl ⟨by simp [sxa, sxb, sxc, Ex.ok, Ex.val, ← wr_eq], hI0, by omega, by simpa using hR0⟩⟩ ?_
  rintro n V hn ⟨h0, h2, m, h8, h9, hc⟩
  rcases hc with ⟨h10, hI, hph, hsp⟩ | ⟨h10, hm⟩
  · simp [sxa, sxb, sxc, Ex.ok, Ex.val, ← wr_eq, h10]
    refine sx_mono _ _ _ _ ?_ (l20_2 (l := l) (nl := n1) (rank := rank) (p := p) (m := m) hsrc hl hI (by simp [sxa, sxb, sxc, Ex.ok, Ex.val, ← wr_eq, h0]) (by simp [sxa, sxb, sxc, Ex.ok, Ex.val, ← wr_eq, h2]) (by simp [sxa, sxb, sxc, Ex.ok, Ex.val, ← wr_eq, h8]) (by simp [sxa, sxb, sxc, Ex.ok, Ex.val, ← wr_eq, h9]) (by simp [sxa, sxb, sxc, Ex.ok, Ex.val, ← wr_eq]) (by simp [sxa, sxb, sxc, Ex.ok, Ex.val, ← wr_eq]))
    rintro e V2 ⟨rfl, q0, q2, q8, q9, q10⟩
    simp [sxa, sxb, sxc, Ex.ok, Ex.val, ← wr_eq, h0, h2] at q0 q2
    have hlt : n < N := by omega
    have hG := passTo_good rank hI hsrc l.length (Nat.le_refl _)
    rw [spread_step hlt] at hsp
    obtain ⟨S, hS⟩ : ∃ S, passTo l rank (m, false) l.length = S := ⟨_, rfl⟩
    rw [hS] at hsp hG q8 q9 q10
    have hfin : (V2 10 = .bool true ∧ Iv (dEnds l p) S.1 ∧ phi S.1 + (n + 1) < N ∧ spread l rank (N - (n + 1)) S.1 = R) ∨ (V2 10 = .bool false ∧ S.1 = R) := by
      by_cases hch : S.2 = true
      · rw [if_pos hch] at hsp
        have := hG.2.2 hch
        exact .inl ⟨by rw [q10, hch], hG.1, by omega, hsp⟩
      · rw [if_neg hch] at hsp
        exact .inr ⟨by rw [q10]; simpa using hch, hsp⟩
    simp only [sxa, sxb, sxc, Ex.ok, Ex.val, ← wr_eq]
    exact ⟨hlt, q0, q2, S.1, q8, q9, hfin⟩
  · subst hm
    simp [sxa, sxb, sxc, Ex.ok, Ex.val, ← wr_eq, h0, h2, h8, h9, h10]
end Go.Eng
namespace Go.Eng
open Go Go.Proofs Geo
set_option linter.unusedSimpArgs false
set_option linter.unusedVariables false
set_option maxRecDepth 20000
set_option maxHeartbeats 2000000

/-! the least lengths: the program's map, walked -/
def smI (S : List Ey × Bool) : Prop := S.1.length ≤ 33 ∧ ∀ e ∈ S.1, 0 ≤ e.2.2 ∧ e.2.2 ≤ 120000
theorem smI.of {l : List Ft} {p : Pt} {m0 : List Ey} {S : List Ey × Bool} (h : GoodS (dEnds l p) m0 S) (hs : wSrc l = true) : smI S := by
  have := h.1.len (dEnds_len hs p)
  refine ⟨this, fun e he => ?_⟩
  have := h.1.bd e he
  omega
theorem smI.look {S : List Ey × Bool} (h : smI S) {x y n : Int} (hl : lookE x y S.1 = some n) : 0 ≤ n ∧ n ≤ 120000 := by
  obtain ⟨A, B, h1, _⟩ := lookE_some hl
  exact h.2 (x, y, n) (by rw [h1]; simp)
theorem l25_4 {x : Ft} {A B : Pt} {sl : Int} {S : List Ey × Bool} {V : Env} (hA : endA x = A) (hB : endB x = B) (hsx : wSteps x.f4 = sl) (h1 : 0 < x.f4.length) (h10 : x.f4.length ≤ 10) (hsm : ∀ n, smI (halfR x S n)) (v7 : V 7 = .lst 3 false (S.1.map ent)) (v8 : V 8 = .bool S.2) (v10 : V 10 = .ptr (ft x)) (v45 : V 45 = .lst 2 false [cp A, cp B]) (v46 : V 46 = i 2) (v47 : V 47 = i 0) :
    sx (FC Try.prog) (.loop (.seq (.ops [s 48 (.bin .lss (t 47) (t 46))])
 (.seq (.cond (t 48) .skip (.exit 4))
 (.seq (.block 5 (.seq (.ops [s 49 (.idx (t 45) (t 47) 2),
  s 50 (.ldE 45 49 0 2 true true 2),
  s 12 (.alc [(i 0), (i 0)]),
  s 12 (.stB 12 0 2 (t 50) false)])
 (.seq (.ops [s 52 (.mv (c .junk)),
  s 53 (.ldB 12 0 2 true true),
  s 54 (.lk 7 (t 53)),
  s 51 (.mv (t 54)),
  s 55 (.ext 51 0 true),
  s 56 (.ext 51 1 true),
  s 13 (.mv (t 55)),
  s 14 (.mv (t 56))])
 (.seq (.seq (.ops [s 57 (.mv (t 14)),
  s 58 (.not (t 57))])
 (.cond (t 58) (.exit 5) .skip))
 (.seq (.ops [s 60 (.ldB 10 0 5 true false),
  s 61 (.ldB 12 0 2 true true),
  k 62 41 [(t 60), (t 61)] .sc,
  s 59 (.mv (t 62)),
  s 63 (.ext 59 0 true),
  s 64 (.ext 59 1 true),
  s 15 (.alc [(i 0), (i 0)]),
  s 15 (.stB 15 0 2 (t 63) false),
  s 16 (.mv (t 64))])
 (.seq (.ops [s 65 (.mv (t 13)),
  s 66 (.mv (c (i 0))),
  s 67 (.ldB 10 4 1 false false),
  k 68 42 [(t 67)] .sc,
  s 69 (.bin .add (t 65) (t 68)),
  s 13 (.mv (t 69))])
 (.seq (.ops [s 71 (.mv (c .junk)),
  s 72 (.ldB 15 0 2 true true),
  s 73 (.lk 7 (t 72)),
  s 70 (.mv (t 73)),
  s 74 (.ext 70 0 true),
  s 75 (.ext 70 1 true),
  s 17 (.mv (t 74)),
  s 18 (.mv (t 75))])
 (.seq (.ops [s 76 (.mv (t 18)),
  s 77 (.not (t 76)),
  s 78 (.mv (t 77)),
  sg [(78, false)] 79 (.mv (t 13)),
  sg [(78, false)] 80 (.mv (t 17)),
  sg [(78, false)] 81 (.bin .lss (t 79) (t 80)),
  s 82 (.pick (t 78) (c (.bool true)) (t 81))])
 (.cond (t 82) (.seq (.ops [s 83 (.mv (c .junk)),
  s 84 (.ldB 15 0 2 true true),
  s 85 (.mv (t 13)),
  s 7 (.mpu 7 (t 84) (t 85))])
 (.ops [s 8 (.mv (c (.bool true)))])) .skip)))))))))
 (.ops [s 86 (.bin .add (t 47) (c (i 1))),
  s 47 (.mv (t 86))]))))) (fun e V' => e = .exit 4 ∧ V' 0 = V 0 ∧ V' 2 = V 2 ∧ V' 23 = V 23 ∧ V' 24 = V 24 ∧ V' 25 = V 25 ∧ V' 7 = .lst 3 false ((halfR x S 2).1.map ent) ∧ V' 8 = .bool (halfR x S 2).2) V := by
  refine sx_count 2 (fun h V' => V' 0 = V 0 ∧ V' 2 = V 2 ∧ V' 23 = V 23 ∧ V' 24 = V 24 ∧ V' 25 = V 25 ∧ V' 10 = V 10 ∧ V' 45 = V 45 ∧ V' 46 = V 46 ∧ V' 47 = i h ∧ V' 7 = .lst 3 false ((halfR x S h).1.map ent) ∧ V' 8 = .bool (halfR x S h).2) 0 (by omega) ⟨rfl, rfl, rfl, rfl, rfl, rfl, rfl, rfl, v47, v7, v8⟩ ?_
  rintro h V' hh ⟨g0, g2, g23, g24, g25, g10, g45, g46, g47, g7, g8⟩
  rw [v10] at g10
  rw [v45] at g45
  rw [v46] at g46
  have hs := hsm h
  have key : h < 2 → ∃ P Q, halfR x S (h + 1) = upd1 P Q sl (halfR x S h) ∧ ((h = 0 ∧ P = A ∧ Q = B) ∨ (h = 1 ∧ P = B ∧ Q = A)) := by
    intro hlt
    rcases (show h = 0 ∨ h = 1 by omega) with rfl | rfl
    · exact ⟨A, B, by rw [← hA, ← hB, ← hsx]; rfl, .inl ⟨rfl, rfl, rfl⟩⟩
    · exact ⟨B, A, by rw [← hA, ← hB, ← hsx]; rfl, .inr ⟨rfl, rfl, rfl⟩⟩
  simp [sxa, sxb, sxc, Ex.ok, Ex.val, ← wr_eq, g46, g47]
  refine CondS_d (fun hlt => ?_) (fun hge => ?_)
  · obtain ⟨P, Q, hst, hcase⟩ := key (by omega)
    have hsb := wSteps_in x.f4
    rw [hsx] at hsb
    obtain ⟨m, hm⟩ : ∃ m, (halfR x S h).1 = m := ⟨_, rfl⟩
    obtain ⟨cc, hc⟩ : ∃ cc, (halfR x S h).2 = cc := ⟨_, rfl⟩
    have hmc : halfR x S h = (m, cc) := by rw [← hm, ← hc]
    rw [hm] at g7
    rw [hc] at g8
    rw [hmc] at hs hst
    have cst := f42 x.f4 x.nl (by omega)
    rw [hsx] at cst
    have co := f41 x P h1 (by omega)
    have hoe : (if pe (endA x) P = true then endB x else endA x) = Q := by
      rw [hA, hB]
      rcases hcase with ⟨_, rfl, rfl⟩ | ⟨_, rfl, rfl⟩
      · simp [pe]
      · by_cases hab : pe Q P = true
        · rw [if_pos hab]
          unfold pe at hab
          simp only [Bool.and_eq_true, decide_eq_true_eq] at hab
          obtain ⟨a1, a2⟩ := Q
          obtain ⟨b1, b2⟩ := P
          simp only at hab
          rw [hab.1, hab.2]
        · rw [if_neg hab]
    rw [hoe] at co
    obtain ⟨ob, hob⟩ : ∃ ob, (pe (endA x) P || pe (endB x) P) = ob := ⟨_, rfl⟩
    rw [hob] at co
    clear hob hoe
    have hw1 : wr .i64 ((h : Int) + 1) = ((h + 1 : Nat) : Int) := wr_in (by omega) (by omega)
    have hwa : wr .i64 (2 : Int) = 2 := wr_in (by omega) (by omega)
    have hwb : wr .i64 (1 : Int) = 1 := wr_in (by omega) (by omega)
    have hwc : wr .i64 (0 : Int) = 0 := wr_in (by omega) (by omega)
    have hdm : decM (.lst 3 false (m.map ent)) = m := decM_ent m
    unfold ft at g10 co v10
    unfold upd1 at hst
    simp only at hst
    cases hp : lookE P.f0 P.f1 m with
    | none =>
      rw [hp] at hst
      simp only at hst
      clear hmc hm hc key
      rcases hcase with ⟨rfl, rfl, rfl⟩ | ⟨rfl, rfl, rfl⟩ <;> unfold cp at * <;> (repeat' (first | intro _ | (simp [sxa, sxb, sxc, Ex.ok, Ex.val, ← wr_eq, Ex.ok, Ex.val, keyX, keyY, isPt, isI64, *]) | refine CallS_i (co) ?_ | refine CallS_i (cst) ?_ | refine CondS_d ?_ ?_ | refine CondS_b ?_ ?_ | refine GrdS_d ?_ ?_ | refine GrdS_b ?_ ?_ | refine OkS_i (by omega) ?_ | fail))
    | some n =>
      have hn := hs.look (x := P.f0) (y := P.f1) hp
      have hws : wr .i64 (n + sl) = n + sl := wr_in (by omega) (by omega)
      rw [hp] at hst
      simp only at hst
      cases hq : lookE Q.f0 Q.f1 m with
      | none =>
        rw [hq] at hst
        simp only at hst
        clear hmc hm hc key
        rcases hcase with ⟨rfl, rfl, rfl⟩ | ⟨rfl, rfl, rfl⟩ <;> unfold cp at * <;> (repeat' (first | intro _ | (simp [sxa, sxb, sxc, Ex.ok, Ex.val, ← wr_eq, Ex.ok, Ex.val, keyX, keyY, isPt, isI64, *]) | refine CallS_i (co) ?_ | refine CallS_i (cst) ?_ | refine CondS_d ?_ ?_ | refine CondS_b ?_ ?_ | refine GrdS_d ?_ ?_ | refine GrdS_b ?_ ?_ | refine OkS_i (by omega) ?_ | fail))
      | some k =>
        rw [hq] at hst
        simp only at hst
        by_cases hlt2 : n + sl < k
        · rw [if_pos hlt2] at hst
          clear hmc hm hc key
          rcases hcase with ⟨rfl, rfl, rfl⟩ | ⟨rfl, rfl, rfl⟩ <;> unfold cp at * <;> (repeat' (first | intro _ | (simp [sxa, sxb, sxc, Ex.ok, Ex.val, ← wr_eq, Ex.ok, Ex.val, keyX, keyY, isPt, isI64, *]) | refine CallS_i (co) ?_ | refine CallS_i (cst) ?_ | refine CondS_d ?_ ?_ | refine CondS_b ?_ ?_ | refine GrdS_d ?_ ?_ | refine GrdS_b ?_ ?_ | refine OkS_i (by omega) ?_ | fail))
        · rw [if_neg hlt2] at hst
          clear hmc hm hc key
          rcases hcase with ⟨rfl, rfl, rfl⟩ | ⟨rfl, rfl, rfl⟩ <;> unfold cp at * <;> (repeat' (first | intro _ | (simp [sxa, sxb, sxc, Ex.ok, Ex.val, ← wr_eq, Ex.ok, Ex.val, keyX, keyY, isPt, isI64, *]) | refine CallS_i (co) ?_ | refine CallS_i (cst) ?_ | refine CondS_d ?_ ?_ | refine CondS_b ?_ ?_ | refine GrdS_d ?_ ?_ | refine GrdS_b ?_ ?_ | refine OkS_i (by omega) ?_ | fail))
  · have : h = 2 := by omega
    subst this
    repeat' (first | intro _ | (simp [sxa, sxb, sxc, Ex.ok, Ex.val, ← wr_eq, *]) | refine CondS_d ?_ ?_ | refine CondS_b ?_ ?_ | refine GrdS_d ?_ ?_ | refine GrdS_b ?_ ?_ | refine OkS_i (by omega) ?_ | fail)

theorem isRd_iff' {x : Ft} {rank : Int} : isRd x rank = true ↔ x.f1 = 2 ∧ ¬ x.f2 < rank := by simp [isRd]
theorem l25_2 {l : List Ft} {nl : Bool} {rank : Int} {p : Pt} {m : List Ey} {V : Env} (hsrc : wSrc l = true) (hl : l.length ≤ 1000000000000) (hI : Iv (dEnds l p) m) (v2 : V 2 = i rank) (v7 : V 7 = .lst 3 false (m.map ent)) (v8 : V 8 = .bool false) (v23 : V 23 = .lst 5 nl (l.map ft)) (v24 : V 24 = i l.length) (v25 : V 25 = i 0) (v0 : V 0 = .lst 5 nl (l.map ft)) :
    sx (FC Try.prog) (.loop (.seq (.ops [s 26 (.bin .lss (t 25) (t 24))])
 (.seq (.cond (t 26) .skip (.exit 2))
 (.seq (.block 3 (.seq (.ops [s 27 (.idx (t 23) (t 25) 5),
  s 28 (.ldE 23 27 0 5 true false 5),
  s 10 (.alc [(i 0), (i 0), (i 0), (.str (bs [])), (.lst 2 true [])]),
  s 10 (.stB 10 0 5 (t 28) true)])
 (.seq (.seq (.ops [s 29 (.ldB 10 0 5 true false),
  s 30 (.mv (t 2)),
  k 31 40 [(t 29), (t 30)] .sc,
  s 32 (.not (t 31))])
 (.cond (t 32) (.exit 3) .skip))
 (.seq (.ops [s 33 (.mv (c (i 0))),
  s 34 (.ldB 10 4 1 false false),
  s 35 (.idx (t 34) (c (i 0)) 2),
  s 36 (.ldE 34 35 0 2 true true 2),
  s 37 (.mv (c (i 0))),
  s 38 (.ldB 10 4 1 false false),
  s 39 (.mv (c (i 0))),
  s 40 (.ldB 10 4 1 false false),
  s 41 (.len false (t 40)),
  s 42 (.bin .sub (t 41) (c (i 1))),
  s 43 (.idx (t 38) (t 42) 2),
  s 44 (.ldE 38 43 0 2 true true 2),
  s 45 (.bsl 2 [(t 36), (t 44)]),
  s 46 (.len false (t 45)),
  s 47 (.mv (c (i 0)))])
 (.block 4 (.loop (.seq (.ops [s 48 (.bin .lss (t 47) (t 46))])
 (.seq (.cond (t 48) .skip (.exit 4))
 (.seq (.block 5 (.seq (.ops [s 49 (.idx (t 45) (t 47) 2),
  s 50 (.ldE 45 49 0 2 true true 2),
  s 12 (.alc [(i 0), (i 0)]),
  s 12 (.stB 12 0 2 (t 50) false)])
 (.seq (.ops [s 52 (.mv (c .junk)),
  s 53 (.ldB 12 0 2 true true),
  s 54 (.lk 7 (t 53)),
  s 51 (.mv (t 54)),
  s 55 (.ext 51 0 true),
  s 56 (.ext 51 1 true),
  s 13 (.mv (t 55)),
  s 14 (.mv (t 56))])
 (.seq (.seq (.ops [s 57 (.mv (t 14)),
  s 58 (.not (t 57))])
 (.cond (t 58) (.exit 5) .skip))
 (.seq (.ops [s 60 (.ldB 10 0 5 true false),
  s 61 (.ldB 12 0 2 true true),
  k 62 41 [(t 60), (t 61)] .sc,
  s 59 (.mv (t 62)),
  s 63 (.ext 59 0 true),
  s 64 (.ext 59 1 true),
  s 15 (.alc [(i 0), (i 0)]),
  s 15 (.stB 15 0 2 (t 63) false),
  s 16 (.mv (t 64))])
 (.seq (.ops [s 65 (.mv (t 13)),
  s 66 (.mv (c (i 0))),
  s 67 (.ldB 10 4 1 false false),
  k 68 42 [(t 67)] .sc,
  s 69 (.bin .add (t 65) (t 68)),
  s 13 (.mv (t 69))])
 (.seq (.ops [s 71 (.mv (c .junk)),
  s 72 (.ldB 15 0 2 true true),
  s 73 (.lk 7 (t 72)),
  s 70 (.mv (t 73)),
  s 74 (.ext 70 0 true),
  s 75 (.ext 70 1 true),
  s 17 (.mv (t 74)),
  s 18 (.mv (t 75))])
 (.seq (.ops [s 76 (.mv (t 18)),
  s 77 (.not (t 76)),
  s 78 (.mv (t 77)),
  sg [(78, false)] 79 (.mv (t 13)),
  sg [(78, false)] 80 (.mv (t 17)),
  sg [(78, false)] 81 (.bin .lss (t 79) (t 80)),
  s 82 (.pick (t 78) (c (.bool true)) (t 81))])
 (.cond (t 82) (.seq (.ops [s 83 (.mv (c .junk)),
  s 84 (.ldB 15 0 2 true true),
  s 85 (.mv (t 13)),
  s 7 (.mpu 7 (t 84) (t 85))])
 (.ops [s 8 (.mv (c (.bool true)))])) .skip)))))))))
 (.ops [s 86 (.bin .add (t 47) (c (i 1))),
  s 47 (.mv (t 86))]))))))))))
 (.ops [s 87 (.bin .add (t 25) (c (i 1))),
  s 25 (.mv (t 87))]))))) (fun e V' => e = .exit 2 ∧ V' 0 = V 0 ∧ V' 2 = V 2 ∧ V' 7 = .lst 3 false ((passTo l rank (m, false) l.length).1.map ent) ∧ V' 8 = .bool (passTo l rank (m, false) l.length).2) V := by
  refine sx_count l.length (fun k V' => V' 0 = V 0 ∧ V' 2 = V 2 ∧ V' 23 = V 23 ∧ V' 24 = V 24 ∧ V' 25 = i k ∧ V' 7 = .lst 3 false ((passTo l rank (m, false) k).1.map ent) ∧ V' 8 = .bool (passTo l rank (m, false) k).2) 0 (by omega) ⟨rfl, rfl, rfl, rfl, v25, v7, v8⟩ ?_
  rintro k V' hk ⟨g0, g2, g23, g24, g25, g7, g8⟩
  have hG := passTo_good rank hI hsrc k hk
  have hw : wr .i64 ((k : Int) + 1) = k + 1 := wr_in (by omega) (by omega)
  rw [v23] at g23
  rw [v24] at g24
  rw [v2] at g2
  rw [v0] at g0
  simp [sxa, sxb, sxc, Ex.ok, Ex.val, ← wr_eq, g24, g25]
  refine CondS_d (fun hlt => ?_) (fun hge => ?_)
  · have hlt' : k < l.length := by omega
    have hst : passTo l rank (m, false) (k + 1) = updR l[k] rank (passTo l rank (m, false) k) := by simp [passTo, hlt']
    obtain ⟨S, hS⟩ : ∃ S, passTo l rank (m, false) k = S := ⟨_, rfl⟩
    rw [hS] at hst hG g7 g8
    have cr := f40 l[k] rank
    have hrd : (decide (l[k].f1 = 2) && !decide (l[k].f2 < rank)) = isRd l[k] rank := rfl
    rw [hrd] at cr
    by_cases hr : isRd l[k] rank = true
    · have hst2 : passTo l rank (m, false) (k + 1) = halfR l[k] S 2 := by rw [hst]; unfold updR; rw [if_pos hr]
      obtain ⟨e2, e3⟩ := isRd_iff'.1 hr
      rw [hr] at cr
      have hle := wSrc_line hsrc hlt' e2
      have hm : l[k].f4.length - 1 < l[k].f4.length := by omega
      have hm0 : 0 < l[k].f4.length := by omega
      have hw2 : wr .i64 ((l[k].f4.length : Int) - 1) = ((l[k].f4.length - 1 : Nat) : Int) := wrap_down _ (by omega) (by omega)
      have ea : endA l[k] = l[k].f4[0] := by simp [endA, hm0]
      have eb : endB l[k] = l[k].f4[l[k].f4.length - 1] := by simp [endB, hm]
      have hsm : ∀ n, smI (halfR l[k] S n) := fun n => smI.of (hG.half hsrc hlt' n) hsrc
      clear hst hr hrd e2 e3
      unfold ft at cr
      simp [sxa, sxb, sxc, Ex.ok, Ex.val, ← wr_eq, g0, g2, g23, g25, ft, cp, hlt']
      refine CallS_i cr ?_
      simp [sxa, sxb, sxc, Ex.ok, Ex.val, ← wr_eq, g0, g2, g23, g25, ft, cp, hlt', hw2, hm0, hm]
      refine sx_mono _ _ _ _ ?_ (l25_4 (x := l[k]) (A := l[k].f4[0]) (B := l[k].f4[l[k].f4.length - 1]) (sl := wSteps l[k].f4) (S := S) ea eb rfl hm0 (by omega) hsm (by simp [sxa, sxb, sxc, Ex.ok, Ex.val, ← wr_eq, g7]) (by simp [sxa, sxb, sxc, Ex.ok, Ex.val, ← wr_eq, g8]) (by simp [sxa, sxb, sxc, Ex.ok, Ex.val, ← wr_eq, ft, cp]) (by simp [sxa, sxb, sxc, Ex.ok, Ex.val, ← wr_eq, cp]) (by simp [sxa, sxb, sxc, Ex.ok, Ex.val, ← wr_eq]) (by simp [sxa, sxb, sxc, Ex.ok, Ex.val, ← wr_eq]))
      rintro e V2 ⟨rfl, q0, q2, q23, q24, q25, q7, q8⟩
      simp [sxa, sxb, sxc, Ex.ok, Ex.val, ← wr_eq, g0, g2, g23, g24, g25] at q0 q2 q23 q24 q25
      simp [sxa, sxb, sxc, Ex.ok, Ex.val, ← wr_eq, q0, q2, q23, q24, q25, q7, q8, hw, hst2, hlt', v0, v2, v23, v24]
    · have hst2 : passTo l rank (m, false) (k + 1) = S := by rw [hst]; unfold updR; rw [if_neg hr]
      have hr0 : isRd l[k] rank = false := by simpa using hr
      rw [hr0] at cr
      clear hst hr hrd
      unfold ft at cr
      simp [sxa, sxb, sxc, Ex.ok, Ex.val, ← wr_eq, g0, g2, g23, g25, ft, cp, hlt']
      refine CallS_i cr ?_
      simp [sxa, sxb, sxc, Ex.ok, Ex.val, ← wr_eq, g0, g2, g23, g24, g25, g7, g8, ft, cp, hlt', hw, hst2, v0, v2, v23, v24]
  · have : k = l.length := by omega
    subst this
    repeat' (first | intro _ | (simp [sxa, sxb, sxc, Ex.ok, Ex.val, ← wr_eq, *]) | refine CondS_d ?_ ?_ | refine CondS_b ?_ ?_ | refine GrdS_d ?_ ?_ | refine GrdS_b ?_ ?_ | refine OkS_i (by omega) ?_ | fail)
theorem f25 (l : List Ft) (p : Pt) (rank : Int) (n1 : Bool) (hl : l.length ≤ 1000000000000) (hsrc : wSrc l = true) : FnP Try.prog 25 [.lst 5 n1 (l.map ft), .agg (cp p), i rank] (.lst 3 false ((far l p rank).map ent)) := by
  have hI0 := stE_iv l p
  have hp0 := stE_phi p
  obtain ⟨R, hR⟩ : ∃ R, far l p rank = R := ⟨_, rfl⟩
  have hR0 : spread l rank farN (stE p) = R := hR
  rw [hR]
  clear hR
  generalize farN = N at hp0 hR0
  have e7 : (stE p).map ent = [[i p.f0, i p.f1, i 0]] := rfl
  unfold cp
  refine FnP.by_sx hX (by kernel_rfl) c25 (by rfl) (by rfl) ?_
  simp [i25, sxa, sxb, sxc, Ex.ok, Ex.val, ← wr_eq]
  simp [sxa, sxb, sxc, Ex.ok, Ex.val, ← wr_eq, Ex.ok, Ex.val, keyX, keyY, isPt, isI64, decM, putE, ent]
  refine sx_count N (fun n V => V 0 = .lst 5 n1 (l.map ft) ∧ V 2 = i rank ∧ ∃ m, V 7 = .lst 3 false (m.map ent) ∧ ((V 8 = .bool true ∧ Iv (dEnds l p) m ∧ phi m + n < N ∧ spread l rank (N - n) m = R) ∨ (V 8 = .bool false ∧ m = R))) 0 (by omega) ⟨by simp [sxa, sxb, sxc, Ex.ok, Ex.val, ← wr_eq], by simp [sxa, sxb, sxc, Ex.ok, Ex.val, ← wr_eq], stE p, by simp [sxa, sxb, sxc, Ex.ok, Ex.val, ← wr_eq, e7], .inl ⟨by simp [sxa, sxb, sxc, Ex.ok, Ex.val, ← wr_eq], hI0, by omega, by simpa using hR0⟩⟩ ?_
  rintro n V hn ⟨h0, h2, m, h7, hc⟩
  rcases hc with ⟨h8, hI, hph, hsp⟩ | ⟨h8, hm⟩
  · simp [sxa, sxb, sxc, Ex.ok, Ex.val, ← wr_eq, h0, h8]
    refine sx_mono _ _ _ _ ?_ (l25_2 (l := l) (nl := n1) (rank := rank) (p := p) (m := m) hsrc hl hI (by simp [sxa, sxb, sxc, Ex.ok, Ex.val, ← wr_eq, h2]) (by simp [sxa, sxb, sxc, Ex.ok, Ex.val, ← wr_eq, h7]) (by simp [sxa, sxb, sxc, Ex.ok, Ex.val, ← wr_eq]) (by simp [sxa, sxb, sxc, Ex.ok, Ex.val, ← wr_eq]) (by simp [sxa, sxb, sxc, Ex.ok, Ex.val, ← wr_eq]) (by simp [sxa, sxb, sxc, Ex.ok, Ex.val, ← wr_eq]) (by simp [sxa, sxb, sxc, Ex.ok, Ex.val, ← wr_eq, h0]))
    rintro e V2 ⟨rfl, q0, q2, q7, q8⟩
    simp [sxa, sxb, sxc, Ex.ok, Ex.val, ← wr_eq, h0, h2] at q0 q2
    have hlt : n < N := by omega
    have hG := passTo_good rank hI hsrc l.length (Nat.le_refl _)
    rw [spread_step hlt] at hsp
    obtain ⟨S, hS⟩ : ∃ S, passTo l rank (m, false) l.length = S := ⟨_, rfl⟩
    rw [hS] at hsp hG q7 q8
    have hfin : (V2 8 = .bool true ∧ Iv (dEnds l p) S.1 ∧ phi S.1 + (n + 1) < N ∧ spread l rank (N - (n + 1)) S.1 = R) ∨ (V2 8 = .bool false ∧ S.1 = R) := by
      by_cases hch : S.2 = true
      · rw [if_pos hch] at hsp
        have := hG.2.2 hch
        exact .inl ⟨by rw [q8, hch], hG.1, by omega, hsp⟩
      · rw [if_neg hch] at hsp
        exact .inr ⟨by rw [q8]; simpa using hch, hsp⟩
    simp only [sxa, sxb, sxc, Ex.ok, Ex.val, ← wr_eq]
    exact ⟨hlt, q0, q2, S.1, q7, hfin⟩
  · subst hm
    simp [sxa, sxb, sxc, Ex.ok, Ex.val, ← wr_eq, h0, h2, h7, h8]
end Go.Eng
namespace Go.Eng
open Go Go.Proofs Geo
set_option linter.unusedSimpArgs false
set_option linter.unusedVariables false
set_option maxRecDepth 20000
set_option maxHeartbeats 2000000

/-! the shortest way, walked -/
theorem spread_iv {l : List Ft} {p : Pt} (rank : Int) (hs : wSrc l = true) : ∀ (n : Nat) {m : List Ey}, Iv (dEnds l p) m → Iv (dEnds l p) (spread l rank n m)
  | 0, m, h => h
  | n + 1, m, h => by
    have hG := passTo_good rank h hs l.length (Nat.le_refl _)
    unfold spread
    split
    · exact spread_iv rank hs n hG.1
    · exact hG.1
theorem far_iv {l : List Ft} (p : Pt) (rank : Int) (hs : wSrc l = true) : Iv (dEnds l p) (far l p rank) := spread_iv rank hs _ (stE_iv l p)
theorem far_len {l : List Ft} (p : Pt) (rank : Int) (hs : wSrc l = true) : (far l p rank).length ≤ 33 := (far_iv p rank hs).len (dEnds_len hs p)
end Go.Eng
namespace Go.Eng
open Go Go.Proofs Go.RowKit Geo Go.Sort Go.Shelf
set_option linter.unusedSimpArgs false
set_option linter.unusedVariables false
set_option maxRecDepth 100000
set_option maxHeartbeats 4000000

/-! points in their order, walked -/
def ltPt (x y : Pt) : Bool := decide (x.f1 < y.f1) || (decide (x.f1 = y.f1) && decide (x.f0 < y.f0))
def cfPt (x y : Pt) : Int := if ltPt x y = true then -1 else 1
def encPt (x : Pt) : List Value := [.int .i64 x.f0, .int .i64 x.f1]
theorem ltPt_iff {x y : Pt} : ltPt x y = true ↔ x.f1 < y.f1 ∨ (x.f1 = y.f1 ∧ x.f0 < y.f0) := by simp [ltPt]
theorem lt_cfPt (x y : Pt) : ltOf cfPt x y = ltPt x y := by
  unfold ltOf cfPt
  cases h : ltPt x y <;> simp
theorem swoPt : SWO (ltOf cfPt) := by
  refine ⟨fun x => ?_, fun x y z h h2 => ?_, fun x y z h h2 => ?_⟩
  · rw [lt_cfPt]; simp [ltPt]
  · rw [lt_cfPt] at *; rw [ltPt_iff] at *; omega
  · rw [lt_cfPt] at *
    cases hz : ltPt x z
    · rfl
    · exfalso
      have h' : ¬ ltPt x y = true := by rw [h]; simp
      have h2' : ¬ ltPt y z = true := by rw [h2]; simp
      rw [ltPt_iff] at h' h2' hz
      omega
theorem w30 (x y : Pt) (W : World) : Calls Try.prog 30 #[.agg #[.int .i64 x.f0, .int .i64 x.f1], .agg #[.int .i64 y.f0, .int .i64 y.f1]] W fun e w' => e = .returned (.bool (ltPt x y)) ∧ ∃ os : Array Obj, w' = Sort.grow W os := by
  go_enter Try.func30, Try.ntmps30
  go_upto_region 1 with (fail)
  have hsz := alloc_size W (.cells #[.int .i64 x.f0, .int .i64 x.f1] 30)
  have hn1 := alloc_new W (.cells #[.int .i64 x.f0, .int .i64 x.f1] 30)
  have hn2 := alloc_new (W.alloc (.cells #[.int .i64 x.f0, .int .i64 x.f1] 30)) (.cells #[.int .i64 y.f0, .int .i64 y.f1] 30)
  rw [hsz] at hn2
  have hn3 := (alloc_blocks (W.alloc (.cells #[.int .i64 x.f0, .int .i64 x.f1] 30)) (.cells #[.int .i64 y.f0, .int .i64 y.f1] 30) W.heap.size (by rw [hsz]; omega)).trans hn1
  have hend : ∃ os : Array Obj, ((W.alloc (.cells #[.int .i64 x.f0, .int .i64 x.f1] 30)).alloc (.cells #[.int .i64 y.f0, .int .i64 y.f1] 30)) = Sort.grow W os :=
    ⟨#[.cells #[.int .i64 x.f0, .int .i64 x.f1] 30, .cells #[.int .i64 y.f0, .int .i64 y.f1] 30], rfl⟩
  generalize ((W.alloc (.cells #[.int .i64 x.f0, .int .i64 x.f1] 30)).alloc (.cells #[.int .i64 y.f0, .int .i64 y.f1] 30)) = W2 at *
  have a0 : W2.cell? ⟨W.heap.size, 0, none⟩ = some (.int .i64 x.f0) := by simp [World.cell?, hn3]
  have a1 : W2.cell? ⟨W.heap.size, 1, none⟩ = some (.int .i64 x.f1) := by simp [World.cell?, hn3]
  have b0 : W2.cell? ⟨W.heap.size + 1, 0, none⟩ = some (.int .i64 y.f0) := by simp [World.cell?, hn2]
  have b1 : W2.cell? ⟨W.heap.size + 1, 1, none⟩ = some (.int .i64 y.f1) := by simp [World.cell?, hn2]
  clear hn1 hn2 hn3 hsz
  by_cases h1 : x.f1 < y.f1
  · have hr : ltPt x y = true := by simp [ltPt, h1]
    have g1 : decide (x.f1 < y.f1) = true := by simp [h1]
    go_wp2
    go_ret
    exact ⟨by first | rfl | (rw [hr]; rfl), hend⟩
  · have g1 : decide (x.f1 < y.f1) = false := by simp [h1]
    by_cases h2 : x.f1 = y.f1
    · have g2 : decide (x.f1 = y.f1) = true := by simp [h2]
      have g2' : (x.f1 == y.f1) = true := by simp [h2]
      by_cases h3 : x.f0 < y.f0
      · have hr : ltPt x y = true := by simp [ltPt, h2, h3]
        have g3 : decide (x.f0 < y.f0) = true := by simp [h3]
        clear h1 h2
        go_wp2
        go_ret
        exact ⟨by first | rfl | (rw [hr]; rfl), hend⟩
      · have hr : ltPt x y = false := by simp [ltPt, h2, h3]
        have g3 : decide (x.f0 < y.f0) = false := by simp [h3]
        clear h1 h2
        go_wp2
        go_ret
        exact ⟨by first | rfl | (rw [hr]; rfl), hend⟩
    · have hr : ltPt x y = false := by simp [ltPt, h1, h2]
      have g2 : decide (x.f1 = y.f1) = false := by simp [h2]
      have g2' : (x.f1 == y.f1) = false := by simp [h2]
      go_wp2
      go_ret
      exact ⟨by first | rfl | (rw [hr]; rfl), hend⟩
end Go.Eng
namespace Go.Eng
open Go Go.Proofs Go.RowKit Geo Go.Sort Go.Shelf
set_option linter.unusedSimpArgs false
set_option linter.unusedVariables false
set_option maxRecDepth 100000
set_option maxHeartbeats 4000000

theorem w29 (x y : Pt) (W : World) : Calls Try.prog 29 #[.agg (encPt x).toArray, .agg (encPt y).toArray] W fun e w' => e = .returned (.int .i64 (cfPt x y)) ∧ ∃ q os', w' = Sort.grow (W.drewN q) os' := by
  unfold encPt
  go_enter Try.func29, Try.ntmps29
  go_upto_region 1 with (fail)
  have hsz := alloc_size W (.cells #[.int .i64 x.f0, .int .i64 x.f1] 30)
  have hn1 := alloc_new W (.cells #[.int .i64 x.f0, .int .i64 x.f1] 30)
  have hn2 := alloc_new (W.alloc (.cells #[.int .i64 x.f0, .int .i64 x.f1] 30)) (.cells #[.int .i64 y.f0, .int .i64 y.f1] 30)
  rw [hsz] at hn2
  have hn3 := (alloc_blocks (W.alloc (.cells #[.int .i64 x.f0, .int .i64 x.f1] 30)) (.cells #[.int .i64 y.f0, .int .i64 y.f1] 30) W.heap.size (by rw [hsz]; omega)).trans hn1
  have hend : ∃ os : Array Obj, ((W.alloc (.cells #[.int .i64 x.f0, .int .i64 x.f1] 30)).alloc (.cells #[.int .i64 y.f0, .int .i64 y.f1] 30)) = Sort.grow W os :=
    ⟨#[.cells #[.int .i64 x.f0, .int .i64 x.f1] 30, .cells #[.int .i64 y.f0, .int .i64 y.f1] 30], rfl⟩
  generalize ((W.alloc (.cells #[.int .i64 x.f0, .int .i64 x.f1] 30)).alloc (.cells #[.int .i64 y.f0, .int .i64 y.f1] 30)) = W2 at *
  have a0 : W2.cell? ⟨W.heap.size, 0, none⟩ = some (.int .i64 x.f0) := by simp [World.cell?, hn3]
  have a1 : W2.cell? ⟨W.heap.size, 1, none⟩ = some (.int .i64 x.f1) := by simp [World.cell?, hn3]
  have b0 : W2.cell? ⟨W.heap.size + 1, 0, none⟩ = some (.int .i64 y.f0) := by simp [World.cell?, hn2]
  have b1 : W2.cell? ⟨W.heap.size + 1, 1, none⟩ = some (.int .i64 y.f1) := by simp [World.cell?, hn2]
  clear hn1 hn2 hn3 hsz
  go_wp
  refine (w30 x y W2).mono ?_
  rintro e w3 ⟨rfl, os2, rfl⟩
  have hx : ∃ q os', Sort.grow W2 os2 = Sort.grow (W.drewN q) os' := by
    obtain ⟨os, hend⟩ := hend
    exact ⟨0, os ++ os2, by rw [hend]; simp [Sort.grow, World.drewN]⟩
  clear a0 a1 b0 b1 hend
  generalize Sort.grow W2 os2 = w3 at hx ⊢
  dsimp only
  cases hb : ltPt x y with
  | true =>
    go_wp
    go_ret
    exact ⟨by unfold cfPt; rw [hb]; rfl, hx⟩
  | false =>
    go_wp
    go_ret
    exact ⟨by unfold cfPt; rw [hb]; rfl, hx⟩
end Go.Eng
namespace Go.Eng
open Go Go.Proofs Go.Sort Go.Shelf Geo
set_option linter.unusedSimpArgs false
set_option linter.unusedVariables false
set_option maxRecDepth 20000

/-! points in their order: insertion -/
def ptD : Pt := ⟨0, 0⟩
theorem ltPt_irr (x : Pt) : ltPt x x = false := by simp [ltPt]
theorem ltPt_tr {x y z : Pt} (h : ltPt x y = true) (h2 : ltPt y z = true) : ltPt x z = true := by
  rw [ltPt_iff] at *; omega
theorem ltPt_nf {x y : Pt} : ltPt x y = false ↔ ¬ (x.f1 < y.f1 ∨ (x.f1 = y.f1 ∧ x.f0 < y.f0)) := by
  rw [← ltPt_iff]; simp
theorem ltPt_ntr {x y z : Pt} (h : ltPt x y = false) (h2 : ltPt y z = false) : ltPt x z = false := by
  rw [ltPt_nf] at *; omega
theorem ltPt_tri {x y : Pt} (h : ltPt x y = false) (h2 : ltPt y x = false) : x = y := by
  rw [ltPt_nf] at *
  obtain ⟨a, b⟩ := x
  obtain ⟨c, d⟩ := y
  simp only at *
  have e1 : b = d := by omega
  have e2 : a = c := by omega
  rw [e1, e2]
/-! a place is looked for from behind -/
def insK (x : Pt) (l : List Pt) : Nat → Nat
  | 0 => 0
  | k + 1 => if ltPt x (l.getD k ptD) = true then insK x l k else k + 1
theorem insK_le (x : Pt) (l : List Pt) (k : Nat) : insK x l k ≤ k := by
  induction k with
  | zero => exact Nat.le_refl _
  | succ k ih => unfold insK; split <;> omega
theorem insK_hi {x : Pt} {l : List Pt} : ∀ k j, insK x l k ≤ j → j < k → ltPt x (l.getD j ptD) = true := by
  intro k
  induction k with
  | zero => intro j _ h; omega
  | succ k ih =>
    intro j h1 h2
    unfold insK at h1
    split at h1
    · rename_i h
      rcases Nat.lt_or_ge j k with h3 | h3
      · exact ih j h1 h3
      · obtain rfl : j = k := by omega
        exact h
    · omega
theorem insK_lo {x : Pt} {l : List Pt} : ∀ k, 0 < insK x l k → ltPt x (l.getD (insK x l k - 1) ptD) = false := by
  intro k
  induction k with
  | zero => intro h; exact absurd h (by simp [insK])
  | succ k ih =>
    intro h
    unfold insK at h ⊢
    split
    · rename_i h2; rw [if_pos h2] at h; exact ih h
    · rename_i h2; simpa using h2
def insL (x : Pt) (l : List Pt) : List Pt := l.take (insK x l l.length) ++ x :: l.drop (insK x l l.length)
def srd (l : List Pt) : Prop := l.Pairwise fun a b => ltPt b a = false
theorem insL_perm (x : Pt) (l : List Pt) : (insL x l).Perm (x :: l) := by
  unfold insL
  refine List.perm_middle.trans ?_
  rw [List.take_append_drop]
theorem insL_srd {x : Pt} {l : List Pt} (h : srd l) : srd (insL x l) := by
  unfold srd insL at *
  have hk := insK_le x l l.length
  have hg : ∀ j, j < l.length → l.getD j ptD = l[j]?.getD ptD := fun j _ => by simp
  have hdrop : ∀ b ∈ l.drop (insK x l l.length), ltPt x b = true := by
    intro b hb
    obtain ⟨j, hj⟩ := List.mem_iff_getElem?.1 hb
    rw [List.getElem?_drop] at hj
    have hlt : insK x l l.length + j < l.length := by
      rcases Nat.lt_or_ge (insK x l l.length + j) l.length with h1 | h1
      · exact h1
      · rw [List.getElem?_eq_none h1] at hj; cases hj
    have := insK_hi (x := x) (l := l) l.length (insK x l l.length + j) (by omega) hlt
    rw [hg _ hlt, hj] at this
    exact this
  have htake : ∀ a ∈ l.take (insK x l l.length), ltPt x a = false := by
    intro a ha
    obtain ⟨j, hj⟩ := List.mem_iff_getElem?.1 ha
    have hjk : j < insK x l l.length := by
      rcases Nat.lt_or_ge j (insK x l l.length) with h1 | h1
      · exact h1
      · rw [List.getElem?_eq_none (by simp; omega)] at hj; cases hj
    rw [List.getElem?_take_of_lt hjk] at hj
    have hlo := insK_lo (x := x) (l := l) l.length (by omega)
    have hlast : insK x l l.length - 1 < l.length := by omega
    rw [hg _ hlast, List.getElem?_eq_getElem hlast, Option.getD_some] at hlo
    have hjl : j < l.length := by omega
    rw [List.getElem?_eq_getElem hjl] at hj
    obtain rfl := Option.some.inj hj
    rcases Nat.lt_or_ge j (insK x l l.length - 1) with h1 | h1
    · exact ltPt_ntr hlo (List.pairwise_iff_getElem.1 h j _ hjl hlast h1)
    · have : j = insK x l l.length - 1 := by omega
      subst this; exact hlo
  rw [List.pairwise_append]
  refine ⟨h.sublist (List.take_sublist ..), List.pairwise_cons.2 ⟨fun b hb => ?_, h.sublist (List.drop_sublist ..)⟩, fun a ha b hb => ?_⟩
  · cases hbx : ltPt b x
    · rfl
    · have := ltPt_tr hbx (hdrop b hb); rw [ltPt_irr] at this; cases this
  · rcases List.mem_cons.1 hb with rfl | hb
    · exact htake a ha
    · cases hba : ltPt b a
      · rfl
      · have := ltPt_tr (hdrop b hb) hba
        rw [htake a ha] at this; cases this
def insTo (d : List Pt) : Nat → List Pt
  | 0 => []
  | n + 1 => insL (d.getD n ptD) (insTo d n)
theorem insTo_perm (d : List Pt) : ∀ n, n ≤ d.length → (insTo d n).Perm (d.take n) := by
  intro n
  induction n with
  | zero => intro _; exact .refl _
  | succ n ih =>
    intro h
    have hg : d.getD n ptD = d[n] := by simp [show n < d.length by omega]
    unfold insTo
    rw [List.take_add_one, List.getElem?_eq_getElem (by omega), hg]
    exact (insL_perm _ _).trans (((ih (by omega)).cons _).trans (by
      have := List.perm_append_comm (l₁ := [d[n]]) (l₂ := d.take n)
      simpa using this))
theorem insTo_srd (d : List Pt) : ∀ n, srd (insTo d n) := by
  intro n
  induction n with
  | zero => exact List.Pairwise.nil
  | succ n ih => exact insL_srd ih
theorem insTo_le (D : List Pt) (n : Nat) : (insTo D n).length = n := by
  induction n with
  | zero => rfl
  | succ n ih => unfold insTo; rw [(insL_perm _ _).length_eq, List.length_cons, ih]
instance : Inhabited Pt := ⟨ptD⟩
theorem ins_srtP {d d' : List Pt} (hp : d'.Perm d) : srtL cfPt d' = insTo d d.length := by
  have p1 := srt_perm swoPt d'
  have p2 := insTo_perm d d.length (Nat.le_refl _)
  rw [List.take_length] at p2
  have s1 : (srtL cfPt d').Pairwise fun a b => ltPt b a = false := by
    have := srt_sorted swoPt d'
    simpa only [lt_cfPt] using this
  refine List.Perm.eq_of_pairwise (le := fun a b => ltPt b a = false) ?_ s1 (insTo_srd d d.length) ((p1.trans hp).trans p2.symm)
  intro a b ha hb h1 h2
  exact ltPt_tri h2 h1
def kPt (e : Ey) : Pt := ⟨e.1, e.2.1⟩
def rchD (l : List Ft) (p : Pt) (rank : Int) : List Pt := (far l p rank).map kPt
def rch (l : List Ft) (p : Pt) (rank : Int) : List Pt := if (wSrc l && M_IsPoint p.f0 p.f1) = true then insTo (rchD l p rank) (rchD l p rank).length else []
theorem pcE_kPt (m : List Ey) : pcE m = (m.map kPt).map cp := by simp [pcE, kPt, cp]
theorem rch_len (l : List Ft) (p : Pt) (rank : Int) : (rch l p rank).length ≤ 33 := by
  unfold rch
  split
  · rename_i h
    simp only [Bool.and_eq_true] at h
    rw [insTo_le]
    unfold rchD
    rw [List.length_map]
    exact far_len p rank h.1
  · simp
end Go.Eng
namespace Go.Eng
open Go Go.Proofs Go.Shelf Go.Sort Geo
set_option linter.unusedSimpArgs false
set_option linter.unusedVariables false
set_option maxRecDepth 100000

/-! slices.SortFunc at listings. WRITES -/
def rhoSortP : Ren := ⟨fun n => if n = 6 then 28 else if n = 14 then 43 else if n = 15 then 44 else if n = 20 then 55 else if n = 21 then 56 else if n = 22 then 57 else if n = 23 then 58 else if n = 24 then 59 else if n = 25 then 60 else if n = 26 then 61 else if n = 27 then 62 else if n = 28 then 63 else if n = 29 then 64 else if n = 46 then 74 else if n = 47 then 75 else if n = 48 then 76 else if n = 49 then 77 else if n = 50 then 78 else if n = 57 then 85 else 0, fun n => if n = 0 then 0 else if n = 3 then 3 else if n = 4 then 4 else if n = 5 then 5 else if n = 9 then 9 else if n = 22 then 34 else if n = 24 then 30 else if n = 25 then 58 else if n = 39 then 70 else if n = 45 then 79 else if n = 46 then 80 else if n = 50 then 26 else if n = 53 then 86 else if n = 55 then 88 else if n = 66 then 92 else if n = 70 then 96 else if n = 76 then 101 else if n = 77 then 102 else 0, fun n => n⟩
theorem LSortP : SlLaysF0.n6 Try.prog rhoSortP where
  mixed := by kernel_rfl
  f6 := ⟨fnm Try.prog 28, by kernel_rfl, by kernel_rfl⟩
  f14 := ⟨fnm Try.prog 43, by kernel_rfl, by kernel_rfl⟩
  f15 := by kernel_rfl
  f20 := ⟨fnm Try.prog 55, by kernel_rfl, by kernel_rfl⟩
  f21 := ⟨fnm Try.prog 56, by kernel_rfl, by kernel_rfl⟩
  f22 := ⟨fnm Try.prog 57, by kernel_rfl, by kernel_rfl⟩
  f23 := ⟨fnm Try.prog 58, by kernel_rfl, by kernel_rfl⟩
  f24 := ⟨fnm Try.prog 59, by kernel_rfl, by kernel_rfl⟩
  f25 := ⟨fnm Try.prog 60, by kernel_rfl, by kernel_rfl⟩
  f26 := ⟨fnm Try.prog 61, by kernel_rfl, by kernel_rfl⟩
  f27 := ⟨fnm Try.prog 62, by kernel_rfl, by kernel_rfl⟩
  f28 := by kernel_rfl
  f29 := by kernel_rfl
  f46 := ⟨fnm Try.prog 74, by kernel_rfl, by kernel_rfl⟩
  f47 := by kernel_rfl
  f48 := by kernel_rfl
  f49 := ⟨fnm Try.prog 77, by kernel_rfl, by kernel_rfl⟩
  f50 := ⟨fnm Try.prog 78, by kernel_rfl, by kernel_rfl⟩
  f57 := ⟨fnm Try.prog 85, by kernel_rfl, by kernel_rfl⟩
  t0 := by kernel_rfl
  a0 := fun _ => by kernel_rfl
  z0 := fun _ => by kernel_rfl
  v0 := fun _ => by kernel_rfl
  t3 := by kernel_rfl
  a3 := fun _ => by kernel_rfl
  z3 := fun _ => by kernel_rfl
  v3 := fun _ => by kernel_rfl
  t4 := by kernel_rfl
  a4 := fun _ => by kernel_rfl
  z4 := fun _ => by kernel_rfl
  v4 := fun _ => by kernel_rfl
  t5 := by kernel_rfl
  a5 := fun _ => by kernel_rfl
  z5 := fun _ => by kernel_rfl
  v5 := fun _ => by kernel_rfl
  t9 := by kernel_rfl
  a9 := fun _ => by kernel_rfl
  z9 := fun _ => by kernel_rfl
  v9 := fun _ => by kernel_rfl
  t22 := by kernel_rfl
  a22 := fun _ => by kernel_rfl
  z22 := fun _ => by kernel_rfl
  v22 := fun _ => by kernel_rfl
  t25 := by kernel_rfl
  a25 := fun _ => by kernel_rfl
  z25 := fun _ => by kernel_rfl
  v25 := fun _ => by kernel_rfl
  t39 := by kernel_rfl
  a39 := fun _ => by kernel_rfl
  z39 := fun _ => by kernel_rfl
  v39 := fun _ => by kernel_rfl
  t45 := by kernel_rfl
  a45 := fun _ => by kernel_rfl
  z45 := fun _ => by kernel_rfl
  v45 := fun _ => by kernel_rfl
  t46 := by kernel_rfl
  a46 := fun _ => by kernel_rfl
  z46 := fun _ => by kernel_rfl
  v46 := fun _ => by kernel_rfl
  t50 := by kernel_rfl
  a50 := fun _ => by kernel_rfl
  z50 := fun _ => by kernel_rfl
  v50 := fun _ => by kernel_rfl
  t53 := by kernel_rfl
  a53 := fun _ => by kernel_rfl
  z53 := fun _ => by kernel_rfl
  v53 := fun _ => by kernel_rfl
  t55 := by kernel_rfl
  a55 := fun _ => by kernel_rfl
  z55 := fun _ => by kernel_rfl
  v55 := fun _ => by kernel_rfl
  t66 := by kernel_rfl
  a66 := fun _ => by kernel_rfl
  z66 := fun _ => by kernel_rfl
  v66 := fun _ => by kernel_rfl
  t70 := by kernel_rfl
  a70 := fun _ => by kernel_rfl
  z70 := fun _ => by kernel_rfl
  v70 := fun _ => by kernel_rfl
  t76 := by kernel_rfl
  a76 := fun _ => by kernel_rfl
  z76 := fun _ => by kernel_rfl
  v76 := fun _ => by kernel_rfl
  t77 := by kernel_rfl
  a77 := fun _ => by kernel_rfl
  z77 := fun _ => by kernel_rfl
  v77 := fun _ => by kernel_rfl
theorem f28 (nl : Bool) (d : List Pt) (hsz : d.length < 4611686018427387904) :
    FnM Try.prog 28 [.lst 2 nl (d.map cp), .fn 29 []] (.tup []) (.lst 2 nl ((srtL cfPt d).map cp)) := by
  refine sort_M (k := 2) LSortP (by omega) (fun _ => by kernel_rfl) (fun _ => by kernel_rfl) encPt cp (fun _ => rfl) ?_ ?_ ?_ ?_ cfPt swoPt 29 (by kernel_rfl) (fun x y W => w29 x y W) (by kernel_rfl) nl d hsz
  · intro x v hv
    simp [encPt] at hv
    rcases hv with rfl | rfl <;> rfl
  · intro w x
    exact .cons (.int _ _) (.cons (.int _ _) .nil)
  · intro w x ys F h
    obtain ⟨a, r, F1, F2, rfl, rfl, h1, h2⟩ := RepL.cons_inv h
    obtain ⟨b, r2, F3, F4, rfl, rfl, h3, h4⟩ := RepL.cons_inv h2
    obtain ⟨rfl, rfl⟩ := h4.nil_inv
    obtain ⟨rfl, rfl⟩ := h1.int_inv
    obtain ⟨rfl, rfl⟩ := h3.int_inv
    exact ⟨rfl, rfl⟩
  · intro x c hc
    simp [cp] at hc
    rcases hc with rfl | rfl <;> rfl
end Go.Eng
namespace Go.Eng
open Go Go.Proofs Geo
set_option linter.unusedSimpArgs false
set_option linter.unusedVariables false
set_option maxRecDepth 20000
set_option maxHeartbeats 2000000

/-! what can be reached: the model's -/
theorem f27 (x y : Pt) : Fn Try.prog 27 false [.agg (cp x), .agg (cp y)] (.bool (ltPt x y)) := by
  have hl : ltPt x y = (decide (x.f1 < y.f1) || (decide (x.f1 = y.f1) && decide (x.f0 < y.f0))) := rfl
  unfold cp
  by_cases h1 : x.f1 < y.f1
  · have hr : ltPt x y = true := by simp [hl, h1]
    rw [hr]
    refine Fn.by_sx hX (by kernel_rfl) c27 (by kernel_rfl) (by rfl) ?_
    simp [i27, sxa, sxb, sxc, Ex.ok, Ex.val, ← wr_eq]
    repeat' (first | intro _ | (simp [sxa, sxb, sxc, Ex.ok, Ex.val, ← wr_eq, *]) | refine CondS_d ?_ ?_ | refine CondS_b ?_ ?_ | refine GrdS_d ?_ ?_ | refine GrdS_b ?_ ?_ | refine OkS_i (by omega) ?_ | refine OkS_i ⟨by omega, by assumption⟩ ?_ | refine OkS_i ⟨by omega, by assumption, by assumption⟩ ?_ | fail)
    all_goals omega
  · by_cases h2 : x.f1 = y.f1
    · by_cases h3 : x.f0 < y.f0
      · have hr : ltPt x y = true := by simp [hl, h2, h3]
        rw [hr]
        refine Fn.by_sx hX (by kernel_rfl) c27 (by kernel_rfl) (by rfl) ?_
        simp [i27, sxa, sxb, sxc, Ex.ok, Ex.val, ← wr_eq]
        repeat' (first | intro _ | (simp [sxa, sxb, sxc, Ex.ok, Ex.val, ← wr_eq, *]) | refine CondS_d ?_ ?_ | refine CondS_b ?_ ?_ | refine GrdS_d ?_ ?_ | refine GrdS_b ?_ ?_ | refine OkS_i (by omega) ?_ | refine OkS_i ⟨by omega, by assumption⟩ ?_ | refine OkS_i ⟨by omega, by assumption, by assumption⟩ ?_ | fail)
        all_goals omega
      · have hr : ltPt x y = false := by simp [hl, h2, h3]
        rw [hr]
        refine Fn.by_sx hX (by kernel_rfl) c27 (by kernel_rfl) (by rfl) ?_
        simp [i27, sxa, sxb, sxc, Ex.ok, Ex.val, ← wr_eq]
        repeat' (first | intro _ | (simp [sxa, sxb, sxc, Ex.ok, Ex.val, ← wr_eq, *]) | refine CondS_d ?_ ?_ | refine CondS_b ?_ ?_ | refine GrdS_d ?_ ?_ | refine GrdS_b ?_ ?_ | refine OkS_i (by omega) ?_ | refine OkS_i ⟨by omega, by assumption⟩ ?_ | refine OkS_i ⟨by omega, by assumption, by assumption⟩ ?_ | fail)
        all_goals omega
    · have hr : ltPt x y = false := by simp [hl, h1, h2]
      rw [hr]
      refine Fn.by_sx hX (by kernel_rfl) c27 (by kernel_rfl) (by rfl) ?_
      simp [i27, sxa, sxb, sxc, Ex.ok, Ex.val, ← wr_eq]
      repeat' (first | intro _ | (simp [sxa, sxb, sxc, Ex.ok, Ex.val, ← wr_eq, *]) | refine CondS_d ?_ ?_ | refine CondS_b ?_ ?_ | refine GrdS_d ?_ ?_ | refine GrdS_b ?_ ?_ | refine OkS_i (by omega) ?_ | refine OkS_i ⟨by omega, by assumption⟩ ?_ | refine OkS_i ⟨by omega, by assumption, by assumption⟩ ?_ | fail)
      all_goals omega
theorem l11_2 {D O : List Pt} {n : Nat} {x : Pt} {V : Env} (hn : n < D.length) (hx : D[n] = x) (hO : O.length ≤ 2000000) (hD : D.length ≤ 2000000) (h7 : V 7 = .lst 2 false (O.map cp)) (h8 : V 8 = .lst 2 false (D.map cp)) (h10 : V 10 = i n) (h11 : V 11 = i O.length) :
    sx (FC Try.prog) (.loop (.seq (.seq (.ops [s 37 (.mv (t 11)),
  s 38 (.bin .gtr (t 37) (c (i 0))),
  s 39 (.mv (t 38)),
  sg [(39, true)] 40 (.mv (t 8)),
  sg [(39, true)] 41 (.mv (t 10)),
  sg [(39, true)] 42 (.idx (t 40) (t 41) 2),
  sg [(39, true)] 43 (.ldE 40 42 0 2 true true 2),
  sg [(39, true)] 44 (.mv (t 7)),
  sg [(39, true)] 45 (.mv (t 11)),
  sg [(39, true)] 46 (.bin .sub (t 45) (c (i 1))),
  sg [(39, true)] 47 (.idx (t 44) (t 46) 2),
  sg [(39, true)] 48 (.ldE 44 47 0 2 true true 2),
  kg [(39, true)] 49 27 [(t 43), (t 48)] .sc,
  s 50 (.pick (t 39) (t 49) (c (.bool false)))])
 (.cond (t 50) .skip (.exit 2)))
 (.block 3 (.ops [s 51 (.mv (t 11)),
  s 52 (.bin .sub (t 51) (c (i 1))),
  s 11 (.mv (t 52))])))) (fun y V' => y = .exit 2 ∧ V' 7 = V 7 ∧ V' 8 = V 8 ∧ V' 10 = V 10 ∧ V' 11 = i (insK x O O.length : Nat)) V := by
  refine sx_down (fun m V' => m ≤ O.length ∧ V' 7 = V 7 ∧ V' 8 = V 8 ∧ V' 10 = V 10 ∧ V' 11 = i m ∧ insK x O m = insK x O O.length) O.length ⟨Nat.le_refl _, rfl, rfl, rfl, h11, rfl⟩ ?_
  rintro m V' ⟨hm, g7, g8, g10, g11, hk⟩
  rw [h7] at g7
  rw [h8] at g8
  rw [h10] at g10
  cases m with
  | zero =>
    have hk0 : insK x O O.length = 0 := by rw [← hk]; rfl
    clear hk
    repeat' (first | intro _ | (simp [sxa, sxb, sxc, Ex.ok, Ex.val, ← wr_eq, *]) | refine CondS_d ?_ ?_ | refine CondS_b ?_ ?_ | refine GrdS_d ?_ ?_ | refine GrdS_b ?_ ?_ | refine OkS_i (by omega) ?_ | refine OkS_i ⟨by omega, by assumption⟩ ?_ | refine OkS_i ⟨by omega, by assumption, by assumption⟩ ?_ | fail)
  | succ m =>
    have hlt : m < O.length := by omega
    have hw : wr .i64 (((m + 1 : Nat) : Int) - 1) = m := by rw [wr_in (by omega) (by omega)]; omega
    have hgd : O.getD m ptD = O[m] := by simp [hlt]
    have hpos : (0 : Int) < ((m + 1 : Nat) : Int) := by omega
    rw [insK, hgd] at hk
    have cb := f27 x O[m]
    obtain ⟨N, hN⟩ : ∃ N : Int, ((m + 1 : Nat) : Int) = N := ⟨_, rfl⟩
    rw [hN] at g11 hw hpos
    obtain ⟨K, hK⟩ : ∃ K, insK x O O.length = K := ⟨_, rfl⟩
    rw [hK] at hk ⊢
    have hxx : D[n] = x := hx
    by_cases b1 : ltPt x O[m] = true
    · rw [if_pos b1] at hk
      rw [b1] at cb
      unfold cp at *
      repeat' (first | intro _ | (simp [sxa, sxb, sxc, Ex.ok, Ex.val, ← wr_eq, *]) | refine CallS_i (cb) ?_ | refine CondS_d ?_ ?_ | refine CondS_b ?_ ?_ | refine GrdS_d ?_ ?_ | refine GrdS_b ?_ ?_ | refine OkS_i (by omega) ?_ | refine OkS_i ⟨by omega, by assumption⟩ ?_ | refine OkS_i ⟨by omega, by assumption, by assumption⟩ ?_ | fail)
      all_goals (first | omega | exact ⟨m, by omega, by omega, rfl, hk⟩ | simp_all)
    · rw [if_neg b1] at hk
      have b1' : ltPt x O[m] = false := by simpa using b1
      rw [b1'] at cb
      unfold cp at *
      repeat' (first | intro _ | (simp [sxa, sxb, sxc, Ex.ok, Ex.val, ← wr_eq, *]) | refine CallS_i (cb) ?_ | refine CondS_d ?_ ?_ | refine CondS_b ?_ ?_ | refine GrdS_d ?_ ?_ | refine GrdS_b ?_ ?_ | refine OkS_i (by omega) ?_ | refine OkS_i ⟨by omega, by assumption⟩ ?_ | refine OkS_i ⟨by omega, by assumption, by assumption⟩ ?_ | fail)
      all_goals (first | omega | simp_all)
theorem f11 (l : List Ft) (a : Pt) (rank : Int) (n1 : Bool) (hl : l.length ≤ 1000000000000) (hx : ∀ x ∈ l, x.okay) : Fn Try.prog 11 true [.lst 5 n1 (l.map ft), .agg (cp a), i rank] (.lst 2 false ((rch l a rank).map cp)) := by
  have c1 := f18 l n1 hl hx
  have c2 := f19 a.f0 a.f1
  have hsh : rch l a rank = if (wSrc l && M_IsPoint a.f0 a.f1) = true then insTo (rchD l a rank) (rchD l a rank).length else [] := rfl
  obtain ⟨R, hR⟩ : ∃ R, rch l a rank = R := ⟨_, rfl⟩
  rw [hR] at hsh ⊢
  clear hR
  cases hs : wSrc l with
  | false =>
    rw [hs] at c1 hsh
    simp only [Bool.false_and, Bool.false_eq_true, if_false] at hsh
    subst hsh
    unfold cp
    clear c2
    refine Fn.by_sx hX (by kernel_rfl) c11 (by kernel_rfl) (by rfl) ?_
    simp [i11, sxa, sxb, sxc, Ex.ok, Ex.val, ← wr_eq]
    repeat' (first | intro _ | (simp [sxa, sxb, sxc, Ex.ok, Ex.val, ← wr_eq, *]) | refine CallS_i (c1) ?_ | refine CondS_d ?_ ?_ | refine CondS_b ?_ ?_ | refine GrdS_d ?_ ?_ | refine GrdS_b ?_ ?_ | refine OkS_i (by omega) ?_ | refine OkS_i ⟨by omega, by assumption⟩ ?_ | refine OkS_i ⟨by omega, by assumption, by assumption⟩ ?_ | fail)
  | true =>
  rw [hs] at c1 hsh
  cases ha : M_IsPoint a.f0 a.f1 with
  | false =>
    rw [ha] at c2 hsh
    simp only [Bool.and_false, Bool.false_eq_true, if_false] at hsh
    subst hsh
    unfold cp
    refine Fn.by_sx hX (by kernel_rfl) c11 (by kernel_rfl) (by rfl) ?_
    simp [i11, sxa, sxb, sxc, Ex.ok, Ex.val, ← wr_eq]
    repeat' (first | intro _ | (simp [sxa, sxb, sxc, Ex.ok, Ex.val, ← wr_eq, *]) | refine CallS_i (c1) ?_ | refine CallS_i (c2) ?_ | refine CondS_d ?_ ?_ | refine CondS_b ?_ ?_ | refine GrdS_d ?_ ?_ | refine GrdS_b ?_ ?_ | refine OkS_i (by omega) ?_ | refine OkS_i ⟨by omega, by assumption⟩ ?_ | refine OkS_i ⟨by omega, by assumption, by assumption⟩ ?_ | fail)
  | true =>
  rw [ha] at c2 hsh
  simp only [Bool.and_self, if_true] at hsh
  have hlen := far_len a rank hs
  have c4 := f20 l a rank n1 hl hs
  rw [pcE_kPt] at c4
  have hDl : (rchD l a rank).length = (far l a rank).length := by unfold rchD; rw [List.length_map]
  have hDe : (far l a rank).map kPt = rchD l a rank := rfl
  rw [hDe] at c4
  obtain ⟨D, hD⟩ : ∃ D, rchD l a rank = D := ⟨_, rfl⟩
  rw [hD] at c4 hsh hDl
  clear hDe hD
  have hD33 : D.length ≤ 33 := by omega
  clear hDl
  subst hsh
  have hcp : cp a = [i a.f0, i a.f1] := rfl
  rw [hcp] at c4 ⊢
  refine Fn.by_sx hX (by kernel_rfl) c11 (by kernel_rfl) (by rfl) ?_
  simp [i11, sxa, sxb, sxc, Ex.ok, Ex.val, ← wr_eq]
  refine CallS_i c1 ?_
  simp [sxa, sxb, sxc, Ex.ok, Ex.val, ← wr_eq]
  refine CallS_i c2 ?_
  simp [sxa, sxb, sxc, Ex.ok, Ex.val, ← wr_eq]
  refine CallS_i c4 ?_
  simp [sxa, sxb, sxc, Ex.ok, Ex.val, ← wr_eq]
  refine sx_count D.length (fun n V => V 8 = .lst 2 false (D.map cp) ∧ V 10 = i n ∧ V 7 = .lst 2 false ((insTo D n).map cp)) 0 (by omega) (by simp [sxa, sxb, sxc, Ex.ok, Ex.val, ← wr_eq, insTo, cp]) ?_
  rintro n V hn ⟨g8, g10, g7⟩
  simp [sxa, sxb, sxc, Ex.ok, Ex.val, ← wr_eq, g8, g10]
  refine CondS_d (fun hlt => ?_) (fun hge => ?_)
  · have hlt' : n < D.length := by omega
    have hw : wr .i64 ((n : Int) + 1) = n + 1 := wr_in (by omega) (by omega)
    have hll := insTo_le D n
    have hs2 : insTo D (n + 1) = insL D[n] (insTo D n) := by simp [insTo, hlt']
    obtain ⟨O, hO⟩ : ∃ O, insTo D n = O := ⟨_, rfl⟩
    rw [hO] at hs2 g7 hll
    clear hO
    simp [sxa, sxb, sxc, Ex.ok, Ex.val, ← wr_eq, g7, g8, g10]
    refine sx_mono _ _ _ _ ?_ (l11_2 (D := D) (O := O) (n := n) (x := D[n]) hlt' rfl (by omega) (by omega) (by simp [sxa, sxb, sxc, Ex.ok, Ex.val, ← wr_eq, g7]) (by simp [sxa, sxb, sxc, Ex.ok, Ex.val, ← wr_eq, g8]) (by simp [sxa, sxb, sxc, Ex.ok, Ex.val, ← wr_eq, g10]) (by simp [sxa, sxb, sxc, Ex.ok, Ex.val, ← wr_eq]))
    rintro y V' ⟨rfl, e7, e8, e10, e11⟩
    have hKl := insK_le D[n] O O.length
    obtain ⟨K, hK⟩ : ∃ K, insK D[n] O O.length = K := ⟨_, rfl⟩
    have hins : insL D[n] O = O.take K ++ D[n] :: O.drop K := by unfold insL; rw [hK]
    rw [hK] at e11 hKl
    simp [sxa, sxb, sxc, Ex.ok, Ex.val, ← wr_eq, g7, g8, g10] at e7 e8 e10
    clear hK
    have hsc : ∀ cs ∈ O.map cp, scL cs = true := by
      intro cs h
      obtain ⟨z, _, rfl⟩ := List.mem_map.1 h
      rfl
    repeat' (first | intro _ | (simp [sxa, sxb, sxc, Ex.ok, Ex.val, ← wr_eq, *]) | refine CondS_d ?_ ?_ | refine CondS_b ?_ ?_ | refine GrdS_d ?_ ?_ | refine GrdS_b ?_ ?_ | refine OkS_i (by omega) ?_ | refine OkS_i ⟨by omega, by assumption⟩ ?_ | refine OkS_i ⟨by omega, by assumption, by assumption⟩ ?_ | fail)
    refine OkS_i ⟨by omega, fun cs h => hsc cs (List.mem_of_mem_take h)⟩ ?_
    have htk : List.take n (List.map cp O) = List.map cp O := List.take_of_length_le (by rw [List.length_map]; omega)
    repeat' (first | intro _ | (simp [sxa, sxb, sxc, Ex.ok, Ex.val, ← wr_eq, cp, *]) | refine CondS_d ?_ ?_ | refine CondS_b ?_ ?_ | refine GrdS_d ?_ ?_ | refine GrdS_b ?_ ?_ | refine OkS_i (by omega) ?_ | refine OkS_i ⟨by omega, by assumption⟩ ?_ | refine OkS_i ⟨by omega, by assumption, by assumption⟩ ?_ | fail)
    refine OkS_i ⟨by omega, fun cs h => ?_, fun cs h => hsc cs (List.mem_of_mem_drop h)⟩ ?_
    · rcases h with h | rfl
      · exact hsc cs (List.mem_of_mem_take h)
      · rfl
    repeat' (first | intro _ | (simp [sxa, sxb, sxc, Ex.ok, Ex.val, ← wr_eq, cp, *]) | refine CondS_d ?_ ?_ | refine CondS_b ?_ ?_ | refine GrdS_d ?_ ?_ | refine GrdS_b ?_ ?_ | refine OkS_i (by omega) ?_ | refine OkS_i ⟨by omega, by assumption⟩ ?_ | refine OkS_i ⟨by omega, by assumption, by assumption⟩ ?_ | fail)
  · have : n = D.length := by omega
    subst this
    repeat' (first | intro _ | (simp [sxa, sxb, sxc, Ex.ok, Ex.val, ← wr_eq, *]) | refine CondS_d ?_ ?_ | refine CondS_b ?_ ?_ | refine GrdS_d ?_ ?_ | refine GrdS_b ?_ ?_ | refine OkS_i (by omega) ?_ | refine OkS_i ⟨by omega, by assumption⟩ ?_ | refine OkS_i ⟨by omega, by assumption, by assumption⟩ ?_ | fail)
end Go.Eng
namespace Go.Eng
open Go Go.Proofs Geo Go.RowKit
set_option linter.unusedSimpArgs false
set_option linter.unusedVariables false
set_option maxRecDepth 100000
set_option maxHeartbeats 4000000

/-! what can be reached: the program's, walked. WRITES -/
theorem below_keepsR {B : Nat} {w w' : World} (h : Below B w w') {F : Foot} (hF : ∀ g ∈ F, g.1 < B) : Keeps w w' F := fun e he =>
  ⟨fun o _ => by simp only [World.cell?, h.block e.1 (hF e he)], fun arr ty fr hh => ⟨arr, fr, (h.block e.1 (hF e he)).trans hh, rfl⟩⟩
theorem below_invR {P : Program} {w w' : World} (h : Below w.heap.size w w') (hi : Inv P w) : Inv P w' :=
  (InvB.keep w w' (fun k hk => h.block k (by simp at hk; omega)) (InvB.of hi)).1
theorem below_weakR {B C : Nat} {w w' : World} (h : Below C w w') (hB : B ≤ C) : Below B w w' := ⟨h.os, h.tape, h.output, h.size, fun k hk => h.block k (by omega)⟩
def kp0 (v : Value) : Pt := match v with | .agg #[.int _ a, .int _ b] => ⟨a, b⟩ | _ => ptD
def kpE (e : MapEntry) : Pt := kp0 e.key
theorem perm_pick {e : MapEntry} : ∀ {L : List MapEntry}, (L.map (·.born)).Nodup → e ∈ L → L.Perm (e :: L.filter (fun x => x.born != e.born))
  | [], _, he => by cases he
  | x :: L, hn, he => by
    obtain ⟨h1, h2⟩ := List.nodup_cons.1 hn
    rcases List.mem_cons.1 he with rfl | he
    · have : L.filter (fun x => x.born != e.born) = L := List.filter_eq_self.2 (fun y hy => by
        simp only [bne_iff_ne, ne_eq]
        intro hh
        exact h1 (List.mem_map.2 ⟨y, hy, hh⟩))
      simp [this]
    · have hx : (x.born != e.born) = true := by
        simp only [bne_iff_ne, ne_eq]
        intro hh
        exact h1 (List.mem_map.2 ⟨e, he, hh.symm⟩)
      rw [List.filter_cons, if_pos hx]
      exact ((perm_pick h2 he).cons x).trans (List.Perm.swap ..)
theorem left_push (es : Array MapEntry) (seen : Array Nat) (b : Nat) : (leftOf es (seen.push b)).toList = (leftOf es seen).toList.filter (fun x => x.born != b) := by
  unfold leftOf
  rw [Array.toList_filter, Array.toList_filter, List.filter_filter]
  congr 1
  funext x
  rw [contains_push]
  cases seen.contains x.born <;> cases h : x.born == b <;> simp [bne, h]
theorem repl_pts {W : World} : ∀ (ks : List Pt), RepL W (ks.map cp).flatten (ks.flatMap encPt) []
  | [] => .nil
  | p :: ks => by
    have h1 : RepL W (cp p) (encPt p) [] := .cons (F := []) (.int _ _) (.cons (F := []) (.int _ _) .nil)
    have := h1.append (repl_pts ks)
    simpa using this
theorem pts_row {W : World} {base e n : Nat} {v : Value} {ks : List Pt} (hn : n = ks.length) (h : W.ownsRow base e 2 v n (ks.flatMap encPt)) (hv : v ≠ .slice none 0 0) :
    ∃ g k, Rep W (.lst 2 false (ks.map cp)) v [(g, k)] ∧ v.ownBlock = some g ∧ base ≤ g ∧ g < W.heap.size ∧ Unfrozen W g := by
  subst hn
  obtain ⟨hlen, h⟩ := h
  rcases h with ⟨rfl, _⟩ | ⟨g, cap, cur, rfl, hbg, hg, hnc, hcm, hcs, htake⟩
  · exact absurd rfl hv
  · have hgs : g < W.heap.size := by
      rcases Nat.lt_or_ge g W.heap.size with h | h
      · exact h
      · rw [Array.getElem?_eq_none h] at hg; cases hg
    refine ⟨g, 0 + (ks.map cp).length * 2, ?_, rfl, hbg, hgs, ⟨cur, e, hg⟩⟩
    have hm : Mem W ⟨g, 0, none⟩ (ks.flatMap encPt) := by
      intro j x hx
      rw [addr_add_plain rfl]
      simp only [World.cell?, hg, Nat.zero_add]
      rw [← htake] at hx
      have hj : j < ks.length * 2 := by
        rcases Nat.lt_or_ge j (ks.length * 2) with h | h
        · exact h
        · rw [List.getElem?_eq_none (by simp; omega)] at hx; cases hx
      rw [List.getElem?_take_of_lt hj] at hx
      simpa using hx
    have hr := Rep.lst (w := W) (sz := 2) (els := ks.map cp) (a := ⟨g, 0, none⟩) (c := cap) ⟨rfl, cur, e, (0, 0), hg, by simp only; omega⟩ (by simpa using hnc) (fun cs hcs => by obtain ⟨z, _, rfl⟩ := List.mem_map.1 hcs; rfl)
      (fun cs hcs c hc => by
        obtain ⟨z, _, rfl⟩ := List.mem_map.1 hcs
        simp [cp] at hc
        rcases hc with rfl | rfl <;> rfl) hm (repl_pts ks)
    simpa using hr
theorem f12 (l : List Ft) (a : Pt) (rank : Int) (n1 : Bool) (hl : l.length ≤ 1000000000000) (hx : ∀ x ∈ l, x.okay) : Fn Try.prog 12 true [.lst 5 n1 (l.map ft), .agg (cp a), i rank] (.lst 2 false ((rch l a rank).map cp)) := by
  have c1 := f23 l n1 hl hx
  have c2 := f24 a.f0 a.f1
  have hsh : rch l a rank = if (wSrc l && M_IsPoint a.f0 a.f1) = true then insTo (rchD l a rank) (rchD l a rank).length else [] := rfl
  obtain ⟨R, hR⟩ : ∃ R, rch l a rank = R := ⟨_, rfl⟩
  rw [hR] at hsh ⊢
  clear hR
  refine ⟨by kernel_rfl, ?_⟩
  intro w xs Fs hi hr hlt
  obtain ⟨xl, r1, Fl, F1, rfl, rfl, hrl, hr1⟩ := hr.cons_inv
  obtain ⟨xa, r2, Fa, F2, rfl, rfl, hra, hr2⟩ := hr1.cons_inv
  obtain ⟨xr, r4, Fr, F4, rfl, rfl, hrr, hr4⟩ := hr2.cons_inv
  obtain ⟨rfl, rfl⟩ := hr4.nil_inv
  obtain ⟨rfl, rfl⟩ : xa = .agg #[.int .i64 a.f0, .int .i64 a.f1] ∧ Fa = [] := by
    cases hra with
    | agg t =>
      obtain ⟨_, _, _, _, rfl, rfl, h1, h2⟩ := t.cons_inv
      obtain ⟨_, _, _, _, rfl, rfl, h3, h4⟩ := h2.cons_inv
      obtain ⟨rfl, rfl⟩ := h4.nil_inv
      obtain ⟨rfl, rfl⟩ := h1.int_inv
      obtain ⟨rfl, rfl⟩ := h3.int_inv
      exact ⟨rfl, rfl⟩
  obtain ⟨rfl, rfl⟩ := hrr.int_inv
  clear hr hr1 hr2 hra hrr
  simp only [List.append_nil, List.nil_append] at hlt
  go_enter Try.func12, Try.ntmps12
  go_wp
  have bA : Below w.heap.size w ((w.alloc (.cells #[.int .i64 a.f0, .int .i64 a.f1] 30)).alloc (.cells #[] 30)) :=
    ⟨rfl, rfl, rfl, by rw [alloc_size, alloc_size]; omega, fun k hk => by rw [alloc_blocks _ _ _ (by rw [alloc_size]; omega), alloc_blocks _ _ _ hk]⟩
  have hA : ((w.alloc (.cells #[.int .i64 a.f0, .int .i64 a.f1] 30)).alloc (.cells #[] 30)).heap[w.heap.size]? = some (.cells #[.int .i64 a.f0, .int .i64 a.f1] 30 (0, 0)) := by
    rw [alloc_blocks _ _ _ (by rw [alloc_size]; omega)]; exact alloc_new w _
  have hB : ((w.alloc (.cells #[.int .i64 a.f0, .int .i64 a.f1] 30)).alloc (.cells #[] 30)).heap[w.heap.size + 1]? = some (.cells #[] 30 (0, 0)) := by
    have := alloc_new (w.alloc (.cells #[.int .i64 a.f0, .int .i64 a.f1] 30)) (.cells #[] 30)
    rw [alloc_size] at this
    exact this
  have hz : w.heap.size + 1 < ((w.alloc (.cells #[.int .i64 a.f0, .int .i64 a.f1] 30)).alloc (.cells #[] 30)).heap.size := by rw [alloc_size, alloc_size]; omega
  generalize ((w.alloc (.cells #[.int .i64 a.f0, .int .i64 a.f1] 30)).alloc (.cells #[] 30)) = wA at *
  have iA := below_invR bA hi
  replace hrl := hrl.keep (below_keepsR bA hlt)
  have hl0 : ∀ g ∈ Fl, g.1 < wA.heap.size := fun g hg => Nat.lt_of_lt_of_le (hlt g hg) bA.size
  refine (c1.2 wA [xl] Fl iA (RepL.one hrl) hl0).mono ?_
  rintro e w1 ⟨x, F', rfl, hx, b1, _, _⟩
  obtain ⟨rfl, rfl⟩ := hx.bool_inv
  clear hx
  have i1 := below_invR b1 iA
  replace hrl := hrl.keep (below_keepsR b1 hl0)
  replace hl0 : ∀ g ∈ Fl, g.1 < w1.heap.size := fun g hg => Nat.lt_of_lt_of_le (hl0 g hg) b1.size
  replace hA : w1.heap[w.heap.size]? = some (.cells #[.int .i64 a.f0, .int .i64 a.f1] 30 (0, 0)) := by rw [b1.block _ (by omega)]; exact hA
  replace hB : w1.heap[w.heap.size + 1]? = some (.cells #[] 30 (0, 0)) := by rw [b1.block _ (by omega)]; exact hB
  replace hz : w.heap.size + 1 < w1.heap.size := Nat.lt_of_lt_of_le hz b1.size
  replace b1 := bA.trans (below_weakR b1 bA.size)
  dsimp only
  have empty : ∀ {W : World}, Below w.heap.size w W → W.heap[w.heap.size + 1]? = some (.cells #[] 30 (0, 0)) → ∃ x F', Ending.returned (Value.slice (some ⟨w.heap.size + 1, 0, none⟩) 0 0) = .returned x ∧ Rep W (.lst 2 false (([] : List Pt).map cp)) x F' ∧ Below w.heap.size w W ∧ (∀ g ∈ F', g.1 < W.heap.size) ∧
      if True then (∀ g ∈ F', w.heap.size ≤ g.1 ∧ Unfrozen W g.1) ∧ (F'.map (·.1)).Nodup else ∀ g ∈ F', w.heap.size ≤ g.1 ∨ ∃ g' ∈ (Fl ++ [] : Foot), g'.1 = g.1 ∧ g.2 ≤ g'.2 :=
    fun b _ => ⟨_, [], rfl, .emp 2 _, b, by simp, by simp⟩
  cases hs : wSrc l with
  | false =>
    rw [hs] at hsh
    simp only [Bool.false_and, Bool.false_eq_true, if_false] at hsh
    subst hsh
    go_wp
    go_ret
    simpa using empty b1 hB
  | true =>
  rw [hs] at hsh
  have a0 : w1.cell? ⟨w.heap.size, 0, none⟩ = some (.int .i64 a.f0) := by simp [World.cell?, hA]
  have a1 : w1.cell? ⟨w.heap.size, 1, none⟩ = some (.int .i64 a.f1) := by simp [World.cell?, hA]
  go_wp
  refine (c2.2 w1 [.agg #[.int .i64 a.f0, .int .i64 a.f1]] [] i1 (RepL.one (.agg (.cons (F := []) (.int _ _) (.cons (F := []) (.int _ _) .nil)))) (by simp)).mono ?_
  clear a0 a1
  rintro e w2 ⟨x, F', rfl, hx, b2, _, _⟩
  obtain ⟨rfl, rfl⟩ := hx.bool_inv
  clear hx
  have i2 := below_invR b2 i1
  replace hrl := hrl.keep (below_keepsR b2 hl0)
  replace hl0 : ∀ g ∈ Fl, g.1 < w2.heap.size := fun g hg => Nat.lt_of_lt_of_le (hl0 g hg) b2.size
  replace hA : w2.heap[w.heap.size]? = some (.cells #[.int .i64 a.f0, .int .i64 a.f1] 30 (0, 0)) := by rw [b2.block _ (by omega)]; exact hA
  replace hB : w2.heap[w.heap.size + 1]? = some (.cells #[] 30 (0, 0)) := by rw [b2.block _ (by omega)]; exact hB
  replace hz : w.heap.size + 1 < w2.heap.size := Nat.lt_of_lt_of_le hz b2.size
  replace b2 := b1.trans (below_weakR b2 b1.size)
  dsimp only
  cases ha : M_IsPoint a.f0 a.f1 with
  | false =>
    rw [ha] at hsh
    simp only [Bool.and_false, Bool.false_eq_true, if_false] at hsh
    subst hsh
    go_wp
    go_ret
    simpa using empty b2 hB
  | true =>
  rw [ha] at hsh
  simp only [Bool.and_self, if_true] at hsh
  have c4 := f25 l a rank n1 hl hs
  have hfi := far_iv a rank hs
  have hfl := far_len a rank hs
  have hDe : rchD l a rank = (far l a rank).map kPt := rfl
  rw [hDe, List.length_map] at hsh
  clear hDe
  obtain ⟨m, hm⟩ : ∃ m, far l a rank = m := ⟨_, rfl⟩
  rw [hm] at c4 hsh hfi hfl
  clear hm empty
  have a0 : w2.cell? ⟨w.heap.size, 0, none⟩ = some (.int .i64 a.f0) := by simp [World.cell?, hA]
  have a1 : w2.cell? ⟨w.heap.size, 1, none⟩ = some (.int .i64 a.f1) := by simp [World.cell?, hA]
  go_wp
  refine (c4.2 w2 [xl, .agg #[.int .i64 a.f0, .int .i64 a.f1], .int .i64 rank] (Fl ++ ([] ++ ([] ++ []))) i2 (.cons hrl (.cons (.agg (.cons (F := []) (.int _ _) (.cons (F := []) (.int _ _) .nil))) (.cons (.int _ _) .nil))) (by simpa using hl0)).mono ?_
  clear a0 a1
  rintro e w3 ⟨bm, rfl, m1, m2, ⟨m', es, ck, q1, q2, q3, q4, q5⟩, b3⟩
  replace hB : w3.heap[w.heap.size + 1]? = some (.cells #[] 30 (0, 0)) := by rw [b3.block _ (by omega)]; exact hB
  have i3 := below_invR b3 i2
  have hz3 := b3.size
  replace b3 := b2.trans (below_weakR b3 b2.size)
  dsimp only
  go_wp
  have hrg := run_range_map (P := Try.prog) w3 53 30 3 bm es ck (by kernel_rfl) q3
  rw [hrg]
  clear hrg
  simp only [Result.andThen_ok, Oper.upon_value, Act.put, List.setIfInBounds_toArray, List.set_cons_succ, List.set_cons_zero]
  go_wp
  have hbo : (es.toList.map (·.born)).Nodup := (q5.1.imp fun h => Nat.ne_of_lt h)
  have hmm : m' = m := by
    have := congrArg decM q1
    rw [decM_ent, decM_ent] at this
    exact this.symm
  have hold : ∀ x ∈ es.toList, x.born < ck := fun x hx => q5.2 _ (List.mem_map.2 ⟨x, hx, rfl⟩)
  refine wp_loop (fun A W => ∃ (seen : Array Nat) (c0 : Nat) (done : List MapEntry) (v7 v8 v24 v25 v26 v27 v28 v29 v30 v31 : Value),
    A = { tmps := #[xl, .agg #[.int .i64 a.f0, .int .i64 a.f1], .int .i64 rank, undef, .pointer (some { block := w.heap.size, off := 0 }), undef, .slice none 0 0,
          v7, v8, .slice (some { block := w.heap.size + 1, off := 0 }) 0 0, xl, .bool true, .bool false, .bool false, .agg #[.int .i64 a.f0, .int .i64 a.f1], .bool true, .bool false, .bool false, undef, xl,
          .agg #[.int .i64 a.f0, .int .i64 a.f1], .int .i64 rank, .map (some bm), .pointer (some { block := w3.heap.size, off := 0 }), v24, v25, v26, v27, v28, v29, v30, v31, undef, undef, undef], defers := [] } ∧
    Below w.heap.size w W ∧ W.heap[bm]? = some (.map es ck) ∧ W.heap[w3.heap.size]? = some (.mapIter (some bm) ck seen c0) ∧ ck ≤ c0 ∧ w3.heap.size < W.heap.size ∧
    (done ++ (leftOf es seen).toList).Perm es.toList ∧ W.ownsRow w.heap.size 30 2 v7 done.length (done.flatMap fun e => encPt (kpE e)) ∧ v7.ownBlock ≠ some bm ∧ v7.ownBlock ≠ some w3.heap.size ∧ v7 ≠ .slice none 0 0)
    (fun A W => (leftOf es (W.iterSeen w3.heap.size)).size) ?_ ?_
  · have bz : Below w3.heap.size w3 (w3.alloc (.mapIter (some bm) ck #[] ck)) := ⟨rfl, rfl, rfl, by rw [alloc_size]; omega, fun k hk => alloc_blocks _ _ k hk⟩
    refine ⟨#[], ck, [], _, undef, undef, undef, undef, undef, undef, undef, undef, undef, rfl, b3.trans (below_weakR bz b3.size), by rw [alloc_blocks _ _ _ m2]; exact q3, alloc_new w3 _, Nat.le_refl _, by rw [alloc_size]; omega, by rw [show leftOf es #[] = es from by unfold leftOf; exact Array.filter_eq_self.2 (by simp)]; exact List.Perm.refl _, ⟨rfl, .inr ⟨w.heap.size + 1, 0, #[], rfl, by omega, by rw [alloc_blocks _ _ _ (by omega)]; exact hB, Nat.le_refl _, by simp [maxLen], rfl, rfl⟩⟩, ?_, ?_, by simp⟩
    · simp [Value.ownBlock]; omega
    · simp [Value.ownBlock]; omega
  · rintro A W ⟨seen, c0, done, v7, v8, v24, v25, v26, v27, v28, v29, v30, v31, rfl, hW, hWm, hWi, hc0, hWs, hperm, hown, ho1, ho2, ho3⟩
    go_wp
    rcases run_next_at (P := Try.prog) W 0 w3.heap.size bm ck c0 seen es ck hWi hWm hold hc0 with ⟨hz0, hrun⟩ | ⟨e, he, wn, hwn, hrun⟩
    · rw [hrun]
      simp only [Result.andThen_ok, Oper.upon_value, Act.put, List.setIfInBounds_toArray, List.set_cons_succ, List.set_cons_zero]
      clear hrun
      go_wp
      have hnil : (leftOf es seen).toList = [] := List.eq_nil_of_length_eq_zero (by simpa using hz0)
      rw [hnil, List.append_nil] at hperm
      have hpk : (done.map kpE).Perm (m.map kPt) := by
        refine (hperm.map kpE).trans (List.Perm.of_eq ?_)
        have e1 : es.toList.map kpE = (es.toList.map (fun e => (e.key, e.val))).map (fun q => kp0 q.1) := by rw [List.map_map]; rfl
        rw [e1, q4, List.map_map, hmm]; rfl
      have hsrt := ins_srtP hpk
      rw [List.length_map, ← hsh] at hsrt
      have hdl : done.length ≤ 33 := by
        have := hpk.length_eq
        simp only [List.length_map] at this
        omega
      obtain ⟨g, k, hrep, hgo, hgb, hgs, hgu⟩ := pts_row (n := done.length) (ks := done.map kpE) (by simp) (by rw [List.flatMap_map]; exact hown) ho3
      obtain ⟨_, v0, vs0, hargs, _, hsort⟩ := f28 false (done.map kpE) (by rw [List.length_map]; omega)
      simp only [List.cons.injEq] at hargs
      obtain ⟨rfl, rfl⟩ := hargs
      have iW := below_invR hW hi
      refine (hsort W v7 [(g, k)] [.func (.func 29) #[] #[]] iW (fun gg hgg e he hh => ?_) hrep (by simp) (fun gg hgg => ?_) (RepL.one (.fn .nil))).mono ?_
      · have := (InvB.of hi).2 gg hgg
        simp only [List.mem_singleton] at he
        subst he
        simp only at hh
        omega
      · simp only [List.mem_singleton] at hgg
        subst hgg
        exact ⟨hgs, hgu⟩
      rintro e wz ⟨x, F', Fr, rfl, hx0, hx1, ⟨o1, o2, o3, o4, o5⟩, f1, nd1⟩
      rw [hsrt] at hx1
      dsimp only
      go_wp
      go_ret
      have hfr : ∀ g' ∈ F', w.heap.size ≤ g'.1 := fun g' hg' => by
        rcases (f1 g' (by simp [hg'])).2.2 with h | ⟨e, he, hh⟩
        · exact Nat.le_trans hW.size h
        · simp only [List.mem_singleton] at he; subst he; simp only at hh; omega
      refine ⟨v7, F', rfl, hx1, ⟨o1.trans hW.os, o2.trans hW.tape, o3.trans hW.output, Nat.le_trans hW.size o4, fun k' hk' => ?_⟩, fun g' hg' => (f1 g' (by simp [hg'])).1, ?_⟩
      · rw [o5 k' (Nat.lt_of_lt_of_le hk' hW.size) (fun e he hh => by simp only [List.mem_singleton] at he; subst he; simp only at hh; omega)]
        exact hW.block k' hk'
      · simp only [if_true]
        refine ⟨fun g' hg' => ⟨hfr g' hg', (f1 g' (by simp [hg'])).2.1⟩, ?_⟩
        rw [List.map_append] at nd1
        exact (List.nodup_append.1 nd1).1
    · rw [hrun]
      simp only [Result.andThen_ok, Oper.upon_value, Act.put, List.setIfInBounds_toArray, List.set_cons_succ, List.set_cons_zero]
      clear hrun
      go_wp
      have hbi : bm ≠ w3.heap.size := Nat.ne_of_lt m2
      obtain ⟨W2, hW2⟩ : ∃ W2, ChangeMaps.setBlock wn w3.heap.size (.mapIter (some bm) ck (seen.push e.born) ck) = W2 := ⟨_, rfl⟩
      rw [hW2]
      have hs2 : W2.heap.size = W.heap.size ∧ W2.os = W.os ∧ W2.tape = W.tape ∧ W2.output = W.output := by
        rw [← hW2]; rcases hwn with rfl | rfl <;> exact ⟨by simp only [ChangeMaps.setBlock, Array.size_setIfInBounds]; try rfl, rfl, rfl, rfl⟩
      have hot : ∀ k, k ≠ w3.heap.size → W2.heap[k]? = W.heap[k]? := by
        intro k hk
        rw [← hW2]
        rcases hwn with rfl | rfl
        · simp only [ChangeMaps.setBlock]; rw [Array.getElem?_setIfInBounds_ne (fun hh => hk hh.symm)]
        · simp only [ChangeMaps.setBlock]; rw [Array.getElem?_setIfInBounds_ne (fun hh => hk hh.symm)]; rfl
      have hit : W2.heap[w3.heap.size]? = some (.mapIter (some bm) ck (seen.push e.born) ck) := by
        rw [← hW2]
        rcases hwn with rfl | rfl
        · simp [ChangeMaps.setBlock, hWs]
        · have : w3.heap.size < W.drew.heap.size := hWs
          simp only [ChangeMaps.setBlock]; rw [Array.getElem?_setIfInBounds_self_of_lt this]
      clear hW2
      obtain ⟨he1, he2⟩ := mem_left he
      rw [run_entry_at (P := Try.prog) W2 w3.heap.size bm ck seen es ck e hit (by rw [hot _ hbi]; exact hWm) he1 hbo]
      obtain ⟨kx, ky, hkey⟩ : ∃ kx ky, e.key = .agg #[.int .i64 kx, .int .i64 ky] := by
        have : (e.key, e.val) ∈ m'.map vent := by rw [← q4]; exact List.mem_map.2 ⟨e, he1, rfl⟩
        obtain ⟨f, _, hf⟩ := List.mem_map.1 this
        exact ⟨f.1, f.2.1, (congrArg Prod.fst hf).symm⟩
      rw [hkey]
      simp only [Result.andThen_ok, Oper.upon_value, Act.put, List.setIfInBounds_toArray, List.set_cons_succ, List.set_cons_zero]
      go_upto_region 7 with (fail)
      have hdl : done.length ≤ 33 := by
        have h1 := hperm.length_eq
        have h2 := congrArg List.length q4
        simp only [List.length_map, List.length_append, hmm] at h1 h2
        omega
      obtain ⟨j0, hj0, hj1, hj2, hjz⟩ := tiB.info (hX 30 _ rfl) rfl
      obtain ⟨z0, hz0, _, hz2⟩ := hjz rfl
      have hsl : Try.prog.underlying 34 = some (.slice 30) := by kernel_rfl
      have hbW : bm < W.heap.size := by
        rcases Nat.lt_or_ge bm W.heap.size with h | h
        · exact h
        · rw [Array.getElem?_eq_none h] at hWm; cases hWm
      obtain ⟨gb, hgb, hgo⟩ : ∃ g, w.heap.size ≤ g ∧ v7.ownBlock = some g := by
        obtain ⟨_, h⟩ := hown
        rcases h with ⟨rfl, _⟩ | ⟨g, cap, cur, rfl, hbg, _⟩
        · exact absurd rfl ho3
        · exact ⟨g, hbg, rfl⟩
      have own2 : W2.ownsRow w.heap.size 30 2 v7 done.length (done.flatMap fun e => encPt (kpE e)) := by
        obtain ⟨hlen, h⟩ := hown
        refine ⟨hlen, ?_⟩
        rcases h with h | ⟨g, cap, cur, rfl, hbg, hg, hrest⟩
        · exact .inl h
        · refine .inr ⟨g, cap, cur, rfl, hbg, ?_, hrest⟩
          rw [hot g (fun hh => ho2 (by rw [← hh]; rfl))]; exact hg
      have hblk : ((W2.alloc (.cells #[.int .i64 kx, .int .i64 ky] 30)).alloc (.cells #[.int .i64 kx, .int .i64 ky] 30)).heap[W.heap.size + 1]? = some (.cells #[.int .i64 kx, .int .i64 ky] 30 (0, 0)) := by
        have := alloc_new (W2.alloc (.cells #[.int .i64 kx, .int .i64 ky] 30)) (.cells #[.int .i64 kx, .int .i64 ky] 30)
        rw [alloc_size, hs2.1] at this
        exact this
      have hnews : ∀ (j : Nat) (u : Value), [Value.int .i64 kx, .int .i64 ky][j]? = some u → ((W2.alloc (.cells #[.int .i64 kx, .int .i64 ky] 30)).alloc (.cells #[.int .i64 kx, .int .i64 ky] 30)).cell? ((⟨W.heap.size + 1, 0, none⟩ : Addr).add j) = some u := by
        intro j u hj
        rw [addr_add_plain rfl]
        simp only [World.cell?, hblk, Nat.zero_add]
        rcases j with _ | _ | j
        · simpa using hj
        · simpa using hj
        · simp at hj
      have own3 := (own2.alloc (.cells #[.int .i64 kx, .int .i64 ky] 30)).alloc (.cells #[.int .i64 kx, .int .i64 ky] 30)
      have hsz4 : ((W2.alloc (.cells #[.int .i64 kx, .int .i64 ky] 30)).alloc (.cells #[.int .i64 kx, .int .i64 ky] 30)).heap.size = W.heap.size + 2 := by rw [alloc_size, alloc_size, hs2.1]
      have hsame : ∀ k, k < W.heap.size → ((W2.alloc (.cells #[.int .i64 kx, .int .i64 ky] 30)).alloc (.cells #[.int .i64 kx, .int .i64 ky] 30)).heap[k]? = W2.heap[k]? := by
        intro k hk
        rw [alloc_blocks _ _ _ (by rw [alloc_size, hs2.1]; omega), alloc_blocks _ _ _ (by rw [hs2.1]; omega)]
      have hos4 : ((W2.alloc (.cells #[.int .i64 kx, .int .i64 ky] 30)).alloc (.cells #[.int .i64 kx, .int .i64 ky] 30)).os = W.os ∧ ((W2.alloc (.cells #[.int .i64 kx, .int .i64 ky] 30)).alloc (.cells #[.int .i64 kx, .int .i64 ky] 30)).tape = W.tape ∧ ((W2.alloc (.cells #[.int .i64 kx, .int .i64 ky] 30)).alloc (.cells #[.int .i64 kx, .int .i64 ky] 30)).output = W.output := ⟨hs2.2.1, hs2.2.2.1, hs2.2.2.2⟩
      have hpk := perm_pick (e := e) (L := (leftOf es seen).toList) (by
        unfold leftOf
        rw [Array.toList_filter]
        exact hbo.sublist (List.Sublist.map _ List.filter_sublist)) he
      rw [← left_push] at hpk
      have hkE : kpE e = ⟨kx, ky⟩ := by unfold kpE; rw [hkey]; rfl
      have hsh2 := left_shrinks es seen e he
      have hWz := hWs
      go_wp2_with (at_builtin; refine wpList_append_own_at _ rfl _ _ 34 rfl w.heap.size 30 j0 z0 2 16 hsl hj0 hz0 hj1 hj2 hz2 (by decide) v7 done.length (done.flatMap fun e => encPt (kpE e)) rfl own3 ⟨W.heap.size + 1, 0, none⟩ 1 1 [.int .i64 kx, .int .i64 ky] rfl rfl hnews (fun x hx => by simp at hx; rcases hx with rfl | rfl <;> rfl) (by unfold maxLen; omega) (by omega) (by rw [hsz4]; have := hW.size; omega) ?_; intro v' w4 hown' hgrow hnil hat)
      have hne : ∀ k, k ≠ gb → some k ≠ v7.ownBlock := fun k hk hh => by rw [hgo] at hh; exact hk (Option.some.inj hh)
      have hbmg : bm ≠ gb := fun hh => ho1 (by rw [hgo, hh])
      have hbig : w3.heap.size ≠ gb := fun hh => ho2 (by rw [hgo, hh])
      have hgs4 := hgrow.size
      rw [hsz4] at hgs4
      have hat' : v'.ownBlock = some gb ∨ v'.ownBlock = some (W.heap.size + 2) := by
        rcases hat with h | h
        · exact .inl (h.trans hgo)
        · exact .inr (by rw [h, hsz4])
      have hit4 : w4.heap[w3.heap.size]? = some (.mapIter (some bm) ck (seen.push e.born) ck) := by
        rw [hgrow.block _ (by rw [hsz4]; omega) (hne _ hbig), hsame _ hWs]; exact hit
      refine ⟨⟨⟨hgrow.os.trans (hos4.1.trans hW.os), hgrow.tape.trans (hos4.2.1.trans hW.tape), hgrow.output.trans (hos4.2.2.trans hW.output), by have := hW.size; omega, fun k hk => ?_⟩, ?_, seen.push e.born, ck, hit4, Nat.le_refl _, by omega, done ++ [e], ?_, ?_, ?_, ?_⟩, ?_⟩
      · have hkW : k < W.heap.size := Nat.lt_of_lt_of_le hk hW.size
        rw [hgrow.block _ (by rw [hsz4]; omega) (hne _ (by omega)), hsame _ hkW, hot _ (by have := b3.size; omega)]
        exact hW.block k hk
      · rw [hgrow.block _ (by rw [hsz4]; omega) (hne _ hbmg), hsame _ hbW, hot _ hbi]; exact hWm
      · rw [List.append_assoc]
        exact (List.Perm.append_left done (by simpa using hpk.symm)).trans hperm
      · rw [List.length_append, List.flatMap_append]
        simpa [hkE, encPt] using hown'
      · rcases hat' with h | h <;> rw [h] <;> simp <;> omega
      · rcases hat' with h | h <;> rw [h] <;> simp <;> omega
      · have e1 : w4.iterSeen w3.heap.size = seen.push e.born := by unfold World.iterSeen; rw [hit4]
        have e2 : W.iterSeen w3.heap.size = seen := by unfold World.iterSeen; rw [hWi]
        rw [e1, e2]
        exact hsh2
end Go.Eng
namespace Go.Eng
open Go Go.Proofs Geo
set_option linter.unusedSimpArgs false
set_option linter.unusedVariables false
set_option maxRecDepth 20000
set_option maxHeartbeats 2000000

/-! what can be reached: the law. WRITES -/
theorem frF_okR {l r : List Ft} (hr : l.map Ft.fr = r) (h : ∀ x ∈ l, x.f3.size ≤ 1048576 ∧ x.f4.length ≤ 1048576) : ∀ x ∈ r, x.okay := by
  intro x hx
  have := frF_small hr h x hx
  unfold Ft.okay
  omega
theorem frF_nlokR {l r : List Ft} (hr : l.map Ft.fr = r) : ∀ x ∈ r, x.nlok := by
  intro x hx
  rw [← hr] at hx
  obtain ⟨y, hy, rfl⟩ := List.mem_map.1 hx
  intro h; cases h
theorem frF_kR {l r : List Ft} (hr : l.map Ft.fr = r) (hb : wtLF l ≤ 1048576) : kTo r 1 r.length ≤ 1000000000 := by
  have h1 := kTo_le r r.length (Nat.le_refl _) 1
  have h2 : wtToF r r.length = wtToF l l.length := by
    rw [← hr]
    unfold wtToF
    rw [List.take_of_length_le (by simp), List.take_of_length_le (Nat.le_refl _), List.map_map]
    rfl
  have h3 : r.length = l.length := by rw [← hr, List.length_map]
  unfold wtLF at hb
  omega
theorem f4 (l : List Ft) (p : Pt) (rank : Int) (n1 : Bool) (hl : l.length ≤ 9223372036854775807) (hx : ∀ x ∈ l, x.fits) : Fn Try.prog 4 false [.lst 5 n1 (l.map ft), .agg (cp p), i rank] (.bool true) := by
  have cs := f8 p.f0 p.f1
  have w1 := fun r => f11 r p rank false
  have w2 := fun r => f12 r p rank false
  have hcp : cp p = [i p.f0, i p.f1] := rfl
  simp only [hcp] at w1 w2 ⊢
  refine Fn.by_sx hX (by kernel_rfl) c4 (by kernel_rfl) (by rfl) ?_
  simp [i4, sxa, sxb, sxc, Ex.ok, Ex.val, ← wr_eq]
  refine CallS_s (f5 l n1 1048576 (by omega) (by omega) hl hx) rfl ?_
  by_cases hbig : (1048576 : Int) - wtLF l < 0
  · have : szr 1048576 (wtLF l : Nat) = -1 := if_pos hbig
    rw [this]
    repeat' (first | intro _ | (simp [sxa, sxb, sxc, Ex.ok, Ex.val, ← wr_eq, *]) | refine CondS_d ?_ ?_ | refine CondS_b ?_ ?_ | refine GrdS_d ?_ ?_ | refine GrdS_b ?_ ?_ | refine OkS_i (by omega) ?_ | fail)
  have hz : szr 1048576 (wtLF l : Nat) = 1048576 - wtLF l := if_neg hbig
  rw [hz]
  have hL := wtLF_len l
  have hl' : l.length ≤ 1048576 := by omega
  have hm : ∀ x ∈ l, x.f3.size ≤ 1048576 ∧ x.f4.length ≤ 1048576 := fun x hx => by have := wtLF_mem hx; omega
  have c1 := f7 l n1 hl' fun x h => (hm x h).2
  obtain ⟨r, hr⟩ : ∃ r, l.map Ft.fr = r := ⟨_, rfl⟩
  have hrl : r.length ≤ 1048576 := by rw [← hr, List.length_map]; exact hl'
  have hrm := frF_small hr hm
  have hro := frF_okR hr hm
  have hrn := frF_nlokR hr
  have hrk := frF_kR hr (by omega)
  rw [hr] at c1
  have c3 := w1 r (by omega) hro
  have c4 := w2 r (by omega) hro
  have c5 := f10 r false false (by omega) fun x h => by have := hrm x h; omega
  have hG : (rch r p rank).length ≤ 33 := rch_len r p rank
  obtain ⟨G, hGe⟩ : ∃ G, rch r p rank = G := ⟨_, rfl⟩
  rw [hGe] at c3 c4 hG
  have c6 := f13 G false false (by omega)
  have c7 := f14 r false 1 (by simp) hrn (by omega) (by omega) hrk
  have c8 := f15 G false 1 (by simp) (by omega) (by omega)
  have c9 := f16 G.length false 1 (by omega) (by omega)
  have hk1 := kTo_mono (l := r) (k := 1) (n := 0) (m := r.length) (by omega)
  have hk1 : 1 ≤ kTo r 1 r.length := hk1
  obtain ⟨K, hK⟩ : ∃ K, kTo r 1 r.length = K := ⟨_, rfl⟩
  rw [hK] at c7 hk1
  obtain ⟨R, hR⟩ : ∃ R, (upTo (mkFtAt r 1) r.length).map ft = R := ⟨_, rfl⟩
  rw [hR] at c7
  obtain ⟨m, hme⟩ : ∃ m : Int, 1 + 2 * (G.length : Int) = m := ⟨_, rfl⟩
  rw [hme] at c8 c9
  obtain ⟨GG, hGG⟩ : ∃ GG, (upTo (mkPt 1) G.length).map cp = GG := ⟨_, rfl⟩
  rw [hGG] at c8 c9
  have hm0 : ¬ m < 0 := by omega
  have hK0 : ¬ K < 0 := by omega
  have hnn : ¬ (1048576 : Int) - wtLF l < 0 := by omega
  clear hr hz w1 w2 hGe hK hR hme hGG
  repeat' (first | intro _ | (simp [sxa, sxb, sxc, Ex.ok, Ex.val, ← wr_eq, *]) | refine CallS_i (c1) ?_ | refine CallS_i (cs) ?_ | refine CallS_i (c3) ?_ | refine CallS_i (c4) ?_ | refine CallS_i (c5) ?_ | refine CallS_i (c6) ?_ | refine CallS_i (c7) ?_ | refine CallS_i (c8) ?_ | refine CallS_i (c9) ?_ | refine CallM_i (c1) ?_ | refine CallM_i (cs) ?_ | refine CallM_i (c3) ?_ | refine CallM_i (c4) ?_ | refine CallM_i (c5) ?_ | refine CallM_i (c6) ?_ | refine CallM_i (c7) ?_ | refine CallM_i (c8) ?_ | refine CallM_i (c9) ?_ | refine CondS_d ?_ ?_ | refine CondS_b ?_ ?_ | refine GrdS_d ?_ ?_ | refine GrdS_b ?_ ?_ | refine OkS_i (by omega) ?_ | fail)
end Go.Eng
