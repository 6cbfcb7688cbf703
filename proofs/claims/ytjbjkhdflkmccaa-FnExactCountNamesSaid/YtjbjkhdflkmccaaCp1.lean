/- A part of the proof of a law's statement: for every input the law returns true and leaves its arguments as they were. No condition beyond the statement's own. What each function computes. -/
import Derived.Lib.RowBridge
import Derived.Test.YtjbjkhdflkmccaaCi1
set_option linter.unusedVariables false
set_option linter.unusedSimpArgs false
set_option linter.unusedSectionVars false
set_option autoImplicit true
set_option relaxedAutoImplicit true
namespace Go.Eng
open Go
set_option linter.unusedSimpArgs false
set_option linter.unusedVariables false

structure Pt where
  f0 : Int
  f1 : Int
structure Sg where
  f0 : Pt
  f1 : Pt
/-! plain laws on numbers and lists -/
theorem wrap_id {x : Int} (h0 : -9223372036854775808 ≤ x) (h1 : x ≤ 9223372036854775807) : wr .i64 x = x := wr_in h0 h1
theorem wrap_up (i : Nat) (h : i + 1 ≤ 9223372036854775807) : wr .i64 ((i : Int) + 1) = ((i + 1 : Nat) : Int) := by rw [wr_in (by omega) (by omega)]; rfl
theorem wrap_down (i : Nat) (h : 0 < i) (hi : i ≤ 9223372036854775807) : wr .i64 ((i : Int) - 1) = ((i - 1 : Nat) : Int) := by rw [wr_in (by omega) (by omega)]; omega
theorem drop_at {α : Type} {l : List α} {i : Nat} (h : i < l.length) : ∃ x, l[i]? = some x ∧ l.drop i = x :: l.drop (i + 1) := ⟨l[i], List.getElem?_eq_getElem h, by rw [List.drop_eq_getElem_cons h]⟩
namespace Geo
/-- the product that tells the side of p from a to b -/
def crs (ax ay bx by' px py : Int) : Int := (bx - ax) * (py - ay) - (by' - ay) * (px - ax)
theorem mul_pos_neg {a b : Int} (h : a * b < 0) : (0 < a ∧ b < 0) ∨ (a < 0 ∧ 0 < b) := by
  rcases Int.lt_trichotomy a 0 with ha | ha | ha
  · rcases Int.lt_trichotomy b 0 with hb | hb | hb
    · have := Int.mul_pos_of_neg_of_neg ha hb; omega
    · rw [hb] at h; omega
    · exact .inr ⟨ha, hb⟩
  · rw [ha] at h; omega
  · rcases Int.lt_trichotomy b 0 with hb | hb | hb
    · exact .inl ⟨ha, hb⟩
    · rw [hb] at h; omega
    · have := Int.mul_pos ha hb; omega
/-- weights: p, q positive; what lies at or below m is below what lies at or above M, if m < M -/
theorem weigh {p q r s x y z w m M : Int} (hp : 0 < p) (hq : 0 < q) (hr : 0 < r) (hs : 0 < s) (ht : p + q = r + s) (hx : x ≤ m) (hy : y ≤ m) (hz : M ≤ z) (hw : M ≤ w) (hm : m < M) : p * x + q * y < r * z + s * w := by
  have h1 : p * x ≤ p * m := Int.mul_le_mul_of_nonneg_left hx (by omega)
  have h2 : q * y ≤ q * m := Int.mul_le_mul_of_nonneg_left hy (by omega)
  have h3 : r * M ≤ r * z := Int.mul_le_mul_of_nonneg_left hz (by omega)
  have h4 : s * M ≤ s * w := Int.mul_le_mul_of_nonneg_left hw (by omega)
  have h5 : (p + q) * m < (p + q) * M := Int.mul_lt_mul_of_pos_left hm (by omega)
  have h6 : (p + q) * m = p * m + q * m := Int.add_mul ..
  have h7 : (p + q) * M = r * M + s * M := by rw [ht, Int.add_mul]
  omega
/-- Two segments of which each parts the ends of the other one: their X (or Y) are not apart. c, d: the sides of s's ends from t; a, b: those of t's ends from s. -/
theorem not_apart {a b c d x0 x1 z0 z1 : Int} (hab : a * b < 0) (hcd : c * d < 0) (hD : c - d = b - a) (hid : c * x1 - d * x0 = b * z0 - a * z1) {m M : Int} (h0 : x0 ≤ m) (h1 : x1 ≤ m) (h2 : M ≤ z0) (h3 : M ≤ z1) (hm : m < M) : False := by
  rcases mul_pos_neg hcd with ⟨hc, hd⟩ | ⟨hc, hd⟩
  · have ha : a < 0 ∧ 0 < b := by rcases mul_pos_neg hab with ⟨h, h'⟩ | ⟨h, h'⟩ <;> omega
    have := weigh (p := c) (q := -d) (r := b) (s := -a) hc (by omega) ha.2 (by omega) (by omega) h1 h0 h2 h3 hm
    have e1 : -d * x0 = -(d * x0) := Int.neg_mul ..
    have e2 : -a * z1 = -(a * z1) := Int.neg_mul ..
    omega
  · have ha : 0 < a ∧ b < 0 := by rcases mul_pos_neg hab with ⟨h, h'⟩ | ⟨h, h'⟩ <;> omega
    have := weigh (p := -c) (q := d) (r := -b) (s := a) (by omega) hd (by omega) ha.1 (by omega) h1 h0 h2 h3 hm
    have e1 : -c * x1 = -(c * x1) := Int.neg_mul ..
    have e2 : -b * z0 = -(b * z0) := Int.neg_mul ..
    omega
theorem not_apart' {a b c d x0 x1 z0 z1 : Int} (hab : a * b < 0) (hcd : c * d < 0) (hD : c - d = b - a) (hid : c * x1 - d * x0 = b * z0 - a * z1) {m M : Int} (h0 : z0 ≤ m) (h1 : z1 ≤ m) (h2 : M ≤ x0) (h3 : M ≤ x1) (hm : m < M) : False :=
  not_apart (a := c) (b := d) (c := a) (d := b) (x0 := z0) (x1 := z1) (z0 := x0) (z1 := x1) hcd hab (by omega) (by omega) h0 h1 h2 h3 hm
section
variable (ax ay bx by' cx cy dx dy : Int)
theorem id_D : crs cx cy dx dy ax ay - crs cx cy dx dy bx by' = crs ax ay bx by' dx dy - crs ax ay bx by' cx cy := by
  unfold crs
  simp only [Int.sub_mul, Int.mul_sub]
  simp only [Int.mul_comm]
  omega
theorem id_X : crs cx cy dx dy ax ay * bx - crs cx cy dx dy bx by' * ax = crs ax ay bx by' dx dy * cx - crs ax ay bx by' cx cy * dx := by
  unfold crs
  simp only [Int.sub_mul, Int.mul_sub]
  simp only [Int.mul_comm, Int.mul_left_comm, Int.mul_assoc]
  omega
theorem id_Y : crs cx cy dx dy ax ay * by' - crs cx cy dx dy bx by' * ay = crs ax ay bx by' dx dy * cy - crs ax ay bx by' cx cy * dy := by
  unfold crs
  simp only [Int.sub_mul, Int.mul_sub]
  simp only [Int.mul_comm, Int.mul_left_comm, Int.mul_assoc]
  omega
end
/-- two directions along a third one that is not null are along each other -/
theorem along {ux uy vx vy wx wy : Int} (hw : ¬ (wx = 0 ∧ wy = 0)) (hu : ux * wy = uy * wx) (hv : vx * wy = vy * wx) : ux * vy = uy * vx := by
  by_cases h : wx = 0
  · have hy : wy ≠ 0 := fun e => hw ⟨h, e⟩
    rw [h, Int.mul_zero] at hu hv
    have hu0 : ux = 0 := (Int.mul_eq_zero.1 hu).resolve_right hy
    have hv0 : vx = 0 := (Int.mul_eq_zero.1 hv).resolve_right hy
    rw [hu0, hv0]; omega
  · refine Int.eq_of_mul_eq_mul_right h ?_
    calc ux * vy * wx = ux * (vy * wx) := by rw [Int.mul_assoc]
      _ = ux * (vx * wy) := by rw [hv]
      _ = vx * (ux * wy) := by rw [Int.mul_left_comm]
      _ = vx * (uy * wx) := by rw [hu]
      _ = uy * vx * wx := by rw [Int.mul_left_comm, Int.mul_assoc]
end Geo
namespace Geo
def Btw (u w : Int) : Prop := (0 ≤ w ∧ w ≤ u) ∨ (u ≤ w ∧ w ≤ 0)
theorem btw_of {o k u w : Int} (hk : k ≠ 0) (hu : u ≠ 0) (h : o * u = w * k) (hb : Btw u w) : Btw k o := by
  rcases Int.lt_or_gt_of_ne hu with hu | hu <;> rcases Int.lt_or_gt_of_ne hk with hk | hk
  · -- u < 0, k < 0
    have hw : u ≤ w ∧ w ≤ 0 := by rcases hb with h | h <;> omega
    have h1 : 0 ≤ w * k := Int.mul_nonneg_of_nonpos_of_nonpos hw.2 (by omega)
    have h2 : w * k ≤ u * k := Int.mul_le_mul_of_nonpos_right hw.1 (by omega)
    right
    constructor
    · apply Int.not_lt.1
      intro hc
      have : k * u < o * u := Int.mul_lt_mul_of_neg_right hc hu
      have e : k * u = u * k := Int.mul_comm ..
      omega
    · apply Int.not_lt.1
      intro hc
      have : o * u < 0 := Int.mul_neg_of_pos_of_neg hc hu
      omega
  · -- u < 0, 0 < k
    have hw : u ≤ w ∧ w ≤ 0 := by rcases hb with h | h <;> omega
    have h1 : w * k ≤ 0 := Int.mul_nonpos_of_nonpos_of_nonneg hw.2 (by omega)
    have h2 : u * k ≤ w * k := Int.mul_le_mul_of_nonneg_right hw.1 (by omega)
    left
    constructor
    · apply Int.not_lt.1
      intro hc
      have : 0 < o * u := Int.mul_pos_of_neg_of_neg hc hu
      omega
    · apply Int.not_lt.1
      intro hc
      have : o * u < k * u := Int.mul_lt_mul_of_neg_right hc hu
      have e : k * u = u * k := Int.mul_comm ..
      omega
  · -- 0 < u, k < 0
    have hw : 0 ≤ w ∧ w ≤ u := by rcases hb with h | h <;> omega
    have h1 : w * k ≤ 0 := Int.mul_nonpos_of_nonneg_of_nonpos hw.1 (by omega)
    have h2 : u * k ≤ w * k := Int.mul_le_mul_of_nonpos_right hw.2 (by omega)
    right
    constructor
    · apply Int.not_lt.1
      intro hc
      have : o * u < k * u := Int.mul_lt_mul_of_pos_right hc hu
      have e : k * u = u * k := Int.mul_comm ..
      omega
    · apply Int.not_lt.1
      intro hc
      have : 0 < o * u := Int.mul_pos hc hu
      omega
  · -- 0 < u, 0 < k
    have hw : 0 ≤ w ∧ w ≤ u := by rcases hb with h | h <;> omega
    have h1 : 0 ≤ w * k := Int.mul_nonneg hw.1 (by omega)
    have h2 : w * k ≤ u * k := Int.mul_le_mul_of_nonneg_right hw.2 (by omega)
    left
    constructor
    · apply Int.not_lt.1
      intro hc
      have : o * u < 0 := Int.mul_neg_of_neg_of_pos hc hu
      omega
    · apply Int.not_lt.1
      intro hc
      have : k * u < o * u := Int.mul_lt_mul_of_pos_right hc hu
      have e : k * u = u * k := Int.mul_comm ..
      omega
theorem btw_iff {o k u w : Int} (hk : k ≠ 0) (hu : u ≠ 0) (h : o * u = w * k) : Btw u w ↔ Btw k o := ⟨btw_of hk hu h, btw_of hu hk h.symm⟩
/-- p lies in the box of a and b -/
def Inb (ax ay bx by' px py : Int) : Prop := (min ax bx ≤ px ∧ px ≤ max ax bx) ∧ (min ay by' ≤ py ∧ py ≤ max ay by')
/-- the place of a point in the order by Y and then by X -/
def K (x y : Int) : Int := 201 * y + x
def Vl (x : Int) : Prop := 0 ≤ x ∧ x ≤ 200
theorem kx {ux uy wx wy : Int} (e : ux * wy = uy * wx) : (201 * wy + wx) * ux = wx * (201 * uy + ux) := by
  have h1 : (201 * wy + wx) * ux = 201 * (ux * wy) + wx * ux := by rw [Int.add_mul, Int.mul_assoc, Int.mul_comm wy ux]
  have h2 : wx * (201 * uy + ux) = 201 * (uy * wx) + wx * ux := by rw [Int.mul_add, Int.mul_left_comm, Int.mul_comm wx uy]
  rw [h1, h2, e]
theorem ky {ux uy wx wy : Int} (e : ux * wy = uy * wx) : (201 * wy + wx) * uy = wy * (201 * uy + ux) := by
  have h1 : (201 * wy + wx) * uy = 201 * (wy * uy) + uy * wx := by rw [Int.add_mul, Int.mul_assoc, Int.mul_comm wx uy]
  have h2 : wy * (201 * uy + ux) = 201 * (wy * uy) + ux * wy := by rw [Int.mul_add, Int.mul_left_comm, Int.mul_comm wy ux]
  rw [h1, h2, e]
theorem lin {ux uy px py qx qy : Int} (h : ux * py - uy * px = 0) (h' : ux * qy - uy * qx = 0) : ux * (qy - py) = uy * (qx - px) := by
  rw [Int.mul_sub, Int.mul_sub]; omega
theorem lin2 {px py qx qy : Int} (h : px * qy = py * qx) : (qx - px) * (-py) - (qy - py) * (-px) = 0 := by
  rw [Int.mul_neg, Int.mul_neg, Int.sub_mul, Int.sub_mul, Int.mul_comm qx py, Int.mul_comm qy px, Int.mul_comm px py]; omega
theorem K_box {ax ay bx by' px py : Int} (v0 : Vl ax) (v1 : Vl ay) (v2 : Vl bx) (v3 : Vl by') (v4 : Vl px) (v5 : Vl py) (hne : ¬ (ax = bx ∧ ay = by')) (h : crs ax ay bx by' px py = 0) :
    Inb ax ay bx by' px py ↔ (min (K ax ay) (K bx by') ≤ K px py ∧ K px py ≤ max (K ax ay) (K bx by')) := by
  unfold Vl at *
  have hk : K bx by' - K ax ay ≠ 0 := by unfold K; omega
  have e : (bx - ax) * (py - ay) = (by' - ay) * (px - ax) := by unfold crs at h; omega
  have a1 : K px py - K ax ay = 201 * (py - ay) + (px - ax) := by unfold K; omega
  have a2 : K bx by' - K ax ay = 201 * (by' - ay) + (bx - ax) := by unfold K; omega
  have e1 : (K px py - K ax ay) * (bx - ax) = (px - ax) * (K bx by' - K ax ay) := by rw [a1, a2]; exact kx e
  have e2 : (K px py - K ax ay) * (by' - ay) = (py - ay) * (K bx by' - K ax ay) := by rw [a1, a2]; exact ky e
  have b0 : Inb ax ay bx by' px py ↔ Btw (bx - ax) (px - ax) ∧ Btw (by' - ay) (py - ay) := by unfold Inb Btw; omega
  have b1 : (min (K ax ay) (K bx by') ≤ K px py ∧ K px py ≤ max (K ax ay) (K bx by')) ↔ Btw (K bx by' - K ax ay) (K px py - K ax ay) := by unfold Btw; omega
  rw [b0, b1]
  have z : ∀ {o k u w : Int}, k ≠ 0 → o * u = w * k → u = 0 → w = 0 := by
    intro o k u w hk h hu
    rw [hu, Int.mul_zero] at h
    exact (Int.mul_eq_zero.1 h.symm).resolve_right hk
  by_cases cx : bx - ax = 0
  · have wx := z hk e1 cx
    have cy : by' - ay ≠ 0 := by omega
    rw [btw_iff hk cy e2, cx, wx]
    unfold Btw
    omega
  · rw [btw_iff hk cx e1]
    by_cases cy : by' - ay = 0
    · have wy := z hk e2 cy
      rw [cy, wy]
      unfold Btw
      omega
    · rw [btw_iff hk cy e2]
      exact ⟨fun h => h.1, fun h => ⟨h, h⟩⟩
theorem K_inj {ax ay bx by' : Int} (v0 : Vl ax) (v2 : Vl bx) : K ax ay = K bx by' ↔ ax = bx ∧ ay = by' := by unfold K Vl at *; omega
/-- four points on one line: the other two sides are null, too -/
theorem col_back {ax ay bx by' cx cy dx dy : Int} (hne : ¬ (ax = bx ∧ ay = by')) (h0 : crs ax ay bx by' cx cy = 0) (h1 : crs ax ay bx by' dx dy = 0) : crs cx cy dx dy ax ay = 0 ∧ crs cx cy dx dy bx by' = 0 := by
  have u0 : ¬ (bx - ax = 0 ∧ by' - ay = 0) := by omega
  have g0 : (cx - ax) * (by' - ay) = (cy - ay) * (bx - ax) := by unfold crs at h0; rw [Int.mul_comm (cy - ay), Int.mul_comm (cx - ax)]; omega
  have g1 : (dx - ax) * (by' - ay) = (dy - ay) * (bx - ax) := by unfold crs at h1; rw [Int.mul_comm (dy - ay), Int.mul_comm (dx - ax)]; omega
  have k0 := along u0 g0 g1
  have hD := id_D ax ay bx by' cx cy dx dy
  have e : crs cx cy dx dy ax ay = 0 := by
    unfold crs
    have a1 : dx - cx = (dx - ax) - (cx - ax) := by omega
    have a2 : dy - cy = (dy - ay) - (cy - ay) := by omega
    have a3 : ay - cy = -(cy - ay) := by omega
    have a4 : ax - cx = -(cx - ax) := by omega
    rw [a1, a2, a3, a4]
    exact lin2 k0
  exact ⟨e, by omega⟩
/-- two segments that are not on one line share at most one point -/
theorem one_shared {ax ay bx by' cx cy dx dy px py qx qy : Int} (ht : ¬ (cx = dx ∧ cy = dy)) (hn : ¬ (crs ax ay bx by' cx cy = 0 ∧ crs ax ay bx by' dx dy = 0)) (p0 : crs ax ay bx by' px py = 0) (p1 : crs cx cy dx dy px py = 0) (q0 : crs ax ay bx by' qx qy = 0) (q1 : crs cx cy dx dy qx qy = 0) : px = qx ∧ py = qy := by
  apply Classical.byContradiction
  intro hne
  apply hn
  have w0 : ¬ (qx - px = 0 ∧ qy - py = 0) := by omega
  have dif : ∀ {ax ay bx by' : Int}, crs ax ay bx by' px py = 0 → crs ax ay bx by' qx qy = 0 → (bx - ax) * (qy - py) = (by' - ay) * (qx - px) := by
    intro ax ay bx by' h h'
    have a1 : qy - py = (qy - ay) - (py - ay) := by omega
    have a2 : qx - px = (qx - ax) - (px - ax) := by omega
    rw [a1, a2]
    exact lin h h'
  have hu := dif p0 q0
  have hv := dif p1 q1
  have huv := along w0 hu hv
  have v0 : ¬ (dx - cx = 0 ∧ dy - cy = 0) := by omega
  -- from any point r on t's line: r - p is along v, so along u
  have onl : ∀ {rx ry : Int}, crs cx cy dx dy rx ry = 0 → crs ax ay bx by' rx ry = 0 := by
    intro rx ry hr
    have g : (rx - px) * (dy - cy) = (ry - py) * (dx - cx) := by
      have a1 : ry - py = (ry - cy) - (py - cy) := by omega
      have a2 : rx - px = (rx - cx) - (px - cx) := by omega
      rw [a1, a2, Int.mul_comm _ (dy - cy), Int.mul_comm _ (dx - cx)]
      exact (lin p1 hr).symm
    have g2 := along v0 huv g
    unfold crs at p0 ⊢
    have a1 : ry - ay = (ry - py) + (py - ay) := by omega
    have a2 : rx - ax = (rx - px) + (px - ax) := by omega
    rw [a1, a2, Int.mul_add, Int.mul_add]
    omega
  refine ⟨onl (rx := cx) (ry := cy) ?_, onl (rx := dx) (ry := dy) ?_⟩
  · unfold crs
    rw [Int.sub_self, Int.sub_self]
    omega
  · unfold crs
    rw [Int.mul_comm]
    omega
end Geo
open Geo
def M_IsPoint (x y : Int) : Bool := decide (0 ≤ x ∧ x ≤ 200) && decide (0 ≤ y ∧ y ≤ 200)
theorem M_IsPoint_iff (x y : Int) : M_IsPoint x y = true ↔ Vl x ∧ Vl y := by
  unfold M_IsPoint Vl
  rw [Bool.and_eq_true, decide_eq_true_iff, decide_eq_true_iff]
def M_IsSegment (ax ay bx by' : Int) : Bool := M_IsPoint ax ay && (M_IsPoint bx by' && !(decide (ax = bx ∧ ay = by')))
theorem M_IsSegment_iff (ax ay bx by' : Int) : M_IsSegment ax ay bx by' = true ↔ (Vl ax ∧ Vl ay) ∧ (Vl bx ∧ Vl by') ∧ ¬ (ax = bx ∧ ay = by') := by
  unfold M_IsSegment
  rw [Bool.and_eq_true, Bool.and_eq_true, M_IsPoint_iff, M_IsPoint_iff, Bool.not_eq_true', decide_eq_false_iff_not]
def sgn (z : Int) : Int := if z > 0 then 1 else if z < 0 then -1 else 0
theorem sgn_zero (z : Int) : sgn z = 0 ↔ z = 0 := by unfold sgn; split <;> (try split) <;> omega
theorem sgn_pos (z : Int) : 0 < sgn z ↔ 0 < z := by unfold sgn; split <;> (try split) <;> omega
theorem sgn_neg (z : Int) : sgn z < 0 ↔ z < 0 := by unfold sgn; split <;> (try split) <;> omega
theorem sgn_le (z : Int) : -1 ≤ sgn z ∧ sgn z ≤ 1 := by unfold sgn; split <;> (try split) <;> omega
theorem sgn_mul (x y : Int) : sgn x * sgn y < 0 ↔ x * y < 0 := by
  constructor
  · intro h
    rcases mul_pos_neg h with ⟨a, b⟩ | ⟨a, b⟩
    · exact Int.mul_neg_of_pos_of_neg ((sgn_pos x).1 a) ((sgn_neg y).1 b)
    · exact Int.mul_neg_of_neg_of_pos ((sgn_neg x).1 a) ((sgn_pos y).1 b)
  · intro h
    rcases mul_pos_neg h with ⟨a, b⟩ | ⟨a, b⟩
    · exact Int.mul_neg_of_pos_of_neg ((sgn_pos x).2 a) ((sgn_neg y).2 b)
    · exact Int.mul_neg_of_neg_of_pos ((sgn_neg x).2 a) ((sgn_pos y).2 b)
theorem mul_bound {x y : Int} (h0 : -200 ≤ x) (h1 : x ≤ 200) (h2 : -200 ≤ y) (h3 : y ≤ 200) : -40000 ≤ x * y ∧ x * y ≤ 40000 := by
  have a : (x + 200) * (y + 200) ≥ 0 := Int.mul_nonneg (by omega) (by omega)
  have b : (200 - x) * (200 - y) ≥ 0 := Int.mul_nonneg (by omega) (by omega)
  have c : (x + 200) * (200 - y) ≥ 0 := Int.mul_nonneg (by omega) (by omega)
  have d : (200 - x) * (y + 200) ≥ 0 := Int.mul_nonneg (by omega) (by omega)
  simp only [Int.add_mul, Int.mul_add, Int.sub_mul, Int.mul_sub] at a b c d
  omega
theorem crs_bound {ax ay bx by' px py : Int} (v0 : Vl ax) (v1 : Vl ay) (v2 : Vl bx) (v3 : Vl by') (v4 : Vl px) (v5 : Vl py) : -80000 ≤ crs ax ay bx by' px py ∧ crs ax ay bx by' px py ≤ 80000 := by
  unfold Vl at *
  unfold crs
  have h1 := mul_bound (x := bx - ax) (y := py - ay) (by omega) (by omega) (by omega) (by omega)
  have h2 := mul_bound (x := by' - ay) (y := px - ax) (by omega) (by omega) (by omega) (by omega)
  omega
theorem crs_wrap {ax ay bx by' px py : Int} (v0 : Vl ax) (v1 : Vl ay) (v2 : Vl bx) (v3 : Vl by') (v4 : Vl px) (v5 : Vl py) :
    wr .i64 ((wr .i64 ((wr .i64 (bx - ax)) * (wr .i64 (py - ay)))) - (wr .i64 ((wr .i64 (by' - ay)) * (wr .i64 (px - ax))))) = crs ax ay bx by' px py := by
  have h := crs_bound v0 v1 v2 v3 v4 v5
  unfold Vl at *
  have h1 := mul_bound (x := bx - ax) (y := py - ay) (by omega) (by omega) (by omega) (by omega)
  have h2 := mul_bound (x := by' - ay) (y := px - ax) (by omega) (by omega) (by omega) (by omega)
  rw [wrap_id (x := bx - ax) (by omega) (by omega), wrap_id (x := py - ay) (by omega) (by omega), wrap_id (x := by' - ay) (by omega) (by omega), wrap_id (x := px - ax) (by omega) (by omega), wrap_id (x := (bx - ax) * (py - ay)) (by omega) (by omega), wrap_id (x := (by' - ay) * (px - ax)) (by omega) (by omega)]
  unfold crs at h
  rw [wrap_id (by omega) (by omega)]
  rfl
def M_SideOf (ax ay bx by' px py : Int) : Int := if M_IsPoint ax ay && (M_IsPoint bx by' && M_IsPoint px py) then sgn (crs ax ay bx by' px py) else 0
instance (ax ay bx by' px py : Int) : Decidable (Inb ax ay bx by' px py) := by unfold Inb; infer_instance
def On (ax ay bx by' px py : Int) : Prop := crs ax ay bx by' px py = 0 ∧ Inb ax ay bx by' px py
instance (ax ay bx by' px py : Int) : Decidable (On ax ay bx by' px py) := by unfold On; infer_instance
def M_IsOn (ax ay bx by' px py : Int) : Bool := M_IsSegment ax ay bx by' && (M_IsPoint px py && decide (On ax ay bx by' px py))
def M_HowMeet (ax ay bx by' cx cy dx dy : Int) : Int :=
  if M_IsSegment ax ay bx by' = true ∧ M_IsSegment cx cy dx dy = true then
    if crs ax ay bx by' cx cy = 0 ∧ crs ax ay bx by' dx dy = 0 then
      if min (max (K ax ay) (K bx by')) (max (K cx cy) (K dx dy)) < max (min (K ax ay) (K bx by')) (min (K cx cy) (K dx dy)) then 0
      else if max (min (K ax ay) (K bx by')) (min (K cx cy) (K dx dy)) = min (max (K ax ay) (K bx by')) (max (K cx cy) (K dx dy)) then 1 else 3
    else if crs ax ay bx by' cx cy * crs ax ay bx by' dx dy < 0 ∧ crs cx cy dx dy ax ay * crs cx cy dx dy bx by' < 0 then 2
    else if On ax ay bx by' cx cy ∨ On ax ay bx by' dx dy ∨ On cx cy dx dy ax ay ∨ On cx cy dx dy bx by' then 1 else 0
  else 0
/-- the boxes of two segments are apart -/
def Apart (ax ay bx by' cx cy dx dy : Int) : Prop := max ax bx < min cx dx ∨ max cx dx < min ax bx ∨ max ay by' < min cy dy ∨ max cy dy < min ay by'
instance (ax ay bx by' cx cy dx dy : Int) : Decidable (Apart ax ay bx by' cx cy dx dy) := by unfold Apart; infer_instance
theorem apart_no {ax ay bx by' cx cy dx dy : Int} (h : Apart ax ay bx by' cx cy dx dy) : ¬ On ax ay bx by' cx cy ∧ ¬ On ax ay bx by' dx dy ∧ ¬ On cx cy dx dy ax ay ∧ ¬ On cx cy dx dy bx by' := by
  unfold On Inb
  unfold Apart at h
  refine ⟨?_, ?_, ?_, ?_⟩ <;> (rintro ⟨_, h1⟩; omega)
theorem apart_cross {ax ay bx by' cx cy dx dy : Int} (h : Apart ax ay bx by' cx cy dx dy) : ¬ (crs ax ay bx by' cx cy * crs ax ay bx by' dx dy < 0 ∧ crs cx cy dx dy ax ay * crs cx cy dx dy bx by' < 0) := by
  rintro ⟨hab, hcd⟩
  have hD := id_D ax ay bx by' cx cy dx dy
  have hX := id_X ax ay bx by' cx cy dx dy
  have hY := id_Y ax ay bx by' cx cy dx dy
  rcases h with h | h | h | h
  · exact not_apart hab hcd hD hX (m := max ax bx) (M := min cx dx) (by omega) (by omega) (by omega) (by omega) h
  · exact not_apart' hab hcd hD hX (m := max cx dx) (M := min ax bx) (by omega) (by omega) (by omega) (by omega) h
  · exact not_apart hab hcd hD hY (m := max ay by') (M := min cy dy) (by omega) (by omega) (by omega) (by omega) h
  · exact not_apart' hab hcd hD hY (m := max cy dy) (M := min ay by') (by omega) (by omega) (by omega) (by omega) h
theorem crs_self0 (ax ay bx by' : Int) : crs ax ay bx by' ax ay = 0 := by unfold crs; rw [Int.sub_self, Int.sub_self]; omega
theorem crs_self1 (ax ay bx by' : Int) : crs ax ay bx by' bx by' = 0 := by unfold crs; rw [Int.mul_comm]; omega
/-- how many different ends of both lie on the other one, as the reference counts them -/
def M_Shared (ax ay bx by' cx cy dx dy : Int) : Int :=
  (if On cx cy dx dy ax ay then 1 else 0) + (if On cx cy dx dy bx by' then 1 else 0)
    + (if On ax ay bx by' cx cy ∧ ¬ (On cx cy dx dy ax ay ∧ ax = cx ∧ ay = cy) ∧ ¬ (On cx cy dx dy bx by' ∧ bx = cx ∧ by' = cy) then 1 else 0)
    + (if On ax ay bx by' dx dy ∧ ¬ (On cx cy dx dy ax ay ∧ ax = dx ∧ ay = dy) ∧ ¬ (On cx cy dx dy bx by' ∧ bx = dx ∧ by' = dy) then 1 else 0)
theorem ifc {p q : Prop} [Decidable p] [Decidable q] {α : Type} (h : p ↔ q) (a b : α) : (if p then a else b) = if q then a else b := by
  by_cases hp : p
  · rw [if_pos hp, if_pos (h.1 hp)]
  · rw [if_neg hp, if_neg (fun hq => hp (h.2 hq))]
theorem M_HowMeet_spec {ax ay bx by' cx cy dx dy : Int} (v0 : Vl ax) (v1 : Vl ay) (v2 : Vl bx) (v3 : Vl by') (hs : ¬ (ax = bx ∧ ay = by')) (w0 : Vl cx) (w1 : Vl cy) (w2 : Vl dx) (w3 : Vl dy) (ht : ¬ (cx = dx ∧ cy = dy)) :
    M_HowMeet ax ay bx by' cx cy dx dy =
      if Apart ax ay bx by' cx cy dx dy then 0
      else if M_Shared ax ay bx by' cx cy dx dy = 0 then (if crs ax ay bx by' cx cy * crs ax ay bx by' dx dy < 0 ∧ crs cx cy dx dy ax ay * crs cx cy dx dy bx by' < 0 then 2 else 0)
      else if M_Shared ax ay bx by' cx cy dx dy = 1 then 1 else 3 := by
  unfold M_HowMeet
  rw [if_pos ⟨(M_IsSegment_iff ..).2 ⟨⟨v0, v1⟩, ⟨v2, v3⟩, hs⟩, (M_IsSegment_iff ..).2 ⟨⟨w0, w1⟩, ⟨w2, w3⟩, ht⟩⟩]
  by_cases col : crs ax ay bx by' cx cy = 0 ∧ crs ax ay bx by' dx dy = 0
  · -- on one line
    rw [if_pos col]
    have back := col_back hs col.1 col.2
    have o0 : On cx cy dx dy ax ay ↔ _ := ⟨fun h => (K_box w0 w1 w2 w3 v0 v1 ht back.1).1 h.2, fun h => ⟨back.1, (K_box w0 w1 w2 w3 v0 v1 ht back.1).2 h⟩⟩
    have o1 : On cx cy dx dy bx by' ↔ _ := ⟨fun h => (K_box w0 w1 w2 w3 v2 v3 ht back.2).1 h.2, fun h => ⟨back.2, (K_box w0 w1 w2 w3 v2 v3 ht back.2).2 h⟩⟩
    have o2 : On ax ay bx by' cx cy ↔ _ := ⟨fun h => (K_box v0 v1 v2 v3 w0 w1 hs col.1).1 h.2, fun h => ⟨col.1, (K_box v0 v1 v2 v3 w0 w1 hs col.1).2 h⟩⟩
    have o3 : On ax ay bx by' dx dy ↔ _ := ⟨fun h => (K_box v0 v1 v2 v3 w2 w3 hs col.2).1 h.2, fun h => ⟨col.2, (K_box v0 v1 v2 v3 w2 w3 hs col.2).2 h⟩⟩
    have ap : Apart ax ay bx by' cx cy dx dy → ¬ On cx cy dx dy ax ay ∧ ¬ On cx cy dx dy bx by' ∧ ¬ On ax ay bx by' cx cy ∧ ¬ On ax ay bx by' dx dy := fun h => ⟨(apart_no h).2.2.1, (apart_no h).2.2.2, (apart_no h).1, (apart_no h).2.1⟩
    rw [o0, o1, o2, o3] at ap
    have ks : K ax ay ≠ K bx by' := fun e => hs ((K_inj v0 v2).1 e)
    have kt : K cx cy ≠ K dx dy := fun e => ht ((K_inj w0 w2).1 e)
    have nc : ¬ (crs ax ay bx by' cx cy * crs ax ay bx by' dx dy < 0 ∧ crs cx cy dx dy ax ay * crs cx cy dx dy bx by' < 0) := by rw [col.1, Int.zero_mul]; omega
    have sh : M_Shared ax ay bx by' cx cy dx dy =
        (if min (K cx cy) (K dx dy) ≤ K ax ay ∧ K ax ay ≤ max (K cx cy) (K dx dy) then 1 else 0) + (if min (K cx cy) (K dx dy) ≤ K bx by' ∧ K bx by' ≤ max (K cx cy) (K dx dy) then 1 else 0)
          + (if (min (K ax ay) (K bx by') ≤ K cx cy ∧ K cx cy ≤ max (K ax ay) (K bx by')) ∧ ¬ K ax ay = K cx cy ∧ ¬ K bx by' = K cx cy then 1 else 0)
          + (if (min (K ax ay) (K bx by') ≤ K dx dy ∧ K dx dy ≤ max (K ax ay) (K bx by')) ∧ ¬ K ax ay = K dx dy ∧ ¬ K bx by' = K dx dy then 1 else 0) := by
      unfold M_Shared
      rw [ifc o0, ifc o1]
      congr 1
      · congr 1
        refine ifc ?_ _ _
        rw [o0, o1, o2, ← K_inj v0 w0 (ay := ay) (by' := cy), ← K_inj v2 w0 (ay := by') (by' := cy)]
        omega
      · refine ifc ?_ _ _
        rw [o0, o1, o3, ← K_inj v0 w2 (ay := ay) (by' := dy), ← K_inj v2 w2 (ay := by') (by' := dy)]
        omega
    rw [if_neg nc, sh]
    generalize K ax ay = a at *
    generalize K bx by' = b at *
    generalize K cx cy = c at *
    generalize K dx dy = d at *
    clear o0 o1 o2 o3 sh nc
    by_cases hap : Apart ax ay bx by' cx cy dx dy
    · have := ap hap
      rw [if_pos hap, if_pos (by omega)]
    · rw [if_neg hap]
      clear ap
      split <;> split <;> split <;> split <;> (repeat' split) <;> omega
  · rw [if_neg col]
    have one : ∀ {px py qx qy : Int}, crs ax ay bx by' px py = 0 → crs cx cy dx dy px py = 0 → crs ax ay bx by' qx qy = 0 → crs cx cy dx dy qx qy = 0 → px = qx ∧ py = qy := fun p0 p1 q0 q1 => one_shared ht col p0 p1 q0 q1
    have s0 := crs_self0 ax ay bx by'
    have s1 := crs_self1 ax ay bx by'
    have t0 := crs_self0 cx cy dx dy
    have t1 := crs_self1 cx cy dx dy
    have e01 : ¬ (On cx cy dx dy ax ay ∧ On cx cy dx dy bx by') := fun ⟨h, h'⟩ => hs (one s0 h.1 s1 h'.1)
    have e23 : ¬ (On ax ay bx by' cx cy ∧ On ax ay bx by' dx dy) := fun ⟨h, h'⟩ => ht (one h.1 t0 h'.1 t1)
    have e02 : On cx cy dx dy ax ay → On ax ay bx by' cx cy → ax = cx ∧ ay = cy := fun h h' => one s0 h.1 h'.1 t0
    have e03 : On cx cy dx dy ax ay → On ax ay bx by' dx dy → ax = dx ∧ ay = dy := fun h h' => one s0 h.1 h'.1 t1
    have e12 : On cx cy dx dy bx by' → On ax ay bx by' cx cy → bx = cx ∧ by' = cy := fun h h' => one s1 h.1 h'.1 t0
    have e13 : On cx cy dx dy bx by' → On ax ay bx by' dx dy → bx = dx ∧ by' = dy := fun h h' => one s1 h.1 h'.1 t1
    have sh : M_Shared ax ay bx by' cx cy dx dy = if On ax ay bx by' cx cy ∨ On ax ay bx by' dx dy ∨ On cx cy dx dy ax ay ∨ On cx cy dx dy bx by' then 1 else 0 := by
      unfold M_Shared
      by_cases h0 : On cx cy dx dy ax ay <;> by_cases h1 : On cx cy dx dy bx by' <;> by_cases h2 : On ax ay bx by' cx cy <;> by_cases h3 : On ax ay bx by' dx dy
      all_goals first
        | exact absurd (And.intro h0 h1) e01
        | exact absurd (And.intro h2 h3) e23
        | (have t := eq_true (e02 h0 h2); simp only [h0, h1, h2, h3, t, if_true, if_false, and_true, true_and, false_and, and_false, not_true, not_false_eq_true, or_true, true_or, or_false, false_or]; first | done | rfl)
        | (have t := eq_true (e03 h0 h3); simp only [h0, h1, h2, h3, t, if_true, if_false, and_true, true_and, false_and, and_false, not_true, not_false_eq_true, or_true, true_or, or_false, false_or]; first | done | rfl)
        | (have t := eq_true (e12 h1 h2); simp only [h0, h1, h2, h3, t, if_true, if_false, and_true, true_and, false_and, and_false, not_true, not_false_eq_true, or_true, true_or, or_false, false_or]; first | done | rfl)
        | (have t := eq_true (e13 h1 h3); simp only [h0, h1, h2, h3, t, if_true, if_false, and_true, true_and, false_and, and_false, not_true, not_false_eq_true, or_true, true_or, or_false, false_or]; first | done | rfl)
        | (simp only [h0, h1, h2, h3, if_true, if_false, and_true, true_and, false_and, and_false, not_true, not_false_eq_true, or_true, true_or, or_false, false_or]; first | done | rfl)
        | (simp only [h0, h1, h2, h3, if_true, if_false, and_true, true_and, false_and, and_false, not_true, not_false_eq_true, or_true, true_or, or_false, false_or]; first | done | rfl)
    rw [sh]
    have cz : crs ax ay bx by' cx cy * crs ax ay bx by' dx dy < 0 ∧ crs cx cy dx dy ax ay * crs cx cy dx dy bx by' < 0 → ¬ (On ax ay bx by' cx cy ∨ On ax ay bx by' dx dy ∨ On cx cy dx dy ax ay ∨ On cx cy dx dy bx by') := by
      rintro ⟨g, g'⟩ (h | h | h | h)
      · rw [h.1, Int.zero_mul] at g; omega
      · rw [h.1, Int.mul_zero] at g; omega
      · rw [h.1, Int.zero_mul] at g'; omega
      · rw [h.1, Int.mul_zero] at g'; omega
    by_cases hap : Apart ax ay bx by' cx cy dx dy
    · have n := apart_no hap
      rw [if_pos hap, if_neg (apart_cross hap), if_neg (by simp [n.1, n.2.1, n.2.2.1, n.2.2.2])]
    · rw [if_neg hap]
      by_cases any : On ax ay bx by' cx cy ∨ On ax ay bx by' dx dy ∨ On cx cy dx dy ax ay ∨ On cx cy dx dy bx by'
      · rw [if_pos any, if_neg (fun h => cz h any), if_neg (by decide), if_pos rfl]
      · rw [if_neg any, if_pos rfl]
def M_LineFrom : List Pt → Pt → Bool
  | [], _ => true
  | x :: r, a => M_IsPoint x.f0 x.f1 && (!(decide (a.f0 = x.f0 ∧ a.f1 = x.f1)) && M_LineFrom r x)
theorem M_LineFrom_cons (x : Pt) (r : List Pt) (a : Pt) : M_LineFrom (x :: r) a = (M_IsPoint x.f0 x.f1 && (!(decide (a.f0 = x.f0 ∧ a.f1 = x.f1)) && M_LineFrom r x)) := rfl
def M_LineOk : List Pt → Bool
  | [] => true
  | x :: r => M_IsPoint x.f0 x.f1 && M_LineFrom r x
def M_IsLine (l : List Pt) : Bool := decide (2 ≤ (l.length : Int) ∧ (l.length : Int) ≤ 10) && M_LineOk l
theorem M_IsLine_len {l : List Pt} (h : M_IsLine l = true) : 2 ≤ l.length ∧ l.length ≤ 10 := by
  unfold M_IsLine at h
  rw [Bool.and_eq_true] at h
  have := of_decide_eq_true h.1
  omega
/-- the segments from each point to the next one -/
def M_Segs : List Pt → List Sg
  | a :: b :: r => ⟨a, b⟩ :: M_Segs (b :: r)
  | _ => []
theorem M_Segs_cons (a b : Pt) (r : List Pt) : M_Segs (a :: b :: r) = ⟨a, b⟩ :: M_Segs (b :: r) := rfl
theorem M_Segs_len : ∀ l : List Pt, (M_Segs l).length = l.length - 1
  | [] => rfl
  | [_] => rfl
  | a :: b :: r => by rw [M_Segs_cons, List.length_cons, M_Segs_len (b :: r)]; simp
def M_SegmentsOf (l : List Pt) : List Sg := if M_IsLine l = true then M_Segs l else []
theorem M_SegmentsOf_len (l : List Pt) : (M_SegmentsOf l).length ≤ 9 := by
  unfold M_SegmentsOf
  split
  · rename_i h
    have := M_IsLine_len h
    rw [M_Segs_len]
    omega
  · simp
def segAt (s : List Sg) (i : Nat) : Sg := s.getD i (⟨⟨0, 0⟩, ⟨0, 0⟩⟩ : Sg)
def M_Meet (s t : Sg) : Int := M_HowMeet s.f0.f0 s.f0.f1 s.f1.f0 s.f1.f1 t.f0.f0 t.f0.f1 t.f1.f0 t.f1.f1
/-- d segments from j on meet the one at i as is wanted -/
def M_row (s : List Sg) (want : Nat → Nat → Int) (i : Nat) : Nat → Nat → Bool
  | 0, _ => true
  | d + 1, j => decide (M_Meet (segAt s i) (segAt s j) = want i j) && M_row s want i d (j + 1)
theorem M_row_succ (s : List Sg) (want : Nat → Nat → Int) (i d j : Nat) : M_row s want i (d + 1) j = (decide (M_Meet (segAt s i) (segAt s j) = want i j) && M_row s want i d (j + 1)) := rfl
def M_rows (s : List Sg) (ok : Sg → Bool) (want : Nat → Nat → Int) : Nat → Nat → Bool
  | 0, _ => true
  | d + 1, i => ok (segAt s i) && (M_row s want i i 0 && M_rows s ok want d (i + 1))
theorem M_rows_succ (s : List Sg) (ok : Sg → Bool) (want : Nat → Nat → Int) (d i : Nat) : M_rows s ok want (d + 1) i = (ok (segAt s i) && (M_row s want i i 0 && M_rows s ok want d (i + 1))) := rfl
def lineWant (i j : Nat) : Int := if j + 1 = i then 1 else 0
def M_IsSimple (l : List Pt) : Bool := M_IsLine l && M_rows (M_Segs l) (fun _ => true) lineWant (M_Segs l).length 0
/-- the segments of a ring -/
def M_around (l : List Pt) : List Sg := (List.range l.length).map fun i => ⟨l.getD i (⟨0, 0⟩ : Pt), l.getD ((i + 1) % l.length) (⟨0, 0⟩ : Pt)⟩
def ringWant (n i j : Nat) : Int := if j + 1 = i ∨ (j = 0 ∧ i + 1 = n) then 1 else 0
def M_segOk (s : Sg) : Bool := M_IsSegment s.f0.f0 s.f0.f1 s.f1.f0 s.f1.f1
def M_IsRing (l : List Pt) : Bool := decide (3 ≤ (l.length : Int) ∧ (l.length : Int) ≤ 10) && M_rows (M_around l) M_segOk (ringWant l.length) l.length 0
end Go.Eng
namespace Go.Eng
open Go Go.Proofs Geo
set_option linter.unusedSimpArgs false
set_option linter.unusedVariables false
set_option maxRecDepth 20000

def inR (x l m : Int) : Bool := decide (l ≤ x ∧ x ≤ m)
def crw (ax ay bx by' px py : Int) : Int := wr .i64 (wr .i64 (wr .i64 (bx - ax) * wr .i64 (py - ay)) - wr .i64 (wr .i64 (by' - ay) * wr .i64 (px - ax)))
theorem crw_crs {ax ay bx by' px py : Int} (h1 : M_IsPoint ax ay = true) (h2 : M_IsPoint bx by' = true) (h3 : M_IsPoint px py = true) : crw ax ay bx by' px py = crs ax ay bx by' px py := by
  have h1 := (M_IsPoint_iff _ _).1 h1
  have h2 := (M_IsPoint_iff _ _).1 h2
  have h3 := (M_IsPoint_iff _ _).1 h3
  exact crs_wrap h1.1 h1.2 h2.1 h2.2 h3.1 h3.2
def wSide (ax ay bx by' px py : Int) : Int := if M_IsPoint ax ay && (M_IsPoint bx by' && M_IsPoint px py) then sgn (crw ax ay bx by' px py) else 0
theorem wSide_eq (ax ay bx by' px py : Int) : wSide ax ay bx by' px py = M_SideOf ax ay bx by' px py := by
  unfold wSide M_SideOf
  split
  · rename_i h
    simp only [Bool.and_eq_true] at h
    rw [crw_crs h.1 h.2.1 h.2.2]
  · rfl
def wOn (ax ay bx by' px py : Int) : Bool := M_IsSegment ax ay bx by' && (M_IsPoint px py && (decide (crw ax ay bx by' px py = 0) && (inR px (min ax bx) (max ax bx) && inR py (min ay by') (max ay by'))))
theorem wOn_eq (ax ay bx by' px py : Int) : wOn ax ay bx by' px py = M_IsOn ax ay bx by' px py := by
  unfold wOn M_IsOn
  by_cases h1 : M_IsSegment ax ay bx by' = true
  · by_cases h2 : M_IsPoint px py = true
    · have h3 := (M_IsSegment_iff _ _ _ _).1 h1
      have h4 := (M_IsPoint_iff _ _).1 h2
      rw [crw_crs ((M_IsPoint_iff _ _).2 h3.1) ((M_IsPoint_iff _ _).2 h3.2.1) h2, h1, h2]
      rw [Bool.eq_iff_iff]; simp [On, Inb, inR, and_assoc]
    · simp [h2]
  · simp [h1]
def wOn2 (ax ay bx by' px py : Int) : Bool := M_IsSegment ax ay bx by' && (M_IsPoint px py && (decide (M_SideOf ax ay bx by' px py = 0) && (inR px (if bx < ax then bx else ax) (if ax < bx then bx else ax) && inR py (if by' < ay then by' else ay) (if ay < by' then by' else ay))))
theorem side_sgn {ax ay bx by' px py : Int} (h1 : M_IsPoint ax ay = true) (h2 : M_IsPoint bx by' = true) (h3 : M_IsPoint px py = true) : M_SideOf ax ay bx by' px py = sgn (crs ax ay bx by' px py) := by
  unfold M_SideOf
  rw [if_pos (by rw [h1, h2, h3]; rfl)]
theorem wOn2_eq (ax ay bx by' px py : Int) : wOn2 ax ay bx by' px py = M_IsOn ax ay bx by' px py := by
  unfold wOn2 M_IsOn
  by_cases h1 : M_IsSegment ax ay bx by' = true
  · by_cases h2 : M_IsPoint px py = true
    · have h3 := (M_IsSegment_iff _ _ _ _).1 h1
      rw [side_sgn ((M_IsPoint_iff _ _).2 h3.1) ((M_IsPoint_iff _ _).2 h3.2.1) h2, h1, h2]
      have e : ∀ x y : Int, (if y < x then y else x) = min x y := by intro x y; omega
      have e' : ∀ x y : Int, (if x < y then y else x) = max x y := by intro x y; omega
      rw [e, e', e, e', Bool.eq_iff_iff]; simp [On, Inb, inR, and_assoc, sgn_zero]
    · simp [h2]
  · simp [h1]
def before (ax ay bx by' : Int) : Bool := decide (ay < by') || (decide (ay = by') && decide (ax < bx))
end Go.Eng
namespace Go.Eng
open Go Go.Proofs Geo
set_option linter.unusedSimpArgs false
set_option linter.unusedVariables false
set_option maxRecDepth 20000

def cp (p : Pt) : List PV := [i p.f0, i p.f1]
theorem at_getD {g : Pt → List PV} {l : List Pt} {n : Nat} (h : n < l.length) : (l.map g)[n]?.getD [] = g (l.getD n ⟨0, 0⟩) := by simp [h]
theorem at_map {α : Type} {g : α → List PV} {l : List α} {n : Nat} (h : n < l.length) : (l.map g)[n]?.getD [] = g l[n] := by simp [h]
theorem all_take {α : Type} {l : List α} {f : α → Bool} {k : Nat} (h : k < l.length) : (l.take (k + 1)).all f = ((l.take k).all f && f l[k]) := by
  rw [List.take_add_one, List.getElem?_eq_getElem h, List.all_append]
  simp only [Option.toList_some, List.all_cons, List.all_nil, Bool.and_true]
def eqb (q p : Pt) : Bool := decide (q.f0 = p.f0 ∧ q.f1 = p.f1)
def maybe (c : Bool) (p : Pt) : List Pt := if c = true then [p] else []
/-- the different ends of both that lie on the other one -/
def shl (S T : Sg) (e : List Pt) : Nat → List Pt
  | 0 => []
  | n + 1 => shl S T e n ++ maybe ((if n < 2 then M_IsOn T.f0.f0 T.f0.f1 T.f1.f0 T.f1.f1 (e.getD n ⟨0, 0⟩).f0 (e.getD n ⟨0, 0⟩).f1 else M_IsOn S.f0.f0 S.f0.f1 S.f1.f0 S.f1.f1 (e.getD n ⟨0, 0⟩).f0 (e.getD n ⟨0, 0⟩).f1) && (shl S T e n).all fun q => !(eqb q (e.getD n ⟨0, 0⟩))) (e.getD n ⟨0, 0⟩)
theorem shl_len (S T : Sg) (e : List Pt) : ∀ n, (shl S T e n).length ≤ n
  | 0 => Nat.le_refl _
  | n + 1 => by
    have := shl_len S T e n
    have hm : ∀ c p, (maybe c p).length ≤ 1 := by intro c p; unfold maybe; split <;> simp
    unfold shl
    rw [List.length_append]
    exact Nat.add_le_add this (hm _ _)
def cs (s : Sg) : List PV := [i s.f0.f0, i s.f0.f1, i s.f1.f0, i s.f1.f1]
def ends (S T : Sg) : List Pt := [S.f0, S.f1, T.f0, T.f1]
end Go.Eng
namespace Go.Eng
open Go Go.Proofs Geo
set_option linter.unusedSimpArgs false
set_option linter.unusedVariables false
set_option maxRecDepth 20000

theorem maybe_all (c : Bool) (p : Pt) (f : Pt → Bool) : (maybe c p).all f = (!c || f p) := by cases c <;> simp [maybe]
theorem maybe_len (c : Bool) (p : Pt) : (maybe c p).length = if c = true then 1 else 0 := by cases c <;> simp [maybe]
theorem shl_eq {ax ay bx by' cx cy dx dy : Int} (h1 : M_IsSegment ax ay bx by' = true) (h2 : M_IsSegment cx cy dx dy = true) :
    ((shl ⟨⟨ax, ay⟩, ⟨bx, by'⟩⟩ ⟨⟨cx, cy⟩, ⟨dx, dy⟩⟩ (ends ⟨⟨ax, ay⟩, ⟨bx, by'⟩⟩ ⟨⟨cx, cy⟩, ⟨dx, dy⟩⟩) 4).length : Int) = M_Shared ax ay bx by' cx cy dx dy := by
  obtain ⟨pa, pb, hs⟩ := (M_IsSegment_iff _ _ _ _).1 h1
  obtain ⟨pc, pd, ht⟩ := (M_IsSegment_iff _ _ _ _).1 h2
  have e4 : ∀ {ax ay bx by' px py : Int}, M_IsSegment ax ay bx by' = true → Vl px ∧ Vl py → M_IsOn ax ay bx by' px py = decide (On ax ay bx by' px py) := by
    intro ax ay bx by' px py g1 g2
    unfold M_IsOn
    rw [g1, (M_IsPoint_iff _ _).2 g2, Bool.true_and, Bool.true_and]
  have n01 : eqb ⟨ax, ay⟩ ⟨bx, by'⟩ = false := decide_eq_false hs
  have n23 : eqb ⟨cx, cy⟩ ⟨dx, dy⟩ = false := decide_eq_false ht
  have E0 : (ends ⟨⟨ax, ay⟩, ⟨bx, by'⟩⟩ ⟨⟨cx, cy⟩, ⟨dx, dy⟩⟩).getD 0 ⟨0, 0⟩ = ⟨ax, ay⟩ := rfl
  have E1 : (ends ⟨⟨ax, ay⟩, ⟨bx, by'⟩⟩ ⟨⟨cx, cy⟩, ⟨dx, dy⟩⟩).getD 1 ⟨0, 0⟩ = ⟨bx, by'⟩ := rfl
  have E2 : (ends ⟨⟨ax, ay⟩, ⟨bx, by'⟩⟩ ⟨⟨cx, cy⟩, ⟨dx, dy⟩⟩).getD 2 ⟨0, 0⟩ = ⟨cx, cy⟩ := rfl
  have E3 : (ends ⟨⟨ax, ay⟩, ⟨bx, by'⟩⟩ ⟨⟨cx, cy⟩, ⟨dx, dy⟩⟩).getD 3 ⟨0, 0⟩ = ⟨dx, dy⟩ := rfl
  simp only [shl, E0, E1, E2, E3, e4 h1 pc, e4 h1 pd, e4 h2 pa, e4 h2 pb, Nat.reduceLT, if_true, if_false, List.nil_append, List.all_nil, Bool.and_true, Nat.reduceAdd, List.all_append, maybe_all, n01, n23, Bool.not_false, Bool.or_true]
  generalize hc0 : decide (On cx cy dx dy ax ay) = c0
  generalize hc1 : decide (On cx cy dx dy bx by') = c1
  generalize hc2 : (decide (On ax ay bx by' cx cy) && ((!c0 || !eqb ⟨ax, ay⟩ ⟨cx, cy⟩) && (!c1 || !eqb ⟨bx, by'⟩ ⟨cx, cy⟩))) = c2
  generalize hc3 : (decide (On ax ay bx by' dx dy) && ((!c0 || !eqb ⟨ax, ay⟩ ⟨dx, dy⟩) && (!c1 || !eqb ⟨bx, by'⟩ ⟨dx, dy⟩))) = c3
  rw [List.length_append, List.length_append, List.length_append, maybe_len, maybe_len, maybe_len, maybe_len]
  unfold M_Shared
  have q0 : c0 = true ↔ On cx cy dx dy ax ay := by rw [← hc0, decide_eq_true_iff]
  have q1 : c1 = true ↔ On cx cy dx dy bx by' := by rw [← hc1, decide_eq_true_iff]
  have nn : ∀ (c : Bool) (p q : Pt), (!c || !eqb p q) = true ↔ ¬ (c = true ∧ p.f0 = q.f0 ∧ p.f1 = q.f1) := by
    intro c p q
    unfold eqb
    by_cases h : p.f0 = q.f0 ∧ p.f1 = q.f1
    · rw [decide_eq_true h]; cases c <;> simp [h.1, h.2]
    · rw [decide_eq_false h]
      exact ⟨fun _ k => h k.2, fun _ => by cases c <;> rfl⟩
  have q2 : c2 = true ↔ On ax ay bx by' cx cy ∧ ¬ (On cx cy dx dy ax ay ∧ ax = cx ∧ ay = cy) ∧ ¬ (On cx cy dx dy bx by' ∧ bx = cx ∧ by' = cy) := by
    rw [← hc2, Bool.and_eq_true, Bool.and_eq_true, decide_eq_true_iff, nn, nn, q0, q1]
  have q3 : c3 = true ↔ On ax ay bx by' dx dy ∧ ¬ (On cx cy dx dy ax ay ∧ ax = dx ∧ ay = dy) ∧ ¬ (On cx cy dx dy bx by' ∧ bx = dx ∧ by' = dy) := by
    rw [← hc3, Bool.and_eq_true, Bool.and_eq_true, decide_eq_true_iff, nn, nn, q0, q1]
  rw [← ifc q0, ← ifc q1, ← ifc q2, ← ifc q3]
  cases c0 <;> cases c1 <;> cases c2 <;> cases c3 <;> rfl
def wHowS (ax ay bx by' cx cy dx dy sh : Int) : Int :=
  if M_IsSegment ax ay bx by' = true ∧ M_IsSegment cx cy dx dy = true then
    if max ax bx < min cx dx ∨ max cx dx < min ax bx ∨ max ay by' < min cy dy ∨ max cy dy < min ay by' then 0
    else if sh = 0 then (if wr .i64 (M_SideOf ax ay bx by' cx cy * M_SideOf ax ay bx by' dx dy) < 0 ∧ wr .i64 (M_SideOf cx cy dx dy ax ay * M_SideOf cx cy dx dy bx by') < 0 then 2 else 0)
    else if sh = 1 then 1 else 3
  else 0
theorem wr_sgn (x y : Int) : wr .i64 (sgn x * sgn y) = sgn x * sgn y := by
  have hx := sgn_le x
  have hy := sgn_le y
  have hb := mul_bound (x := sgn x) (y := sgn y) (by omega) (by omega) (by omega) (by omega)
  exact wrap_id (by omega) (by omega)
theorem wHowS_eq (ax ay bx by' cx cy dx dy : Int) : wHowS ax ay bx by' cx cy dx dy ((shl ⟨⟨ax, ay⟩, ⟨bx, by'⟩⟩ ⟨⟨cx, cy⟩, ⟨dx, dy⟩⟩ (ends ⟨⟨ax, ay⟩, ⟨bx, by'⟩⟩ ⟨⟨cx, cy⟩, ⟨dx, dy⟩⟩) 4).length : Int) = M_HowMeet ax ay bx by' cx cy dx dy := by
  unfold wHowS
  by_cases h : M_IsSegment ax ay bx by' = true ∧ M_IsSegment cx cy dx dy = true
  · rw [if_pos h, shl_eq h.1 h.2]
    obtain ⟨pa, pb, hs⟩ := (M_IsSegment_iff _ _ _ _).1 h.1
    obtain ⟨pc, pd, ht⟩ := (M_IsSegment_iff _ _ _ _).1 h.2
    have qa := (M_IsPoint_iff ax ay).2 pa
    have qb := (M_IsPoint_iff bx by').2 pb
    have qc := (M_IsPoint_iff cx cy).2 pc
    have qd := (M_IsPoint_iff dx dy).2 pd
    rw [M_HowMeet_spec pa.1 pa.2 pb.1 pb.2 hs pc.1 pc.2 pd.1 pd.2 ht, side_sgn qa qb qc, side_sgn qa qb qd, side_sgn qc qd qa, side_sgn qc qd qb, wr_sgn, wr_sgn]
    simp only [sgn_mul]
    rfl
  · rw [if_neg h]; unfold M_HowMeet; rw [if_neg h]
end Go.Eng
namespace Go.Eng
open Go Go.Proofs Geo
set_option linter.unusedSimpArgs false
set_option linter.unusedVariables false
set_option maxRecDepth 20000

theorem before_K {ax ay bx by' : Int} (v0 : Vl ax) (v1 : Vl bx) : before ax ay bx by' = decide (K ax ay < K bx by') := by
  unfold before Vl K at *
  rw [Bool.eq_iff_iff]
  simp
  omega
def wM (lx ly hx hy mx my nx ny : Int) : Int :=
  if before (if before nx ny hx hy then nx else hx) (if before nx ny hx hy then ny else hy) (if before lx ly mx my then mx else lx) (if before lx ly mx my then my else ly) then 0
  else if (if before lx ly mx my then mx else lx) = (if before nx ny hx hy then nx else hx) ∧ (if before lx ly mx my then my else ly) = (if before nx ny hx hy then ny else hy) then 1 else 3
theorem wM_eq {lx ly hx hy mx my nx ny : Int} (u0 : Vl lx) (u1 : Vl hx) (u2 : Vl mx) (u3 : Vl nx) :
    wM lx ly hx hy mx my nx ny = if min (K hx hy) (K nx ny) < max (K lx ly) (K mx my) then 0 else if max (K lx ly) (K mx my) = min (K hx hy) (K nx ny) then 1 else 3 := by
  unfold wM
  rw [before_K u3 u1, before_K u0 u2]
  by_cases d1 : K lx ly < K mx my <;> by_cases d2 : K nx ny < K hx hy <;> simp only [d1, d2, decide_true, decide_false, if_true, if_false, Bool.false_eq_true]
  · rw [before_K u3 u2]
    have ki := K_inj (ay := my) (by' := ny) u2 u3
    simp only [decide_eq_true_eq]
    split <;> split <;> (try split) <;> (try split) <;> omega
  · rw [before_K u1 u2]
    have ki := K_inj (ay := my) (by' := hy) u2 u1
    simp only [decide_eq_true_eq]
    split <;> split <;> (try split) <;> (try split) <;> omega
  · rw [before_K u3 u0]
    have ki := K_inj (ay := ly) (by' := ny) u0 u3
    simp only [decide_eq_true_eq]
    split <;> split <;> (try split) <;> (try split) <;> omega
  · rw [before_K u1 u0]
    have ki := K_inj (ay := ly) (by' := hy) u0 u1
    simp only [decide_eq_true_eq]
    split <;> split <;> (try split) <;> (try split) <;> omega
def wHowI (ax ay bx by' cx cy dx dy : Int) : Int :=
  if M_IsSegment ax ay bx by' = true ∧ M_IsSegment cx cy dx dy = true then
    if M_SideOf ax ay bx by' cx cy = 0 ∧ M_SideOf ax ay bx by' dx dy = 0 then
      wM (if before bx by' ax ay then bx else ax) (if before bx by' ax ay then by' else ay) (if before bx by' ax ay then ax else bx) (if before bx by' ax ay then ay else by')
         (if before dx dy cx cy then dx else cx) (if before dx dy cx cy then dy else cy) (if before dx dy cx cy then cx else dx) (if before dx dy cx cy then cy else dy)
    else if wr .i64 (M_SideOf ax ay bx by' cx cy * M_SideOf ax ay bx by' dx dy) < 0 ∧ wr .i64 (M_SideOf cx cy dx dy ax ay * M_SideOf cx cy dx dy bx by') < 0 then 2
    else if M_IsOn ax ay bx by' cx cy = true ∨ M_IsOn ax ay bx by' dx dy = true ∨ M_IsOn cx cy dx dy ax ay = true ∨ M_IsOn cx cy dx dy bx by' = true then 1 else 0
  else 0
theorem wHowI_eq (ax ay bx by' cx cy dx dy : Int) : wHowI ax ay bx by' cx cy dx dy = M_HowMeet ax ay bx by' cx cy dx dy := by
  unfold wHowI M_HowMeet
  by_cases h : M_IsSegment ax ay bx by' = true ∧ M_IsSegment cx cy dx dy = true
  · rw [if_pos h, if_pos h]
    obtain ⟨pa, pb, hs⟩ := (M_IsSegment_iff _ _ _ _).1 h.1
    obtain ⟨pc, pd, ht⟩ := (M_IsSegment_iff _ _ _ _).1 h.2
    have qa := (M_IsPoint_iff ax ay).2 pa
    have qb := (M_IsPoint_iff bx by').2 pb
    have qc := (M_IsPoint_iff cx cy).2 pc
    have qd := (M_IsPoint_iff dx dy).2 pd
    have e4 : ∀ {ax ay bx by' px py : Int}, M_IsSegment ax ay bx by' = true → M_IsPoint px py = true → (M_IsOn ax ay bx by' px py = true ↔ On ax ay bx by' px py) := by
      intro ax ay bx by' px py g1 g2
      unfold M_IsOn
      rw [g1, g2, Bool.true_and, Bool.true_and, decide_eq_true_iff]
    rw [side_sgn qa qb qc, side_sgn qa qb qd, side_sgn qc qd qa, side_sgn qc qd qb, wr_sgn, wr_sgn, before_K pb.1 pa.1, before_K pd.1 pc.1]
    simp only [sgn_mul, sgn_zero, e4 h.1 qc, e4 h.1 qd, e4 h.2 qa, e4 h.2 qb]
    congr 1
    have mm : ∀ a b : Int, a < b → min b a = a ∧ max b a = b ∧ min a b = a ∧ max a b = b := by intro a b h; omega
    have mn' : ∀ a b : Int, ¬ a < b → min b a = b ∧ max b a = a := by intro a b h; omega
    by_cases s1 : K bx by' < K ax ay <;> by_cases s2 : K dx dy < K cx cy <;> simp only [s1, s2, decide_true, decide_false, if_true, if_false, Bool.false_eq_true]
    · rw [wM_eq pb.1 pa.1 pd.1 pc.1, (mm _ _ s1).1, (mm _ _ s1).2.1, (mm _ _ s2).1, (mm _ _ s2).2.1]
    · rw [wM_eq pb.1 pa.1 pc.1 pd.1, (mm _ _ s1).1, (mm _ _ s1).2.1, (mn' _ _ s2).1, (mn' _ _ s2).2]
    · rw [wM_eq pa.1 pb.1 pd.1 pc.1, (mn' _ _ s1).1, (mn' _ _ s1).2, (mm _ _ s2).1, (mm _ _ s2).2.1]
    · rw [wM_eq pa.1 pb.1 pc.1 pd.1, (mn' _ _ s1).1, (mn' _ _ s1).2, (mn' _ _ s2).1, (mn' _ _ s2).2]
  · rw [if_neg h, if_neg h]
end Go.Eng
namespace Go.Eng
open Go Go.Proofs Geo
set_option linter.unusedSimpArgs false
set_option linter.unusedVariables false
set_option maxRecDepth 20000

def allTo (ok : Nat → Bool) (n : Nat) : Bool := (List.range n).all ok
theorem allTo_bad {ok : Nat → Bool} {n N : Nat} (h : n < N) (hb : ok n = false) : allTo ok N = false := by
  unfold allTo; rw [List.all_eq_false]; exact ⟨n, List.mem_range.2 h, by simp [hb]⟩
theorem allTo_zero {ok : Nat → Bool} : allTo ok 0 = true := rfl
theorem allTo_succ {ok : Nat → Bool} {n : Nat} : allTo ok (n + 1) = (allTo ok n && ok n) := by
  unfold allTo; rw [List.range_succ, List.all_append]; simp
def okAt (l : List Pt) (n : Nat) : Bool := M_IsPoint (l.getD n ⟨0, 0⟩).f0 (l.getD n ⟨0, 0⟩).f1 && !(decide (0 < n) && eqb (l.getD (n - 1) ⟨0, 0⟩) (l.getD n ⟨0, 0⟩))
def wLine (l : List Pt) : Bool := inR l.length 2 10 && allTo (okAt l) l.length
theorem wLine_len {l : List Pt} (h : wLine l = true) : 2 ≤ l.length ∧ l.length ≤ 10 := by
  unfold wLine inR at h
  simp at h
  omega
end Go.Eng
namespace Go.Eng
open Go Go.Proofs Geo
set_option linter.unusedSimpArgs false
set_option linter.unusedVariables false
set_option maxRecDepth 20000

/-- a list that is built index by index -/
def upTo {α : Type} (f : Nat → α) (n : Nat) : List α := (List.range n).map f
theorem upTo_zero {α : Type} {f : Nat → α} : upTo f 0 = [] := rfl
theorem upTo_succ {α : Type} {f : Nat → α} {n : Nat} : upTo f (n + 1) = upTo f n ++ [f n] := by simp [upTo, List.range_succ]
theorem upTo_length {α : Type} {f : Nat → α} {n : Nat} : (upTo f n).length = n := by simp [upTo]
theorem upTo_get {α : Type} {f : Nat → α} {n k : Nat} (h : k < n) : (upTo f n)[k]? = some (f k) := by simp [upTo, h]
theorem tmod_nat (a b : Nat) : ((a : Int) + 1).tmod (b : Int) = (((a + 1) % b : Nat) : Int) := by
  have : ((a : Int) + 1) = ((a + 1 : Nat) : Int) := rfl
  rw [this, Int.ofNat_tmod]
def sgAt (l : List Pt) (k : Nat) : Sg := ⟨l.getD k ⟨0, 0⟩, l.getD (k + 1) ⟨0, 0⟩⟩
def rgAt (l : List Pt) (k : Nat) : Sg := ⟨l.getD k ⟨0, 0⟩, l.getD ((k + 1) % l.length) ⟨0, 0⟩⟩
def wSegs (l : List Pt) : List Sg := if wLine l = true then upTo (sgAt l) (l.length - 1) else []
end Go.Eng
namespace Go.Eng
open Go Go.Proofs Geo
set_option linter.unusedSimpArgs false
set_option linter.unusedVariables false
set_option maxRecDepth 20000
set_option maxHeartbeats 1000000

def sMeet (a b : Sg) : Int := M_HowMeet a.f0.f0 a.f0.f1 a.f1.f0 a.f1.f1 b.f0.f0 b.f0.f1 b.f1.f0 b.f1.f1
def sgD (S : List Sg) (n : Nat) : Sg := S.getD n ⟨⟨0, 0⟩, ⟨0, 0⟩⟩
def rowS (S : List Sg) (n k : Nat) : Bool := decide (sMeet (sgD S n) (sgD S k) = if k + 1 = n then 1 else 0)
def wSimple (l : List Pt) : Bool := wLine l && allTo (fun n => allTo (rowS (wSegs l) n) n) (wSegs l).length
theorem wSegs_len (l : List Pt) : (wSegs l).length ≤ 9 := by
  unfold wSegs
  split
  · rename_i h
    have := wLine_len h
    rw [upTo_length]; omega
  · simp
end Go.Eng
namespace Go.Eng
open Go Go.Proofs Geo
set_option linter.unusedSimpArgs false
set_option linter.unusedVariables false
set_option maxRecDepth 20000
set_option maxHeartbeats 1000000

def rowR (S : List Sg) (n k : Nat) : Bool := decide (sMeet (sgD S n) (sgD S k) = if k + 1 = n ∨ (k = 0 ∧ n + 1 = S.length) then 1 else 0)
def sSeg (a : Sg) : Bool := M_IsSegment a.f0.f0 a.f0.f1 a.f1.f0 a.f1.f1
def ringAt (S : List Sg) (n : Nat) : Bool := sSeg (sgD S n) && allTo (rowR S n) n
def wRing (l : List Pt) : Bool := inR l.length 3 10 && allTo (ringAt (upTo (rgAt l) l.length)) l.length
end Go.Eng
namespace Go.Eng
open Go Go.Proofs Geo
set_option linter.unusedSimpArgs false
set_option linter.unusedVariables false
set_option maxRecDepth 20000
set_option maxHeartbeats 1000000

def lowAt (s : ByteArray) (n : Nat) : Bool := decide (¬ ((s.data[n]?.getD 0).toNat : Int) < 97 ∧ ¬ (122 : Int) < ((s.data[n]?.getD 0).toNat : Int))
def isNm (s : ByteArray) : Bool := allTo (lowAt s) s.size && inR s.size 1 8
structure Ft where
  f0 : Int
  f1 : Int
  f2 : Int
  f3 : ByteArray
  f4 : List Pt
  nl : Bool
def ft (x : Ft) : List PV := [i x.f0, i x.f1, i x.f2, .str x.f3, .lst 2 x.nl (x.f4.map cp)]
def wShape (x : Ft) : Bool := if x.f1 = 1 then decide (x.f4.length = 1) && M_IsPoint (x.f4.getD 0 ⟨0, 0⟩).f0 (x.f4.getD 0 ⟨0, 0⟩).f1 else if x.f1 = 2 then wSimple x.f4 else if x.f1 = 3 then wRing x.f4 else false
def wFeat (x : Ft) : Bool := (inR x.f0 1 99 && (inR x.f2 0 9 && (decide (x.f3 = bs []) || isNm x.f3))) && wShape x
def Ft.okay (x : Ft) : Prop := x.f3.size ≤ 4611686018427387904 ∧ x.f4.length ≤ 1000000000000
end Go.Eng
namespace Go.Eng
open Go Go.Proofs Geo
set_option linter.unusedSimpArgs false
set_option linter.unusedVariables false
set_option maxRecDepth 20000
set_option maxHeartbeats 1000000

structure En where
  f0 : Ft
  f1 : Int
  f2 : Int
  f3 : Bool
def en (x : En) : List PV := [i x.f0.f0, i x.f0.f1, i x.f0.f2, .str x.f0.f3, .lst 2 x.f0.nl (x.f0.f4.map cp), i x.f1, i x.f2, .bool x.f3]
def enD : En := ⟨⟨0, 0, 0, ⟨#[]⟩, [], true⟩, 0, 0, false⟩
def entAt (l : List En) (n : Nat) : Bool := (wFeat (l.getD n enD).f0 && (inR (l.getD n enD).f1 0 100000 && inR (l.getD n enD).f2 1 99)) && !(decide (0 < n) && decide ((l.getD n enD).f0.f0 ≤ (l.getD (n - 1) enD).f0.f0))
def wLog (l : List En) : Bool := decide (l.length ≤ 16) && allTo (entAt l) l.length
/-! sizes -/
def szr (left n : Int) : Int := if left - n < 0 then -1 else left - n
def wtF (x : Ft) : Nat := x.f3.size + x.f4.length
def Ft.fits (x : Ft) : Prop := x.f3.size ≤ 9223372036854775807 ∧ x.f4.length ≤ 9223372036854775807
def wtTo (l : List En) (n : Nat) : Nat := ((l.take n).map fun x => wtF x.f0).sum
theorem wtTo_zero (l : List En) : wtTo l 0 = 0 := rfl
theorem wtTo_succ {l : List En} {n : Nat} (h : n < l.length) : wtTo l (n + 1) = wtTo l n + wtF l[n].f0 := by
  unfold wtTo
  rw [List.take_add_one, List.getElem?_eq_getElem h, List.map_append, List.sum_append]
  simp
theorem wtTo_le {l : List En} {n m : Nat} (h : n ≤ m) : wtTo l n ≤ wtTo l m := by
  unfold wtTo
  have : l.take m = l.take n ++ (l.take m).drop n := by
    have := List.take_append_drop n (l.take m)
    rw [List.take_take, Nat.min_eq_left h] at this
    exact this.symm
  rw [this, List.map_append, List.sum_append]
  omega
def wtL (l : List En) : Nat := l.length + wtTo l l.length
end Go.Eng
namespace Go.Eng
open Go Go.Proofs Geo
set_option linter.unusedSimpArgs false
set_option linter.unusedVariables false
set_option maxRecDepth 20000
set_option maxHeartbeats 1000000

/-! copies -/
/-- a made slice that is filled as far as n -/
def fillTo {α : Type} (g : α → List PV) (z : List PV) (l : List α) (n : Nat) : List (List PV) := (l.map g).take n ++ List.replicate (l.length - n) z
theorem fillTo_zero {α : Type} {g : α → List PV} {z : List PV} {l : List α} : fillTo g z l 0 = List.replicate l.length z := rfl
theorem fillTo_full {α : Type} {g : α → List PV} {z : List PV} {l : List α} : fillTo g z l l.length = l.map g := by
  unfold fillTo; rw [Nat.sub_self, List.take_of_length_le (by simp)]; simp
theorem fillTo_len {α : Type} {g : α → List PV} {z : List PV} {l : List α} {n : Nat} (h : n ≤ l.length) : (fillTo g z l n).length = l.length := by
  unfold fillTo; simp; omega
theorem fillTo_set {α : Type} {g : α → List PV} {z : List PV} {l : List α} {n : Nat} (h : n < l.length) : (fillTo g z l n).set n (g l[n]) = fillTo g z l (n + 1) := by
  unfold fillTo
  have e : l.length - n = (l.length - (n + 1)) + 1 := by omega
  rw [e, List.replicate_succ, List.set_append_right _ _ (by simp; omega)]
  have e2 : n - ((l.map g).take n).length = 0 := by simp; omega
  rw [e2, List.set_cons_zero, List.take_add_one, List.getElem?_map, List.getElem?_eq_getElem h]
  simp
def Ft.fr (x : Ft) : Ft := { x with nl := false }
def En.fr (x : En) : En := { x with f0 := x.f0.fr }
def enz : List PV := [i 0, i 0, i 0, .str (bs []), .lst 2 true [], i 0, i 0, .bool false]
def enf (x : En) : List PV := [i x.f0.f0, i x.f0.f1, i x.f0.f2, .str x.f0.f3, .lst 2 false (x.f0.f4.map cp), i x.f1, i x.f2, .bool x.f3]
theorem wtL_len (l : List En) : l.length ≤ wtL l := Nat.le_add_right ..
theorem wtL_mem {l : List En} {x : En} (h : x ∈ l) : x.f0.f3.size + x.f0.f4.length ≤ wtL l := by
  unfold wtL wtTo
  rw [List.take_of_length_le (Nat.le_refl _)]
  have : ∀ (l : List En), x ∈ l → wtF x.f0 ≤ (l.map fun x => wtF x.f0).sum := by
    intro l
    induction l with
    | nil => intro h; cases h
    | cons y r ih =>
      intro h
      rw [List.map_cons, List.sum_cons]
      rcases List.mem_cons.1 h with rfl | h
      · exact Nat.le_add_right ..
      · have := ih h; omega
  have := this l h
  have e : wtF x.f0 = x.f0.f3.size + x.f0.f4.length := rfl
  omega
end Go.Eng
namespace Go.Eng
open Go Go.Proofs
set_option linter.unusedSimpArgs false
set_option linter.unusedVariables false
set_option maxRecDepth 20000
set_option maxHeartbeats 1000000

/-! lists of listings: sizes, copies, what is read as it was -/
structure Li where
  f0 : ByteArray
  f1 : Int
  f2 : ByteArray
def li (x : Li) : List PV := [.str x.f0, i x.f1, .str x.f2]
def liD : Li := ⟨⟨#[]⟩, 0, ⟨#[]⟩⟩
def wtLi (x : Li) : Nat := x.f0.size + x.f2.size
def Li.fits (x : Li) : Prop := x.f0.size ≤ 9223372036854775807 ∧ x.f2.size ≤ 9223372036854775807
theorem f115 (x : Li) (left : Int) (h0 : 0 ≤ left) (h1 : left ≤ 1048576) (hx : x.fits) : Fn Try.prog 115 false [.agg (li x), i left] (i (szr left (wtLi x : Nat))) := by
  obtain ⟨hx1, hx2⟩ := hx
  unfold li
  refine Fn.by_sx hX (by kernel_rfl) c115 (by kernel_rfl) (by rfl) ?_
  simp [i115, sxa, isPtrN, PV.pcs, elAt, setEl, inAt, elIn, setIn, isLst, cellsOf, Ex.ok, Ex.val, Opd.val, POp.dst, bin_int, binOK_int, bin_str, binOK_str, resOK, resV, RB.val, sub, putc, scB, scL, oneB, conf, Ex.val.eqP, Ex.val.eqL, negV, mxV, mnV, ← wr_eq, wr_zero, wr_one, wr_m1, bst_lst, byteC, partsOK, putAll, appV, nilV, slV, sslV, optB, optNum, and_assoc, exists_and_left, exists_eq_left']
  have hw : wr .i64 (left - x.f0.size) = left - x.f0.size := wr_in (by omega) (by omega)
  by_cases hc : left - x.f0.size < 0
  · repeat' (first | intro _ | (simp [sxa, isPtrN, PV.pcs, elAt, setEl, inAt, elIn, setIn, isLst, cellsOf, Ex.ok, Ex.val, Opd.val, POp.dst, bin_int, binOK_int, bin_str, binOK_str, resOK, resV, RB.val, sub, putc, scB, scL, oneB, conf, Ex.val.eqP, Ex.val.eqL, negV, mxV, mnV, ← wr_eq, wr_zero, wr_one, wr_m1, bst_lst, byteC, partsOK, putAll, appV, nilV, slV, sslV, optB, optNum, and_assoc, exists_and_left, exists_eq_left', *]) | refine CondS_d (fun h => ?_) (fun h => ?_) | refine CondS_b (fun h => ?_) (fun h => ?_) | refine GrdS_d (fun h => ?_) (fun h => ?_) | refine GrdS_b (fun h => ?_) (fun h => ?_) | refine OkS_i (by omega) ?_ | fail)
    unfold szr wtLi; split <;> omega
  · have hw2 : wr .i64 (left - x.f0.size - x.f2.size) = left - x.f0.size - x.f2.size := wr_in (by omega) (by omega)
    repeat' (first | intro _ | (simp [sxa, isPtrN, PV.pcs, elAt, setEl, inAt, elIn, setIn, isLst, cellsOf, Ex.ok, Ex.val, Opd.val, POp.dst, bin_int, binOK_int, bin_str, binOK_str, resOK, resV, RB.val, sub, putc, scB, scL, oneB, conf, Ex.val.eqP, Ex.val.eqL, negV, mxV, mnV, ← wr_eq, wr_zero, wr_one, wr_m1, bst_lst, byteC, partsOK, putAll, appV, nilV, slV, sslV, optB, optNum, and_assoc, exists_and_left, exists_eq_left', *]) | refine CondS_d (fun h => ?_) (fun h => ?_) | refine CondS_b (fun h => ?_) (fun h => ?_) | refine GrdS_d (fun h => ?_) (fun h => ?_) | refine GrdS_b (fun h => ?_) (fun h => ?_) | refine OkS_i (by omega) ?_ | fail)
    all_goals (unfold szr wtLi at *; split at * <;> omega)
def wtToL (l : List Li) (n : Nat) : Nat := ((l.take n).map fun x => wtLi x).sum
theorem wtToL_zero (l : List Li) : wtToL l 0 = 0 := rfl
theorem wtToL_succ {l : List Li} {n : Nat} (h : n < l.length) : wtToL l (n + 1) = wtToL l n + wtLi l[n] := by
  unfold wtToL
  rw [List.take_add_one, List.getElem?_eq_getElem h, List.map_append, List.sum_append]
  simp
theorem wtToL_le {l : List Li} {n m : Nat} (h : n ≤ m) : wtToL l n ≤ wtToL l m := by
  unfold wtToL
  have : l.take m = l.take n ++ (l.take m).drop n := by
    have := List.take_append_drop n (l.take m)
    rw [List.take_take, Nat.min_eq_left h] at this
    exact this.symm
  rw [this, List.map_append, List.sum_append]
  omega
def wtLL (l : List Li) : Nat := l.length + wtToL l l.length
theorem f52 (l : List Li) (nl : Bool) (left : Int) (h0 : 0 ≤ left) (h1 : left ≤ 1048576) (hl : l.length ≤ 9223372036854775807) (hx : ∀ x ∈ l, x.fits) : Fn Try.prog 52 false [.lst 3 nl (l.map li), i left] (i (szr left (wtLL l : Nat))) := by
  refine Fn.by_sx hX (by kernel_rfl) c52 (by kernel_rfl) (by rfl) ?_
  simp [i52, sxa, isPtrN, PV.pcs, elAt, setEl, inAt, elIn, setIn, isLst, cellsOf, Ex.ok, Ex.val, Opd.val, POp.dst, bin_int, binOK_int, bin_str, binOK_str, resOK, resV, RB.val, sub, putc, scB, scL, oneB, conf, Ex.val.eqP, Ex.val.eqL, negV, mxV, mnV, ← wr_eq, wr_zero, wr_one, wr_m1, bst_lst, byteC, partsOK, putAll, appV, nilV, slV, sslV, optB, optNum, and_assoc, exists_and_left, exists_eq_left']
  have hw : wr .i64 (left - l.length) = left - l.length := wr_in (by omega) (by omega)
  by_cases hc : left - l.length < 0
  · repeat' (first | intro _ | (simp [sxa, isPtrN, PV.pcs, elAt, setEl, inAt, elIn, setIn, isLst, cellsOf, Ex.ok, Ex.val, Opd.val, POp.dst, bin_int, binOK_int, bin_str, binOK_str, resOK, resV, RB.val, sub, putc, scB, scL, oneB, conf, Ex.val.eqP, Ex.val.eqL, negV, mxV, mnV, ← wr_eq, wr_zero, wr_one, wr_m1, bst_lst, byteC, partsOK, putAll, appV, nilV, slV, sslV, optB, optNum, and_assoc, exists_and_left, exists_eq_left', *]) | refine CondS_d (fun h => ?_) (fun h => ?_) | refine CondS_b (fun h => ?_) (fun h => ?_) | refine GrdS_d (fun h => ?_) (fun h => ?_) | refine GrdS_b (fun h => ?_) (fun h => ?_) | refine OkS_i (by omega) ?_ | fail)
    unfold szr wtLL; split <;> omega
  · repeat' (first | intro _ | (simp [sxa, isPtrN, PV.pcs, elAt, setEl, inAt, elIn, setIn, isLst, cellsOf, Ex.ok, Ex.val, Opd.val, POp.dst, bin_int, binOK_int, bin_str, binOK_str, resOK, resV, RB.val, sub, putc, scB, scL, oneB, conf, Ex.val.eqP, Ex.val.eqL, negV, mxV, mnV, ← wr_eq, wr_zero, wr_one, wr_m1, bst_lst, byteC, partsOK, putAll, appV, nilV, slV, sslV, optB, optNum, and_assoc, exists_and_left, exists_eq_left', *]) | refine CondS_d (fun h => ?_) (fun h => ?_) | refine CondS_b (fun h => ?_) (fun h => ?_) | refine GrdS_d (fun h => ?_) (fun h => ?_) | refine GrdS_b (fun h => ?_) (fun h => ?_) | refine OkS_i (by omega) ?_ | fail)
    refine sx_count l.length (fun n V => V 0 = .lst 3 nl (l.map li) ∧ V 5 = i n ∧ V 1 = i (left - l.length - wtToL l n) ∧ 0 ≤ left - l.length - wtToL l n) 0 (by omega) (by simp [sxa, isPtrN, PV.pcs, elAt, setEl, inAt, elIn, setIn, isLst, cellsOf, Ex.ok, Ex.val, Opd.val, POp.dst, bin_int, binOK_int, bin_str, binOK_str, resOK, resV, RB.val, sub, putc, scB, scL, oneB, conf, Ex.val.eqP, Ex.val.eqL, negV, mxV, mnV, ← wr_eq, wr_zero, wr_one, wr_m1, bst_lst, byteC, partsOK, putAll, appV, nilV, slV, sslV, optB, optNum, and_assoc, exists_and_left, exists_eq_left', wtToL_zero]; omega) ?_
    rintro n V hn ⟨h0, h5, h1, hp⟩
    have hw : wr .i64 ((n : Int) + 1) = n + 1 := wr_in (by omega) (by omega)
    simp [sxa, isPtrN, PV.pcs, elAt, setEl, inAt, elIn, setIn, isLst, cellsOf, Ex.ok, Ex.val, Opd.val, POp.dst, bin_int, binOK_int, bin_str, binOK_str, resOK, resV, RB.val, sub, putc, scB, scL, oneB, conf, Ex.val.eqP, Ex.val.eqL, negV, mxV, mnV, ← wr_eq, wr_zero, wr_one, wr_m1, bst_lst, byteC, partsOK, putAll, appV, nilV, slV, sslV, optB, optNum, and_assoc, exists_and_left, exists_eq_left', h0, h5]
    refine CondS_d (fun hlt => ?_) (fun hge => ?_)
    · have hlt' : n < l.length := by omega
      have hs := wtToL_succ hlt'
      have hle := wtToL_le (l := l) (n := n + 1) (m := l.length) hlt'
      have hc := f115 l[n] (left - l.length - wtToL l n) hp (by omega) (hx _ (List.getElem_mem ..))
      have hz : szr (left - l.length - wtToL l n) (wtLi l[n] : Nat) = if left - l.length - wtToL l (n + 1) < 0 then -1 else left - l.length - wtToL l (n + 1) := by
        unfold szr; rw [hs]; split <;> split <;> omega
      rw [hz] at hc
      by_cases hneg : left - l.length - wtToL l (n + 1) < 0
      · rw [if_pos hneg] at hc
        repeat' (first | intro _ | (simp [sxa, isPtrN, PV.pcs, elAt, setEl, inAt, elIn, setIn, isLst, cellsOf, Ex.ok, Ex.val, Opd.val, POp.dst, bin_int, binOK_int, bin_str, binOK_str, resOK, resV, RB.val, sub, putc, scB, scL, oneB, conf, Ex.val.eqP, Ex.val.eqL, negV, mxV, mnV, ← wr_eq, wr_zero, wr_one, wr_m1, bst_lst, byteC, partsOK, putAll, appV, nilV, slV, sslV, optB, optNum, and_assoc, exists_and_left, exists_eq_left', li, *]) | refine CallS_i (hc) ?_ | refine CondS_d (fun h => ?_) (fun h => ?_) | refine CondS_b (fun h => ?_) (fun h => ?_) | refine GrdS_d (fun h => ?_) (fun h => ?_) | refine GrdS_b (fun h => ?_) (fun h => ?_) | refine OkS_i (by omega) ?_ | fail)
        unfold szr wtLL; split <;> omega
      · rw [if_neg hneg] at hc
        repeat' (first | intro _ | (simp [sxa, isPtrN, PV.pcs, elAt, setEl, inAt, elIn, setIn, isLst, cellsOf, Ex.ok, Ex.val, Opd.val, POp.dst, bin_int, binOK_int, bin_str, binOK_str, resOK, resV, RB.val, sub, putc, scB, scL, oneB, conf, Ex.val.eqP, Ex.val.eqL, negV, mxV, mnV, ← wr_eq, wr_zero, wr_one, wr_m1, bst_lst, byteC, partsOK, putAll, appV, nilV, slV, sslV, optB, optNum, and_assoc, exists_and_left, exists_eq_left', li, *]) | refine CallS_i (hc) ?_ | refine CondS_d (fun h => ?_) (fun h => ?_) | refine CondS_b (fun h => ?_) (fun h => ?_) | refine GrdS_d (fun h => ?_) (fun h => ?_) | refine GrdS_b (fun h => ?_) (fun h => ?_) | refine OkS_i (by omega) ?_ | fail)
        all_goals omega
    · have : n = l.length := by omega
      subst this
      repeat' (first | intro _ | (simp [sxa, isPtrN, PV.pcs, elAt, setEl, inAt, elIn, setIn, isLst, cellsOf, Ex.ok, Ex.val, Opd.val, POp.dst, bin_int, binOK_int, bin_str, binOK_str, resOK, resV, RB.val, sub, putc, scB, scL, oneB, conf, Ex.val.eqP, Ex.val.eqL, negV, mxV, mnV, ← wr_eq, wr_zero, wr_one, wr_m1, bst_lst, byteC, partsOK, putAll, appV, nilV, slV, sslV, optB, optNum, and_assoc, exists_and_left, exists_eq_left', *]) | refine CondS_d (fun h => ?_) (fun h => ?_) | refine CondS_b (fun h => ?_) (fun h => ?_) | refine GrdS_d (fun h => ?_) (fun h => ?_) | refine GrdS_b (fun h => ?_) (fun h => ?_) | refine OkS_i (by omega) ?_ | fail)
      unfold szr wtLL; split <;> omega
theorem f116 (x : Li) : Fn Try.prog 116 false [.agg (li x)] (.agg (li x)) := by
  unfold li
  refine Fn.by_sx hX (by kernel_rfl) c116 (by kernel_rfl) (by rfl) ?_
  simp [i116, sxa, isPtrN, PV.pcs, elAt, setEl, inAt, elIn, setIn, isLst, cellsOf, Ex.ok, Ex.val, Opd.val, POp.dst, bin_int, binOK_int, bin_str, binOK_str, resOK, resV, RB.val, sub, putc, scB, scL, oneB, conf, Ex.val.eqP, Ex.val.eqL, negV, mxV, mnV, ← wr_eq, wr_zero, wr_one, wr_m1, bst_lst, byteC, partsOK, putAll, appV, nilV, slV, sslV, optB, optNum, and_assoc, exists_and_left, exists_eq_left']
  repeat' (first | intro _ | (simp [sxa, isPtrN, PV.pcs, elAt, setEl, inAt, elIn, setIn, isLst, cellsOf, Ex.ok, Ex.val, Opd.val, POp.dst, bin_int, binOK_int, bin_str, binOK_str, resOK, resV, RB.val, sub, putc, scB, scL, oneB, conf, Ex.val.eqP, Ex.val.eqL, negV, mxV, mnV, ← wr_eq, wr_zero, wr_one, wr_m1, bst_lst, byteC, partsOK, putAll, appV, nilV, slV, sslV, optB, optNum, and_assoc, exists_and_left, exists_eq_left', *]) | refine CondS_d (fun h => ?_) (fun h => ?_) | refine CondS_b (fun h => ?_) (fun h => ?_) | refine GrdS_d (fun h => ?_) (fun h => ?_) | refine GrdS_b (fun h => ?_) (fun h => ?_) | refine OkS_i (by omega) ?_ | fail)
def liz : List PV := [.str (bs []), i 0, .str (bs [])]
theorem f54 (l : List Li) (nl : Bool) (hl : l.length ≤ 1048576) : Fn Try.prog 54 true [.lst 3 nl (l.map li)] (.lst 3 false (l.map li)) := by
  refine Fn.by_sx hX (by kernel_rfl) c54 (by kernel_rfl) (by rfl) ?_
  simp [i54, sxa, isPtrN, PV.pcs, elAt, setEl, inAt, elIn, setIn, isLst, cellsOf, Ex.ok, Ex.val, Opd.val, POp.dst, bin_int, binOK_int, bin_str, binOK_str, resOK, resV, RB.val, sub, putc, scB, scL, oneB, conf, Ex.val.eqP, Ex.val.eqL, negV, mxV, mnV, ← wr_eq, wr_zero, wr_one, wr_m1, bst_lst, byteC, partsOK, putAll, appV, nilV, slV, sslV, optB, optNum, and_assoc, exists_and_left, exists_eq_left']
  repeat' (first | intro _ | (simp [sxa, isPtrN, PV.pcs, elAt, setEl, inAt, elIn, setIn, isLst, cellsOf, Ex.ok, Ex.val, Opd.val, POp.dst, bin_int, binOK_int, bin_str, binOK_str, resOK, resV, RB.val, sub, putc, scB, scL, oneB, conf, Ex.val.eqP, Ex.val.eqL, negV, mxV, mnV, ← wr_eq, wr_zero, wr_one, wr_m1, bst_lst, byteC, partsOK, putAll, appV, nilV, slV, sslV, optB, optNum, and_assoc, exists_and_left, exists_eq_left', *]) | refine CondS_d (fun h => ?_) (fun h => ?_) | refine CondS_b (fun h => ?_) (fun h => ?_) | refine GrdS_d (fun h => ?_) (fun h => ?_) | refine GrdS_b (fun h => ?_) (fun h => ?_) | refine OkS_i (by omega) ?_ | fail)
  refine sx_count l.length (fun n V => V 0 = .lst 3 nl (l.map li) ∧ V 4 = i n ∧ V 3 = .lst 3 false (fillTo li liz l n)) 0 (by omega) (by simp [sxa, isPtrN, PV.pcs, elAt, setEl, inAt, elIn, setIn, isLst, cellsOf, Ex.ok, Ex.val, Opd.val, POp.dst, bin_int, binOK_int, bin_str, binOK_str, resOK, resV, RB.val, sub, putc, scB, scL, oneB, conf, Ex.val.eqP, Ex.val.eqL, negV, mxV, mnV, ← wr_eq, wr_zero, wr_one, wr_m1, bst_lst, byteC, partsOK, putAll, appV, nilV, slV, sslV, optB, optNum, and_assoc, exists_and_left, exists_eq_left', fillTo_zero, liz]) ?_
  rintro n V hn ⟨h0, h4, h3⟩
  have hw : wr .i64 ((n : Int) + 1) = n + 1 := wr_in (by omega) (by omega)
  simp [sxa, isPtrN, PV.pcs, elAt, setEl, inAt, elIn, setIn, isLst, cellsOf, Ex.ok, Ex.val, Opd.val, POp.dst, bin_int, binOK_int, bin_str, binOK_str, resOK, resV, RB.val, sub, putc, scB, scL, oneB, conf, Ex.val.eqP, Ex.val.eqL, negV, mxV, mnV, ← wr_eq, wr_zero, wr_one, wr_m1, bst_lst, byteC, partsOK, putAll, appV, nilV, slV, sslV, optB, optNum, and_assoc, exists_and_left, exists_eq_left', h0, h4]
  refine CondS_d (fun hlt => ?_) (fun hge => ?_)
  · have hlt' : n < l.length := by omega
    have hs : (fillTo li liz l n).set n [.str l[n].f0, i l[n].f1, .str l[n].f2] = fillTo li liz l (n + 1) := fillTo_set hlt'
    have hfl := fillTo_len (g := li) (z := liz) (l := l) (n := n) (by omega)
    have hc := f116 l[n]
    unfold li at hc
    repeat' (first | intro _ | (simp [sxa, isPtrN, PV.pcs, elAt, setEl, inAt, elIn, setIn, isLst, cellsOf, Ex.ok, Ex.val, Opd.val, POp.dst, bin_int, binOK_int, bin_str, binOK_str, resOK, resV, RB.val, sub, putc, scB, scL, oneB, conf, Ex.val.eqP, Ex.val.eqL, negV, mxV, mnV, ← wr_eq, wr_zero, wr_one, wr_m1, bst_lst, byteC, partsOK, putAll, appV, nilV, slV, sslV, optB, optNum, and_assoc, exists_and_left, exists_eq_left', li, *]) | refine CallS_i (hc) ?_ | refine CondS_d (fun h => ?_) (fun h => ?_) | refine CondS_b (fun h => ?_) (fun h => ?_) | refine GrdS_d (fun h => ?_) (fun h => ?_) | refine GrdS_b (fun h => ?_) (fun h => ?_) | refine OkS_i (by omega) ?_ | fail)
    all_goals (try simpa [li] using hs)
  · have : n = l.length := by omega
    subst this
    have hfu := fillTo_full (g := li) (z := liz) (l := l)
    repeat' (first | intro _ | (simp [sxa, isPtrN, PV.pcs, elAt, setEl, inAt, elIn, setIn, isLst, cellsOf, Ex.ok, Ex.val, Opd.val, POp.dst, bin_int, binOK_int, bin_str, binOK_str, resOK, resV, RB.val, sub, putc, scB, scL, oneB, conf, Ex.val.eqP, Ex.val.eqL, negV, mxV, mnV, ← wr_eq, wr_zero, wr_one, wr_m1, bst_lst, byteC, partsOK, putAll, appV, nilV, slV, sslV, optB, optNum, and_assoc, exists_and_left, exists_eq_left', *]) | refine CondS_d (fun h => ?_) (fun h => ?_) | refine CondS_b (fun h => ?_) (fun h => ?_) | refine GrdS_d (fun h => ?_) (fun h => ?_) | refine GrdS_b (fun h => ?_) (fun h => ?_) | refine OkS_i (by omega) ?_ | fail)
theorem f119 (x : Li) : Fn Try.prog 119 false [.agg (li x), .agg (li x)] (.bool true) := by
  unfold li
  refine Fn.by_sx hX (by kernel_rfl) c119 (by kernel_rfl) (by rfl) ?_
  simp [i119, sxa, isPtrN, PV.pcs, elAt, setEl, inAt, elIn, setIn, isLst, cellsOf, Ex.ok, Ex.val, Opd.val, POp.dst, bin_int, binOK_int, bin_str, binOK_str, resOK, resV, RB.val, sub, putc, scB, scL, oneB, conf, Ex.val.eqP, Ex.val.eqL, negV, mxV, mnV, ← wr_eq, wr_zero, wr_one, wr_m1, bst_lst, byteC, partsOK, putAll, appV, nilV, slV, sslV, optB, optNum, and_assoc, exists_and_left, exists_eq_left']
  repeat' (first | intro _ | (simp [sxa, isPtrN, PV.pcs, elAt, setEl, inAt, elIn, setIn, isLst, cellsOf, Ex.ok, Ex.val, Opd.val, POp.dst, bin_int, binOK_int, bin_str, binOK_str, resOK, resV, RB.val, sub, putc, scB, scL, oneB, conf, Ex.val.eqP, Ex.val.eqL, negV, mxV, mnV, ← wr_eq, wr_zero, wr_one, wr_m1, bst_lst, byteC, partsOK, putAll, appV, nilV, slV, sslV, optB, optNum, and_assoc, exists_and_left, exists_eq_left', *]) | refine CondS_d (fun h => ?_) (fun h => ?_) | refine CondS_b (fun h => ?_) (fun h => ?_) | refine GrdS_d (fun h => ?_) (fun h => ?_) | refine GrdS_b (fun h => ?_) (fun h => ?_) | refine OkS_i (by omega) ?_ | fail)
theorem f56 (l : List Li) (n1 n2 : Bool) (hl : l.length ≤ 1000000000000) : Fn Try.prog 56 false [.lst 3 n1 (l.map li), .lst 3 n2 (l.map li)] (.bool true) := by
  refine Fn.by_sx hX (by kernel_rfl) c56 (by kernel_rfl) (by rfl) ?_
  simp [i56, sxa, isPtrN, PV.pcs, elAt, setEl, inAt, elIn, setIn, isLst, cellsOf, Ex.ok, Ex.val, Opd.val, POp.dst, bin_int, binOK_int, bin_str, binOK_str, resOK, resV, RB.val, sub, putc, scB, scL, oneB, conf, Ex.val.eqP, Ex.val.eqL, negV, mxV, mnV, ← wr_eq, wr_zero, wr_one, wr_m1, bst_lst, byteC, partsOK, putAll, appV, nilV, slV, sslV, optB, optNum, and_assoc, exists_and_left, exists_eq_left']
  repeat' (first | intro _ | (simp [sxa, isPtrN, PV.pcs, elAt, setEl, inAt, elIn, setIn, isLst, cellsOf, Ex.ok, Ex.val, Opd.val, POp.dst, bin_int, binOK_int, bin_str, binOK_str, resOK, resV, RB.val, sub, putc, scB, scL, oneB, conf, Ex.val.eqP, Ex.val.eqL, negV, mxV, mnV, ← wr_eq, wr_zero, wr_one, wr_m1, bst_lst, byteC, partsOK, putAll, appV, nilV, slV, sslV, optB, optNum, and_assoc, exists_and_left, exists_eq_left', *]) | refine CondS_d (fun h => ?_) (fun h => ?_) | refine CondS_b (fun h => ?_) (fun h => ?_) | refine GrdS_d (fun h => ?_) (fun h => ?_) | refine GrdS_b (fun h => ?_) (fun h => ?_) | refine OkS_i (by omega) ?_ | fail)
  refine sx_count l.length (fun n V => V 0 = .lst 3 n1 (l.map li) ∧ V 1 = .lst 3 n2 (l.map li) ∧ V 5 = i n) 0 (by omega) (by simp [sxa, isPtrN, PV.pcs, elAt, setEl, inAt, elIn, setIn, isLst, cellsOf, Ex.ok, Ex.val, Opd.val, POp.dst, bin_int, binOK_int, bin_str, binOK_str, resOK, resV, RB.val, sub, putc, scB, scL, oneB, conf, Ex.val.eqP, Ex.val.eqL, negV, mxV, mnV, ← wr_eq, wr_zero, wr_one, wr_m1, bst_lst, byteC, partsOK, putAll, appV, nilV, slV, sslV, optB, optNum, and_assoc, exists_and_left, exists_eq_left']) ?_
  rintro n V hn ⟨h0, h1, h5⟩
  have hw : wr .i64 ((n : Int) + 1) = n + 1 := wr_in (by omega) (by omega)
  simp [sxa, isPtrN, PV.pcs, elAt, setEl, inAt, elIn, setIn, isLst, cellsOf, Ex.ok, Ex.val, Opd.val, POp.dst, bin_int, binOK_int, bin_str, binOK_str, resOK, resV, RB.val, sub, putc, scB, scL, oneB, conf, Ex.val.eqP, Ex.val.eqL, negV, mxV, mnV, ← wr_eq, wr_zero, wr_one, wr_m1, bst_lst, byteC, partsOK, putAll, appV, nilV, slV, sslV, optB, optNum, and_assoc, exists_and_left, exists_eq_left', h0, h5]
  refine CondS_d (fun hlt => ?_) (fun hge => ?_)
  · have hlt' : n < l.length := by omega
    have hc := f119 l[n]
    unfold li at hc
    repeat' (first | intro _ | (simp [sxa, isPtrN, PV.pcs, elAt, setEl, inAt, elIn, setIn, isLst, cellsOf, Ex.ok, Ex.val, Opd.val, POp.dst, bin_int, binOK_int, bin_str, binOK_str, resOK, resV, RB.val, sub, putc, scB, scL, oneB, conf, Ex.val.eqP, Ex.val.eqL, negV, mxV, mnV, ← wr_eq, wr_zero, wr_one, wr_m1, bst_lst, byteC, partsOK, putAll, appV, nilV, slV, sslV, optB, optNum, and_assoc, exists_and_left, exists_eq_left', li, *]) | refine CallS_i (hc) ?_ | refine CondS_d (fun h => ?_) (fun h => ?_) | refine CondS_b (fun h => ?_) (fun h => ?_) | refine GrdS_d (fun h => ?_) (fun h => ?_) | refine GrdS_b (fun h => ?_) (fun h => ?_) | refine OkS_i (by omega) ?_ | fail)
    all_goals simp_all
  · have : n = l.length := by omega
    subst this
    repeat' (first | intro _ | (simp [sxa, isPtrN, PV.pcs, elAt, setEl, inAt, elIn, setIn, isLst, cellsOf, Ex.ok, Ex.val, Opd.val, POp.dst, bin_int, binOK_int, bin_str, binOK_str, resOK, resV, RB.val, sub, putc, scB, scL, oneB, conf, Ex.val.eqP, Ex.val.eqL, negV, mxV, mnV, ← wr_eq, wr_zero, wr_one, wr_m1, bst_lst, byteC, partsOK, putAll, appV, nilV, slV, sslV, optB, optNum, and_assoc, exists_and_left, exists_eq_left', *]) | refine CondS_d (fun h => ?_) (fun h => ?_) | refine CondS_b (fun h => ?_) (fun h => ?_) | refine GrdS_d (fun h => ?_) (fun h => ?_) | refine GrdS_b (fun h => ?_) (fun h => ?_) | refine OkS_i (by omega) ?_ | fail)
theorem wtLL_len (l : List Li) : l.length ≤ wtLL l := Nat.le_add_right ..
end Go.Eng
namespace Go.Eng
open Go Go.Lib
set_option linter.unusedSimpArgs false
set_option linter.unusedVariables false

/-! what slices.Compact leaves of a sorted list; how many a list holds -/
section
variable {α : Type} [Inhabited α] [DecidableEq α]
theorem getB {d : List α} {k : Nat} (h : k < d.length) : d.toArray[k]! = d[k] := by simp [h]
theorem compactTo_mem (d : List α) : ∀ n, n ≤ d.length → ∀ x, x ∈ compactUpTo d.toArray n ↔ ∃ k, k < n ∧ d[k]? = some x := by
  intro n
  induction n with
  | zero => intro _ x; simp [compactUpTo]
  | succ n ih =>
    intro hn x
    have ih := ih (by omega)
    rw [compactUpTo_succ, List.mem_append, ih]
    have hg := getB (d := d) (k := n) (by omega)
    have hdn : d[n]? = some d[n] := List.getElem?_eq_getElem (by omega)
    constructor
    · rintro (⟨k, h1, h2⟩ | h)
      · exact ⟨k, by omega, h2⟩
      · by_cases hk : keeps d.toArray n = true
        · rw [if_pos hk] at h
          simp only [List.mem_singleton] at h
          exact ⟨n, by omega, by rw [h, hg, hdn]⟩
        · rw [if_neg hk] at h; cases h
    · rintro ⟨k, h1, h2⟩
      by_cases hkn : k < n
      · exact .inl ⟨k, hkn, h2⟩
      · obtain rfl : k = n := by omega
        rw [hdn] at h2
        simp only [Option.some.injEq] at h2
        by_cases hk : keeps d.toArray k = true
        · right; rw [if_pos hk, hg, h2]; simp
        · left
          have hk0 : 0 < k := by
            rcases Nat.eq_zero_or_pos k with h0 | h0
            · exfalso; apply hk; subst h0; simp [keeps]
            · exact h0
          have heq : d.toArray[k]! = d.toArray[k - 1]! := by
            by_cases hh : d.toArray[k]! = d.toArray[k - 1]!
            · exact hh
            · exact absurd (keeps_pos hh) hk
          rw [hg, getB (by omega), h2] at heq
          exact ⟨k - 1, by omega, by rw [List.getElem?_eq_getElem (by omega), ← heq]⟩
theorem compact_mem (d : List α) (x : α) : x ∈ compact d ↔ x ∈ d := by
  unfold compact
  rw [compactTo_mem d _ (Nat.le_refl _), List.mem_iff_getElem?]
  constructor
  · rintro ⟨k, _, h⟩; exact ⟨k, h⟩
  · rintro ⟨k, h⟩
    have hk : k < d.length := by
      rcases Nat.lt_or_ge k d.length with h0 | h0
      · exact h0
      · rw [List.getElem?_eq_none h0] at h; cases h
    exact ⟨k, hk, h⟩
theorem compactTo_pw {R : α → α → Prop} (anti : ∀ x y, R x y → R y x → x = y) {d : List α} (hs : d.Pairwise R) : ∀ n, n ≤ d.length → (compactUpTo d.toArray n).Pairwise fun x y => R x y ∧ x ≠ y := by
  intro n
  induction n with
  | zero => intro _; simp [compactUpTo]
  | succ n ih =>
    intro hn
    have ih := ih (by omega)
    rw [compactUpTo_succ, List.pairwise_append]
    refine ⟨ih, by split <;> simp, fun x hx y hy => ?_⟩
    by_cases hk : keeps d.toArray n = true
    case neg => rw [if_neg hk] at hy; cases hy
    rw [if_pos hk] at hy
    simp only [List.mem_singleton] at hy
    rw [getB (by omega)] at hy
    obtain ⟨k, h1, h2⟩ := (compactTo_mem d n (by omega) x).1 hx
    rw [List.getElem?_eq_getElem (by omega)] at h2
    simp only [Option.some.injEq] at h2
    rw [List.pairwise_iff_getElem] at hs
    have hR := hs k n (by omega) (by omega) h1
    subst hy
    rw [h2] at hR
    refine ⟨hR, fun heq => ?_⟩
    have hne : d[n] ≠ d[n - 1]'(by omega) := by
      simp only [keeps, decide_eq_true_eq] at hk
      rcases hk with h0 | h0
      · omega
      · rwa [getB (by omega), getB (by omega)] at h0
    by_cases hkl : k = n - 1
    · subst hkl
      exact hne (heq.symm.trans h2.symm)
    · have r1 := hs k (n - 1) (by omega) (by omega) (by omega)
      have r2 := hs (n - 1) n (by omega) (by omega) (by omega)
      rw [h2, heq] at r1
      exact hne (anti _ _ r1 r2)
theorem compact_pw {R : α → α → Prop} (anti : ∀ x y, R x y → R y x → x = y) {d : List α} (hs : d.Pairwise R) : (compact d).Pairwise fun x y => R x y ∧ x ≠ y := compactTo_pw anti hs _ (Nat.le_refl _)
theorem compact_nodup {R : α → α → Prop} (anti : ∀ x y, R x y → R y x → x = y) {d : List α} (hs : d.Pairwise R) : (compact d).Nodup := (compact_pw anti hs).imp fun h => h.2

/-- the first of each -/
def dL (l : List α) : Nat → List α
  | 0 => []
  | n + 1 => if l.getD n default ∈ dL l n then dL l n else dL l n ++ [l.getD n default]
theorem dL_mem (l : List α) : ∀ n x, x ∈ dL l n ↔ ∃ k, k < n ∧ l.getD k default = x := by
  intro n
  induction n with
  | zero => intro x; simp [dL]
  | succ n ih =>
    intro x
    unfold dL
    split
    · rename_i h
      rw [ih]
      constructor
      · rintro ⟨k, h1, h2⟩; exact ⟨k, by omega, h2⟩
      · rintro ⟨k, h1, h2⟩
        by_cases hk : k < n
        · exact ⟨k, hk, h2⟩
        · obtain rfl : k = n := by omega
          rw [ih] at h
          obtain ⟨j, h3, h4⟩ := h
          exact ⟨j, h3, h4.trans h2⟩
    · rename_i h
      rw [List.mem_append, ih]
      constructor
      · rintro (⟨k, h1, h2⟩ | h)
        · exact ⟨k, by omega, h2⟩
        · simp only [List.mem_singleton] at h
          exact ⟨n, by omega, h.symm⟩
      · rintro ⟨k, h1, h2⟩
        by_cases hk : k < n
        · exact .inl ⟨k, hk, h2⟩
        · obtain rfl : k = n := by omega
          right; rw [List.mem_singleton]; exact h2.symm
theorem dL_nodup (l : List α) : ∀ n, (dL l n).Nodup := by
  intro n
  induction n with
  | zero => simp [dL]
  | succ n ih =>
    unfold dL
    split
    · exact ih
    · rename_i h
      rw [List.nodup_append]
      exact ⟨ih, by simp, fun a ha b hb => by simp only [List.mem_singleton] at hb; subst hb; exact fun e => h (e ▸ ha)⟩
theorem dL_len (l : List α) (n : Nat) : (dL l n).length ≤ n := by
  induction n with
  | zero => simp [dL]
  | succ n ih =>
    unfold dL
    split
    · omega
    · rw [List.length_append, List.length_singleton]; omega
theorem dL_compact {R : α → α → Prop} (anti : ∀ x y, R x y → R y x → x = y) {l d : List α} (hp : d.Perm l) (hs : d.Pairwise R) : (compact d).length = (dL l l.length).length := by
  refine List.Perm.length_eq ((List.perm_ext_iff_of_nodup (compact_nodup anti hs) (dL_nodup _ _)).2 fun x => ?_)
  rw [compact_mem, hp.mem_iff, dL_mem, List.mem_iff_getElem?]
  constructor
  · rintro ⟨k, h⟩
    have hk : k < l.length := by
      rcases Nat.lt_or_ge k l.length with h0 | h0
      · exact h0
      · rw [List.getElem?_eq_none h0] at h; cases h
    exact ⟨k, hk, by rw [List.getD_eq_getElem?_getD, h]; rfl⟩
  · rintro ⟨k, hk, h⟩
    exact ⟨k, by rw [List.getElem?_eq_getElem hk, ← h]; simp [hk]⟩
end
theorem strs_sorted (l : List (List UInt8)) : (l.mergeSort fun x y => decide (x ≤ y)).Pairwise fun x y => x ≤ y :=
  (List.pairwise_mergeSort (le := fun x y : List UInt8 => decide (x ≤ y)) (fun a b c h1 h2 => by simp only [decide_eq_true_eq] at *; exact List.le_trans h1 h2) (fun a b => by simp only [Bool.or_eq_true, decide_eq_true_eq]; exact List.le_total a b) l).imp fun h => of_decide_eq_true h
theorem ints_sorted (l : List Int) : (l.mergeSort fun x y => decide (x ≤ y)).Pairwise fun x y => x ≤ y :=
  (List.pairwise_mergeSort (le := fun x y : Int => decide (x ≤ y)) (fun a b c h1 h2 => by simp only [decide_eq_true_eq] at *; omega) (fun a b => by simp only [Bool.or_eq_true, decide_eq_true_eq]; omega) l).imp fun h => of_decide_eq_true h
end Go.Eng
namespace Go.Eng
open Go Go.Proofs Go.Shelf
set_option linter.unusedSimpArgs false
set_option linter.unusedVariables false
set_option maxRecDepth 20000
set_option maxHeartbeats 1000000

/-! slices.Sort, slices.Compact at strings. WRITES -/
def rhoSortS : Ren := ⟨fun n => if n = 6 then 117 else if n = 8 then 161 else if n = 9 then 160 else if n = 19 then 196 else if n = 20 then 197 else if n = 21 then 187 else if n = 22 then 188 else if n = 23 then 189 else if n = 24 then 190 else if n = 25 then 191 else if n = 26 then 192 else if n = 27 then 193 else if n = 28 then 194 else if n = 29 then 195 else if n = 31 then 226 else if n = 32 then 227 else if n = 36 then 225 else if n = 37 then 228 else if n = 38 then 229 else if n = 39 then 230 else if n = 41 then 250 else 0, fun n => if n = 0 then 0 else if n = 3 then 3 else if n = 4 then 4 else if n = 5 then 5 else if n = 9 then 9 else if n = 26 then 140 else if n = 27 then 140 else if n = 29 then 9 else if n = 32 then 178 else if n = 35 then 197 else if n = 36 then 198 else if n = 41 then 26 else if n = 44 then 205 else if n = 46 then 207 else if n = 53 then 226 else if n = 57 then 230 else if n = 63 then 239 else if n = 64 then 240 else 0, fun n => n⟩
theorem LSortS : SlLaysM.n6 Try.prog rhoSortS where
  mixed := by kernel_rfl
  f6 := ⟨fnm Try.prog 117, by kernel_rfl, by kernel_rfl⟩
  f8 := by kernel_rfl
  f9 := ⟨fnm Try.prog 160, by kernel_rfl, by kernel_rfl⟩
  f19 := by kernel_rfl
  f20 := by kernel_rfl
  f21 := ⟨fnm Try.prog 187, by kernel_rfl, by kernel_rfl⟩
  f22 := ⟨fnm Try.prog 188, by kernel_rfl, by kernel_rfl⟩
  f23 := ⟨fnm Try.prog 189, by kernel_rfl, by kernel_rfl⟩
  f24 := ⟨fnm Try.prog 190, by kernel_rfl, by kernel_rfl⟩
  f25 := ⟨fnm Try.prog 191, by kernel_rfl, by kernel_rfl⟩
  f26 := ⟨fnm Try.prog 192, by kernel_rfl, by kernel_rfl⟩
  f27 := ⟨fnm Try.prog 193, by kernel_rfl, by kernel_rfl⟩
  f28 := ⟨fnm Try.prog 194, by kernel_rfl, by kernel_rfl⟩
  f29 := ⟨fnm Try.prog 195, by kernel_rfl, by kernel_rfl⟩
  f31 := by kernel_rfl
  f32 := by kernel_rfl
  f36 := ⟨fnm Try.prog 225, by kernel_rfl, by kernel_rfl⟩
  f37 := ⟨fnm Try.prog 228, by kernel_rfl, by kernel_rfl⟩
  f38 := ⟨fnm Try.prog 229, by kernel_rfl, by kernel_rfl⟩
  f39 := ⟨fnm Try.prog 230, by kernel_rfl, by kernel_rfl⟩
  f41 := ⟨fnm Try.prog 250, by kernel_rfl, by kernel_rfl⟩
  t0 := by kernel_rfl
  a0 := fun _ => by kernel_rfl
  z0 := fun _ => by kernel_rfl
  v0 := fun _ => by kernel_rfl
  t3 := by kernel_rfl
  a3 := fun _ => by kernel_rfl
  z3 := fun _ => by kernel_rfl
  v3 := fun _ => by kernel_rfl
  t4 := by kernel_rfl
  a4 := fun _ => by kernel_rfl
  z4 := fun _ => by kernel_rfl
  v4 := fun _ => by kernel_rfl
  t5 := by kernel_rfl
  a5 := fun _ => by kernel_rfl
  z5 := fun _ => by kernel_rfl
  v5 := fun _ => by kernel_rfl
  t9 := by kernel_rfl
  a9 := fun _ => by kernel_rfl
  z9 := fun _ => by kernel_rfl
  v9 := fun _ => by kernel_rfl
  t26 := by kernel_rfl
  a26 := fun _ => by kernel_rfl
  z26 := fun _ => by kernel_rfl
  v26 := fun _ => by kernel_rfl
  t27 := by kernel_rfl
  a27 := fun _ => by kernel_rfl
  z27 := fun _ => by kernel_rfl
  v27 := fun _ => by kernel_rfl
  t29 := by kernel_rfl
  a29 := fun _ => by kernel_rfl
  z29 := fun _ => by kernel_rfl
  v29 := fun _ => by kernel_rfl
  t32 := by kernel_rfl
  a32 := fun _ => by kernel_rfl
  z32 := fun _ => by kernel_rfl
  v32 := fun _ => by kernel_rfl
  t35 := by kernel_rfl
  a35 := fun _ => by kernel_rfl
  z35 := fun _ => by kernel_rfl
  v35 := fun _ => by kernel_rfl
  t36 := by kernel_rfl
  a36 := fun _ => by kernel_rfl
  z36 := fun _ => by kernel_rfl
  v36 := fun _ => by kernel_rfl
  t41 := by kernel_rfl
  a41 := fun _ => by kernel_rfl
  z41 := fun _ => by kernel_rfl
  v41 := fun _ => by kernel_rfl
  t44 := by kernel_rfl
  a44 := fun _ => by kernel_rfl
  z44 := fun _ => by kernel_rfl
  v44 := fun _ => by kernel_rfl
  t46 := by kernel_rfl
  a46 := fun _ => by kernel_rfl
  z46 := fun _ => by kernel_rfl
  v46 := fun _ => by kernel_rfl
  t53 := by kernel_rfl
  a53 := fun _ => by kernel_rfl
  z53 := fun _ => by kernel_rfl
  v53 := fun _ => by kernel_rfl
  t57 := by kernel_rfl
  a57 := fun _ => by kernel_rfl
  z57 := fun _ => by kernel_rfl
  v57 := fun _ => by kernel_rfl
  t63 := by kernel_rfl
  a63 := fun _ => by kernel_rfl
  z63 := fun _ => by kernel_rfl
  v63 := fun _ => by kernel_rfl
  t64 := by kernel_rfl
  a64 := fun _ => by kernel_rfl
  z64 := fun _ => by kernel_rfl
  v64 := fun _ => by kernel_rfl
def rhoCompS : Ren := ⟨fun n => if n = 44 then 118 else 0, fun n => if n = 0 then 0 else if n = 3 then 3 else if n = 4 then 4 else if n = 25 then 140 else if n = 26 then 9 else 0, fun n => n⟩
theorem LCompS : SlLaysN.n44 Try.prog rhoCompS where
  mixed := by kernel_rfl
  f44 := ⟨fnm Try.prog 118, by kernel_rfl, by kernel_rfl⟩
  t0 := by kernel_rfl
  a0 := fun _ => by kernel_rfl
  z0 := fun _ => by kernel_rfl
  v0 := fun _ => by kernel_rfl
  t3 := by kernel_rfl
  a3 := fun _ => by kernel_rfl
  z3 := fun _ => by kernel_rfl
  v3 := fun _ => by kernel_rfl
  t4 := by kernel_rfl
  a4 := fun _ => by kernel_rfl
  z4 := fun _ => by kernel_rfl
  v4 := fun _ => by kernel_rfl
  t25 := by kernel_rfl
  a25 := fun _ => by kernel_rfl
  z25 := fun _ => by kernel_rfl
  v25 := fun _ => by kernel_rfl
  t26 := by kernel_rfl
  a26 := fun _ => by kernel_rfl
  z26 := fun _ => by kernel_rfl
  v26 := fun _ => by kernel_rfl
  i26 := by kernel_rfl
theorem f117 (nl : Bool) (zs : List (List UInt8)) (hsz : zs.length < 4611686018427387904) :
    FnM Try.prog 117 [.lst 1 nl (zs.map fun z => [strC z])] (.tup []) (.lst 1 nl ((zs.mergeSort fun x y => decide (x ≤ y)).map fun z => [strC z])) := sortStr_M LSortS (by kernel_rfl) nl zs hsz
theorem f118 (nl : Bool) (zs : List (List UInt8)) (hsz : zs.length ≤ 9223372036854775807) :
    FnX Try.prog 118 [.lst 1 nl (zs.map fun z => [strC z])] (.lst 1 nl ((Lib.compact zs).map fun z => [strC z])) := compactStr_X LCompS (by kernel_rfl) nl zs (Lib.compact_length_le zs) hsz
end Go.Eng
namespace Go.Eng
open Go Go.Proofs
set_option linter.unusedSimpArgs false
set_option linter.unusedVariables false
set_option maxRecDepth 20000
set_option maxHeartbeats 1000000

/-! how many names a list holds. WRITES -/
def nmB (x : Li) : List UInt8 := x.f0.data.toList
theorem nmB_eq {x y : Li} : nmB x = nmB y ↔ x.f0 = y.f0 := by
  obtain ⟨⟨⟨a⟩⟩, _, _⟩ := x
  obtain ⟨⟨⟨b⟩⟩, _, _⟩ := y
  simp [nmB]
theorem strC_nm (x : Li) : strC (nmB x) = .str x.f0 := by
  obtain ⟨⟨⟨a⟩⟩, _, _⟩ := x
  rfl
def frsAt (l : List Li) (n k : Nat) : Bool := !decide ((l.getD k liD).f0 = (l.getD n liD).f0)
theorem frs_dL {l : List Li} {n : Nat} (hn : n < l.length) : allTo (frsAt l n) n = true ↔ (l.map nmB).getD n default ∉ dL (l.map nmB) n := by
  have hg : ∀ k, k < l.length → (l.map nmB).getD k default = nmB (l.getD k liD) := fun k hk => by simp [hk]
  rw [dL_mem]
  unfold allTo
  rw [List.all_eq_true]
  constructor
  · rintro h ⟨k, h1, h2⟩
    rw [hg k (by omega), hg n hn, nmB_eq] at h2
    have := h k (List.mem_range.2 h1)
    unfold frsAt at this
    rw [h2] at this
    simp at this
  · intro h k hk
    have hk := List.mem_range.1 hk
    unfold frsAt
    by_cases he : (l.getD k liD).f0 = (l.getD n liD).f0
    · exact absurd ⟨k, hk, by rw [hg k (by omega), hg n hn, nmB_eq]; exact he⟩ h
    · rw [decide_eq_false he]; rfl
def cnt (l : List Li) (n : Nat) : Int := (dL (l.map nmB) n).length
theorem cnt_succ {l : List Li} {n : Nat} (hn : n < l.length) : cnt l (n + 1) = if allTo (frsAt l n) n = true then cnt l n + 1 else cnt l n := by
  have h := frs_dL hn
  show ((dL (l.map nmB) (n + 1)).length : Int) = _
  unfold dL
  by_cases hm : (l.map nmB).getD n default ∈ dL (l.map nmB) n
  · rw [if_pos hm, if_neg (fun hh => (h.1 hh) hm)]; rfl
  · rw [if_neg hm, if_pos (h.2 hm)]; simp [cnt]
theorem cnt_le (l : List Li) (n : Nat) : 0 ≤ cnt l n ∧ cnt l n ≤ n := ⟨by unfold cnt; omega, by unfold cnt; have := dL_len (l.map nmB) n; omega⟩
theorem f53 (l : List Li) (nl : Bool) (hl : l.length ≤ 1000000000) : Fn Try.prog 53 false [.lst 3 nl (l.map li)] (i (cnt l l.length)) := by
  refine Fn.by_sx hX (by kernel_rfl) c53 (by kernel_rfl) (by rfl) ?_
  simp [i53, sxa, isPtrN, PV.pcs, elAt, setEl, inAt, elIn, setIn, isLst, cellsOf, Ex.ok, Ex.val, Opd.val, POp.dst, bin_int, binOK_int, bin_str, binOK_str, resOK, resV, RB.val, sub, putc, scB, scL, oneB, conf, Ex.val.eqP, Ex.val.eqL, negV, mxV, mnV, ← wr_eq, wr_zero, wr_one, wr_m1, bst_lst, byteC, partsOK, putAll, appV, nilV, slV, sslV, optB, optNum, and_assoc, exists_and_left, exists_eq_left']
  refine sx_count l.length (fun n V => V 0 = .lst 3 nl (l.map li) ∧ V 4 = i n ∧ V 3 = i (cnt l n)) 0 (by omega) (by simp [sxa, isPtrN, PV.pcs, elAt, setEl, inAt, elIn, setIn, isLst, cellsOf, Ex.ok, Ex.val, Opd.val, POp.dst, bin_int, binOK_int, bin_str, binOK_str, resOK, resV, RB.val, sub, putc, scB, scL, oneB, conf, Ex.val.eqP, Ex.val.eqL, negV, mxV, mnV, ← wr_eq, wr_zero, wr_one, wr_m1, bst_lst, byteC, partsOK, putAll, appV, nilV, slV, sslV, optB, optNum, and_assoc, exists_and_left, exists_eq_left']; rfl) ?_
  rintro n V hn ⟨h0, h4, h3⟩
  have hw : wr .i64 ((n : Int) + 1) = n + 1 := wr_in (by omega) (by omega)
  simp [sxa, isPtrN, PV.pcs, elAt, setEl, inAt, elIn, setIn, isLst, cellsOf, Ex.ok, Ex.val, Opd.val, POp.dst, bin_int, binOK_int, bin_str, binOK_str, resOK, resV, RB.val, sub, putc, scB, scL, oneB, conf, Ex.val.eqP, Ex.val.eqL, negV, mxV, mnV, ← wr_eq, wr_zero, wr_one, wr_m1, bst_lst, byteC, partsOK, putAll, appV, nilV, slV, sslV, optB, optNum, and_assoc, exists_and_left, exists_eq_left', h0, h4]
  refine CondS_d (fun hlt => ?_) (fun hge => ?_)
  · have hlt' : n < l.length := by omega
    have hs := cnt_succ hlt'
    have hb := cnt_le l n
    have hw2 : wr .i64 (cnt l n + 1) = cnt l n + 1 := wr_in (by omega) (by omega)
    simp [sxa, isPtrN, PV.pcs, elAt, setEl, inAt, elIn, setIn, isLst, cellsOf, Ex.ok, Ex.val, Opd.val, POp.dst, bin_int, binOK_int, bin_str, binOK_str, resOK, resV, RB.val, sub, putc, scB, scL, oneB, conf, Ex.val.eqP, Ex.val.eqL, negV, mxV, mnV, ← wr_eq, wr_zero, wr_one, wr_m1, bst_lst, byteC, partsOK, putAll, appV, nilV, slV, sslV, optB, optNum, and_assoc, exists_and_left, exists_eq_left', h0, h4, h3]
    refine sx_count n (fun j V => V 0 = .lst 3 nl (l.map li) ∧ V 4 = i n ∧ V 3 = i (cnt l n) ∧ V 6 = i j ∧ V 5 = .bool (allTo (frsAt l n) j)) 0 (by omega) (by simp [sxa, isPtrN, PV.pcs, elAt, setEl, inAt, elIn, setIn, isLst, cellsOf, Ex.ok, Ex.val, Opd.val, POp.dst, bin_int, binOK_int, bin_str, binOK_str, resOK, resV, RB.val, sub, putc, scB, scL, oneB, conf, Ex.val.eqP, Ex.val.eqL, negV, mxV, mnV, ← wr_eq, wr_zero, wr_one, wr_m1, bst_lst, byteC, partsOK, putAll, appV, nilV, slV, sslV, optB, optNum, and_assoc, exists_and_left, exists_eq_left', h0, h4, h3, allTo_zero]) ?_
    rintro j V hj ⟨h0, h4, h3, h6, h5⟩
    have hw3 : wr .i64 ((j : Int) + 1) = j + 1 := wr_in (by omega) (by omega)
    simp [sxa, isPtrN, PV.pcs, elAt, setEl, inAt, elIn, setIn, isLst, cellsOf, Ex.ok, Ex.val, Opd.val, POp.dst, bin_int, binOK_int, bin_str, binOK_str, resOK, resV, RB.val, sub, putc, scB, scL, oneB, conf, Ex.val.eqP, Ex.val.eqL, negV, mxV, mnV, ← wr_eq, wr_zero, wr_one, wr_m1, bst_lst, byteC, partsOK, putAll, appV, nilV, slV, sslV, optB, optNum, and_assoc, exists_and_left, exists_eq_left', h6, h4]
    refine CondS_d (fun hlt2 => ?_) (fun hge2 => ?_)
    · have hj' : j < l.length := by omega
      have hjn : j < n := by omega
      have hsu := allTo_succ (ok := frsAt l n) (n := j)
      have hfr : frsAt l n j = !decide (l[j].f0 = l[n].f0) := by unfold frsAt; simp [hj', hlt']
      rw [hfr] at hsu
      repeat' (first | intro _ | (simp [sxa, isPtrN, PV.pcs, elAt, setEl, inAt, elIn, setIn, isLst, cellsOf, Ex.ok, Ex.val, Opd.val, POp.dst, bin_int, binOK_int, bin_str, binOK_str, resOK, resV, RB.val, sub, putc, scB, scL, oneB, conf, Ex.val.eqP, Ex.val.eqL, negV, mxV, mnV, ← wr_eq, wr_zero, wr_one, wr_m1, bst_lst, byteC, partsOK, putAll, appV, nilV, slV, sslV, optB, optNum, and_assoc, exists_and_left, exists_eq_left', li, *]) | refine CondS_d (fun h => ?_) (fun h => ?_) | refine CondS_b (fun h => ?_) (fun h => ?_) | refine GrdS_d (fun h => ?_) (fun h => ?_) | refine GrdS_b (fun h => ?_) (fun h => ?_) | refine OkS_i (by omega) ?_ | fail)
      all_goals simp_all
    · have : j = n := by omega
      subst this
      repeat' (first | intro _ | (simp [sxa, isPtrN, PV.pcs, elAt, setEl, inAt, elIn, setIn, isLst, cellsOf, Ex.ok, Ex.val, Opd.val, POp.dst, bin_int, binOK_int, bin_str, binOK_str, resOK, resV, RB.val, sub, putc, scB, scL, oneB, conf, Ex.val.eqP, Ex.val.eqL, negV, mxV, mnV, ← wr_eq, wr_zero, wr_one, wr_m1, bst_lst, byteC, partsOK, putAll, appV, nilV, slV, sslV, optB, optNum, and_assoc, exists_and_left, exists_eq_left', *]) | refine CondS_d (fun h => ?_) (fun h => ?_) | refine CondS_b (fun h => ?_) (fun h => ?_) | refine GrdS_d (fun h => ?_) (fun h => ?_) | refine GrdS_b (fun h => ?_) (fun h => ?_) | refine OkS_i (by omega) ?_ | fail)
      all_goals simp_all
  · have : n = l.length := by omega
    subst this
    repeat' (first | intro _ | (simp [sxa, isPtrN, PV.pcs, elAt, setEl, inAt, elIn, setIn, isLst, cellsOf, Ex.ok, Ex.val, Opd.val, POp.dst, bin_int, binOK_int, bin_str, binOK_str, resOK, resV, RB.val, sub, putc, scB, scL, oneB, conf, Ex.val.eqP, Ex.val.eqL, negV, mxV, mnV, ← wr_eq, wr_zero, wr_one, wr_m1, bst_lst, byteC, partsOK, putAll, appV, nilV, slV, sslV, optB, optNum, and_assoc, exists_and_left, exists_eq_left', *]) | refine CondS_d (fun h => ?_) (fun h => ?_) | refine CondS_b (fun h => ?_) (fun h => ?_) | refine GrdS_d (fun h => ?_) (fun h => ?_) | refine GrdS_b (fun h => ?_) (fun h => ?_) | refine OkS_i (by omega) ?_ | fail)
theorem cnt_compact (l : List Li) : ((Lib.compact ((l.map nmB).mergeSort fun x y => decide (x ≤ y))).length : Int) = cnt l l.length := by
  unfold cnt
  have := dL_compact (R := fun x y : List UInt8 => x ≤ y) (fun x y h1 h2 => List.le_antisymm h1 h2) (List.mergeSort_perm (l.map nmB) (fun x y => decide (x ≤ y))) (strs_sorted _)
  rw [this, List.length_map]
theorem f55 (l : List Li) (nl : Bool) (hl : l.length ≤ 1000000000) : Fn Try.prog 55 false [.lst 3 nl (l.map li)] (i (cnt l l.length)) := by
  have hN : (l.map fun x => [PV.str x.f0]) = (l.map nmB).map fun z => [strC z] := by
    rw [List.map_map]
    exact List.map_congr_left fun x _ => by simp [strC_nm]
  have c1 := f117 false (l.map nmB) (by rw [List.length_map]; omega)
  have c2 := f118 false ((l.map nmB).mergeSort fun x y => decide (x ≤ y)) (by rw [List.length_mergeSort, List.length_map]; omega)
  rw [← hN] at c1
  have hc := cnt_compact l
  obtain ⟨S, hS⟩ : ∃ S, (((l.map nmB).mergeSort fun x y => decide (x ≤ y)).map fun z => [strC z]) = S := ⟨_, rfl⟩
  rw [hS] at c1 c2
  obtain ⟨T, hT⟩ : ∃ T, (Lib.compact ((l.map nmB).mergeSort fun x y => decide (x ≤ y))) = T := ⟨_, rfl⟩
  rw [hT] at c2 hc
  clear hS hT hN
  refine Fn.by_sx hX (by kernel_rfl) c55 (by kernel_rfl) (by rfl) ?_
  simp [i55, sxa, isPtrN, PV.pcs, elAt, setEl, inAt, elIn, setIn, isLst, cellsOf, Ex.ok, Ex.val, Opd.val, POp.dst, bin_int, binOK_int, bin_str, binOK_str, resOK, resV, RB.val, sub, putc, scB, scL, oneB, conf, Ex.val.eqP, Ex.val.eqL, negV, mxV, mnV, ← wr_eq, wr_zero, wr_one, wr_m1, bst_lst, byteC, partsOK, putAll, appV, nilV, slV, sslV, optB, optNum, and_assoc, exists_and_left, exists_eq_left']
  refine sx_count l.length (fun n V => V 7 = .lst 3 nl (l.map li) ∧ V 8 = i l.length ∧ V 9 = i n ∧ V 3 = .lst 1 false ((l.take n).map fun x => [.str x.f0])) 0 (by omega) (by simp [sxa, isPtrN, PV.pcs, elAt, setEl, inAt, elIn, setIn, isLst, cellsOf, Ex.ok, Ex.val, Opd.val, POp.dst, bin_int, binOK_int, bin_str, binOK_str, resOK, resV, RB.val, sub, putc, scB, scL, oneB, conf, Ex.val.eqP, Ex.val.eqL, negV, mxV, mnV, ← wr_eq, wr_zero, wr_one, wr_m1, bst_lst, byteC, partsOK, putAll, appV, nilV, slV, sslV, optB, optNum, and_assoc, exists_and_left, exists_eq_left']) ?_
  rintro n V hn ⟨h7, h8, h9, h3⟩
  have hw : wr .i64 ((n : Int) + 1) = n + 1 := wr_in (by omega) (by omega)
  simp [sxa, isPtrN, PV.pcs, elAt, setEl, inAt, elIn, setIn, isLst, cellsOf, Ex.ok, Ex.val, Opd.val, POp.dst, bin_int, binOK_int, bin_str, binOK_str, resOK, resV, RB.val, sub, putc, scB, scL, oneB, conf, Ex.val.eqP, Ex.val.eqL, negV, mxV, mnV, ← wr_eq, wr_zero, wr_one, wr_m1, bst_lst, byteC, partsOK, putAll, appV, nilV, slV, sslV, optB, optNum, and_assoc, exists_and_left, exists_eq_left', h7, h8, h9]
  refine CondS_d (fun hlt => ?_) (fun hge => ?_)
  · have hlt' : n < l.length := by omega
    have ht : (l.take (n + 1)).map (fun x => [PV.str x.f0]) = (l.take n).map (fun x => [PV.str x.f0]) ++ [[.str l[n].f0]] := by
      rw [List.take_add_one, List.getElem?_eq_getElem hlt', List.map_append]; rfl
    repeat' (first | intro _ | (simp [sxa, isPtrN, PV.pcs, elAt, setEl, inAt, elIn, setIn, isLst, cellsOf, Ex.ok, Ex.val, Opd.val, POp.dst, bin_int, binOK_int, bin_str, binOK_str, resOK, resV, RB.val, sub, putc, scB, scL, oneB, conf, Ex.val.eqP, Ex.val.eqL, negV, mxV, mnV, ← wr_eq, wr_zero, wr_one, wr_m1, bst_lst, byteC, partsOK, putAll, appV, nilV, slV, sslV, optB, optNum, and_assoc, exists_and_left, exists_eq_left', li, *]) | refine CondS_d (fun h => ?_) (fun h => ?_) | refine CondS_b (fun h => ?_) (fun h => ?_) | refine GrdS_d (fun h => ?_) (fun h => ?_) | refine GrdS_b (fun h => ?_) (fun h => ?_) | refine OkS_i (by omega) ?_ | fail)
    all_goals simp_all
  · have : n = l.length := by omega
    subst this
    rw [List.take_length] at h3
    repeat' (first | intro _ | (simp [sxa, isPtrN, PV.pcs, elAt, setEl, inAt, elIn, setIn, isLst, cellsOf, Ex.ok, Ex.val, Opd.val, POp.dst, bin_int, binOK_int, bin_str, binOK_str, resOK, resV, RB.val, sub, putc, scB, scL, oneB, conf, Ex.val.eqP, Ex.val.eqL, negV, mxV, mnV, ← wr_eq, wr_zero, wr_one, wr_m1, bst_lst, byteC, partsOK, putAll, appV, nilV, slV, sslV, optB, optNum, and_assoc, exists_and_left, exists_eq_left', *]) | refine CallS_i (c1) ?_ | refine CallS_i (c2) ?_ | refine CallM_i (c1) ?_ | refine CallM_i (c2) ?_ | refine CallE_i (c1) ?_ | refine CallE_i (c2) ?_ | refine CallX_i (c1) ?_ | refine CallX_i (c2) ?_ | refine CallB_i (c1) ?_ | refine CallB_i (c2) ?_ | refine CondS_d (fun h => ?_) (fun h => ?_) | refine CondS_b (fun h => ?_) (fun h => ?_) | refine GrdS_d (fun h => ?_) (fun h => ?_) | refine GrdS_b (fun h => ?_) (fun h => ?_) | refine OkS_i (by omega) ?_ | fail)
    all_goals simp_all
theorem f9 (l : List Li) (nl : Bool) (hl : l.length ≤ 9223372036854775807) (hx : ∀ x ∈ l, x.fits) : Fn Try.prog 9 false [.lst 3 nl (l.map li)] (.bool true) := by
  refine Fn.by_sx hX (by kernel_rfl) c9 (by kernel_rfl) (by rfl) ?_
  simp [i9, sxa, isPtrN, PV.pcs, elAt, setEl, inAt, elIn, setIn, isLst, cellsOf, Ex.ok, Ex.val, Opd.val, POp.dst, bin_int, binOK_int, bin_str, binOK_str, resOK, resV, RB.val, sub, putc, scB, scL, oneB, conf, Ex.val.eqP, Ex.val.eqL, negV, mxV, mnV, ← wr_eq, wr_zero, wr_one, wr_m1, bst_lst, byteC, partsOK, putAll, appV, nilV, slV, sslV, optB, optNum, and_assoc, exists_and_left, exists_eq_left']
  refine CallS_s (f52 l nl 1048576 (by omega) (by omega) hl hx) rfl ?_
  by_cases hbig : (1048576 : Int) - wtLL l < 0
  · have : szr 1048576 (wtLL l : Nat) = -1 := if_pos hbig
    rw [this]
    repeat' (first | intro _ | (simp [sxa, isPtrN, PV.pcs, elAt, setEl, inAt, elIn, setIn, isLst, cellsOf, Ex.ok, Ex.val, Opd.val, POp.dst, bin_int, binOK_int, bin_str, binOK_str, resOK, resV, RB.val, sub, putc, scB, scL, oneB, conf, Ex.val.eqP, Ex.val.eqL, negV, mxV, mnV, ← wr_eq, wr_zero, wr_one, wr_m1, bst_lst, byteC, partsOK, putAll, appV, nilV, slV, sslV, optB, optNum, and_assoc, exists_and_left, exists_eq_left', *]) | refine CondS_d (fun h => ?_) (fun h => ?_) | refine CondS_b (fun h => ?_) (fun h => ?_) | refine GrdS_d (fun h => ?_) (fun h => ?_) | refine GrdS_b (fun h => ?_) (fun h => ?_) | refine OkS_i (by omega) ?_ | fail)
  have hz : szr 1048576 (wtLL l : Nat) = 1048576 - wtLL l := if_neg hbig
  rw [hz]
  have hnn : ¬ (1048576 : Int) - wtLL l < 0 := by omega
  have hL := wtLL_len l
  have hl' : l.length ≤ 1048576 := by omega
  have c1 := f54 l nl hl'
  have c2 := f53 l false (by omega)
  have c3 := f55 l false (by omega)
  have c4 := f56 l false false (by omega)
  obtain ⟨n, hn⟩ : ∃ n, cnt l l.length = n := ⟨_, rfl⟩
  rw [hn] at c2 c3
  clear hz hn
  repeat' (first | intro _ | (simp [sxa, isPtrN, PV.pcs, elAt, setEl, inAt, elIn, setIn, isLst, cellsOf, Ex.ok, Ex.val, Opd.val, POp.dst, bin_int, binOK_int, bin_str, binOK_str, resOK, resV, RB.val, sub, putc, scB, scL, oneB, conf, Ex.val.eqP, Ex.val.eqL, negV, mxV, mnV, ← wr_eq, wr_zero, wr_one, wr_m1, bst_lst, byteC, partsOK, putAll, appV, nilV, slV, sslV, optB, optNum, and_assoc, exists_and_left, exists_eq_left', *]) | refine CallS_i (c1) ?_ | refine CallS_i (c2) ?_ | refine CallS_i (c3) ?_ | refine CallS_i (c4) ?_ | refine CallM_i (c1) ?_ | refine CallM_i (c2) ?_ | refine CallM_i (c3) ?_ | refine CallM_i (c4) ?_ | refine CallE_i (c1) ?_ | refine CallE_i (c2) ?_ | refine CallE_i (c3) ?_ | refine CallE_i (c4) ?_ | refine CallX_i (c1) ?_ | refine CallX_i (c2) ?_ | refine CallX_i (c3) ?_ | refine CallX_i (c4) ?_ | refine CallB_i (c1) ?_ | refine CallB_i (c2) ?_ | refine CallB_i (c3) ?_ | refine CallB_i (c4) ?_ | refine CondS_d (fun h => ?_) (fun h => ?_) | refine CondS_b (fun h => ?_) (fun h => ?_) | refine GrdS_d (fun h => ?_) (fun h => ?_) | refine GrdS_b (fun h => ?_) (fun h => ?_) | refine OkS_i (by omega) ?_ | fail)
end Go.Eng
namespace Go.Eng
open Go Go.Proofs
set_option linter.unusedSimpArgs false
set_option linter.unusedVariables false
set_option maxRecDepth 20000
/-! what the arguments hold -/
theorem d_intb {X : Cx} {t n : Nat} {i0 : TI} {vs : List PV} (hi : X.ti t = some i0) (hk : i0.k = .int .i64) (h : shp X n t vs) : ∃ m : Int, vs = [i m] ∧ -9223372036854775808 ≤ m ∧ m ≤ 9223372036854775807 := by
  cases n with
  | zero => cases h
  | succ n =>
    unfold shp at h; rw [hi] at h; simp only [hk] at h
    obtain ⟨m, hm, hw⟩ := h
    refine ⟨m, hm, ?_⟩
    simpa [Lit.wf, IntKind.min, IntKind.max, IntKind.signed, IntKind.bits] using hw
theorem d_int {X : Cx} {t n : Nat} {i0 : TI} {vs : List PV} (hi : X.ti t = some i0) (hk : i0.k = .int .i64) (h : shp X n t vs) : ∃ m, vs = [i m] := by
  cases n with
  | zero => cases h
  | succ n => unfold shp at h; rw [hi] at h; simp only [hk] at h; obtain ⟨m, hm, _⟩ := h; exact ⟨m, hm⟩
theorem d_bool {X : Cx} {t n : Nat} {i0 : TI} {vs : List PV} (hi : X.ti t = some i0) (hk : i0.k = .bool) (h : shp X n t vs) : ∃ b, vs = [.bool b] := by
  cases n with
  | zero => cases h
  | succ n => unfold shp at h; rw [hi] at h; simp only [hk] at h; exact h
theorem d_str {X : Cx} {t n : Nat} {i0 : TI} {vs : List PV} (hi : X.ti t = some i0) (hk : i0.k = .str) (h : shp X n t vs) : ∃ s, vs = [.str s] ∧ s.size ≤ 9223372036854775807 := by
  cases n with
  | zero => cases h
  | succ n => unfold shp at h; rw [hi] at h; simp only [hk] at h; exact h
theorem d_slice {X : Cx} {t n e sz : Nat} {i0 : TI} {vs : List PV} {α : Type} {g : α → List PV} {q : α → Prop} (hi : X.ti t = some i0) (hk : i0.k = .slice e) (hs : szOf X e = sz)
    (hd : ∀ n vs, shp X n e vs → ∃ x, vs = g x ∧ q x) (h : shp X n t vs) : ∃ (l : List α) (nl : Bool), vs = [.lst sz nl (l.map g)] ∧ l.length ≤ 9223372036854775807 ∧ ∀ x ∈ l, q x := by
  cases n with
  | zero => cases h
  | succ n =>
    unfold shp at h; rw [hi] at h; simp only [hk, hs] at h
    rcases h with rfl | ⟨els, rfl, hl, he⟩
    · exact ⟨[], true, rfl, by simp, by simp⟩
    · have : ∀ els : List (List PV), (∀ cs ∈ els, shp X n e cs) → ∃ l : List α, els = l.map g ∧ ∀ x ∈ l, q x := by
        intro els
        induction els with
        | nil => intro _; exact ⟨[], rfl, by simp⟩
        | cons c r ih =>
          intro h
          obtain ⟨l, h1, h2⟩ := ih fun cs hcs => h cs (List.mem_cons_of_mem _ hcs)
          obtain ⟨x, h3, h4⟩ := hd n c (h c (List.mem_cons_self ..))
          exact ⟨x :: l, by rw [h1, h3]; rfl, fun y hy => by
            rcases List.mem_cons.1 hy with rfl | hy
            · exact h4
            · exact h2 y hy⟩
      obtain ⟨l, h1, h2⟩ := this els he
      subst h1
      exact ⟨l, false, rfl, by have := hl; rw [List.length_map] at this; exact this, h2⟩
theorem d_struct {X : Cx} {t n : Nat} {i0 : TI} {fl : List (Nat × Nat)} {vs : List PV} (hi : X.ti t = some i0) (hk : i0.k = .struct fl) (h : shp X n t vs) : vs.length = i0.sz ∧ ∀ q ∈ fl, ∃ n, shp X n q.2 (sub vs q.1 (szOf X q.2)) := by
  cases n with
  | zero => cases h
  | succ n => unfold shp at h; rw [hi] at h; simp only [hk] at h; exact ⟨h.1, fun q hq => ⟨n, h.2 q hq⟩⟩
theorem shpL_cons {X : Cx} {n t : Nat} {ts : List Nat} {pvs : List PV} (h : shpL X n (t :: ts) pvs) : ∃ v vs, pvs = v :: vs ∧ shpV X n t v ∧ shpL X n ts vs := by
  cases pvs with
  | nil => cases h
  | cons v vs => exact ⟨v, vs, rfl, h.1, h.2⟩
theorem shpL_nil {X : Cx} {n : Nat} {pvs : List PV} (h : shpL X n [] pvs) : pvs = [] := by
  cases pvs with
  | nil => rfl
  | cons v vs => cases h
theorem shpV_one {X : Cx} {n t : Nat} {i0 : TI} {v : PV} (hi : X.ti t = some i0) (ha : i0.k.agg = false) (h : shpV X n t v) : shp X n t [v] := by
  unfold shpV at h; rw [hi] at h; simp only [ha, Bool.false_eq_true, if_false] at h; exact h
theorem shpV_agg {X : Cx} {n t : Nat} {i0 : TI} {v : PV} (hi : X.ti t = some i0) (ha : i0.k.agg = true) (h : shpV X n t v) : ∃ vs, v = .agg vs ∧ shp X n t vs := by
  unfold shpV at h; rw [hi] at h; simp only [ha, if_true] at h; exact h
theorem dPt {n : Nat} {vs : List PV} (h : shp X n 24 vs) : ∃ p : Pt, vs = cp p ∧ True := by
  obtain ⟨hl, hf⟩ := d_struct (i0 := (X.ti 24).getD default) rfl rfl h
  match vs, hl with
  | [a, b], _ =>
    obtain ⟨_, h0⟩ := hf (0, 3) (by simp)
    obtain ⟨_, h1⟩ := hf (1, 3) (by simp)
    obtain ⟨x, e0⟩ := d_int (i0 := (X.ti 3).getD default) rfl rfl h0
    obtain ⟨y, e1⟩ := d_int (i0 := (X.ti 3).getD default) rfl rfl h1
    obtain rfl : a = i x := (List.cons.inj e0).1
    obtain rfl : b = i y := (List.cons.inj e1).1
    exact ⟨⟨x, y⟩, rfl, trivial⟩
theorem dFt {n : Nat} {vs : List PV} (h : shp X n 37 vs) : ∃ x : Ft, vs = ft x ∧ x.fits := by
  obtain ⟨hl, hf⟩ := d_struct (i0 := (X.ti 37).getD default) rfl rfl h
  match vs, hl with
  | [a, b, c, d, e], _ =>
    obtain ⟨_, h0⟩ := hf (0, 3) (by simp)
    obtain ⟨_, h1⟩ := hf (1, 3) (by simp)
    obtain ⟨_, h2⟩ := hf (2, 3) (by simp)
    obtain ⟨_, h3⟩ := hf (3, 9) (by simp)
    obtain ⟨_, h4⟩ := hf (4, 35) (by simp)
    obtain ⟨x0, e0⟩ := d_int (i0 := (X.ti 3).getD default) rfl rfl h0
    obtain ⟨x1, e1⟩ := d_int (i0 := (X.ti 3).getD default) rfl rfl h1
    obtain ⟨x2, e2⟩ := d_int (i0 := (X.ti 3).getD default) rfl rfl h2
    obtain ⟨x3, e3, b3⟩ := d_str (i0 := (X.ti 9).getD default) rfl rfl h3
    obtain ⟨x4, nl, e4, b4, _⟩ := d_slice (i0 := (X.ti 35).getD default) (sz := 2) rfl rfl rfl (fun _ _ => dPt) h4
    obtain rfl : a = i x0 := (List.cons.inj e0).1
    obtain rfl : b = i x1 := (List.cons.inj e1).1
    obtain rfl : c = i x2 := (List.cons.inj e2).1
    obtain rfl : d = .str x3 := (List.cons.inj e3).1
    obtain rfl : e = .lst 2 nl (x4.map cp) := (List.cons.inj e4).1
    exact ⟨⟨x0, x1, x2, x3, x4, nl⟩, rfl, b3, b4⟩
theorem dEn {n : Nat} {vs : List PV} (h : shp X n 39 vs) : ∃ x : En, vs = en x ∧ x.f0.fits := by
  obtain ⟨hl, hf⟩ := d_struct (i0 := (X.ti 39).getD default) rfl rfl h
  match vs, hl with
  | [a0, a1, a2, a3, a4, a, b, c], _ =>
    obtain ⟨_, h0⟩ := hf (0, 37) (by simp)
    obtain ⟨_, h1⟩ := hf (5, 3) (by simp)
    obtain ⟨_, h2⟩ := hf (6, 3) (by simp)
    obtain ⟨_, h3⟩ := hf (7, 4) (by simp)
    obtain ⟨x0, e0, p0⟩ := dFt h0
    obtain ⟨x1, e1⟩ := d_int (i0 := (X.ti 3).getD default) rfl rfl h1
    obtain ⟨x2, e2⟩ := d_int (i0 := (X.ti 3).getD default) rfl rfl h2
    obtain ⟨x3, e3⟩ := d_bool (i0 := (X.ti 4).getD default) rfl rfl h3
    have e0 : [a0, a1, a2, a3, a4] = ft x0 := e0
    simp only [ft, List.cons.injEq, and_true] at e0
    obtain ⟨rfl, rfl, rfl, rfl, rfl⟩ := e0
    obtain rfl : a = i x1 := (List.cons.inj e1).1
    obtain rfl : b = i x2 := (List.cons.inj e2).1
    obtain rfl : c = .bool x3 := (List.cons.inj e3).1
    exact ⟨⟨x0, x1, x2, x3⟩, rfl, p0⟩
theorem dEnS {n : Nat} {v : PV} (h : shpV X n 34 v) : ∃ (l : List En) (nl : Bool), v = .lst 8 nl (l.map en) ∧ l.length ≤ 9223372036854775807 ∧ ∀ x ∈ l, x.f0.fits := by
  have h := shpV_one (i0 := (X.ti 34).getD default) rfl rfl h
  obtain ⟨l, nl, e, h1, h2⟩ := d_slice (i0 := (X.ti 34).getD default) (sz := 8) rfl rfl rfl (fun _ _ => dEn) h
  exact ⟨l, nl, (List.cons.inj e).1, h1, h2⟩
theorem dFtS {n : Nat} {v : PV} (h : shpV X n 22 v) : ∃ (l : List Ft) (nl : Bool), v = .lst 5 nl (l.map ft) ∧ l.length ≤ 9223372036854775807 ∧ ∀ x ∈ l, x.fits := by
  have h := shpV_one (i0 := (X.ti 22).getD default) rfl rfl h
  obtain ⟨l, nl, e, h1, h2⟩ := d_slice (i0 := (X.ti 22).getD default) (sz := 5) rfl rfl rfl (fun _ _ => dFt) h
  exact ⟨l, nl, (List.cons.inj e).1, h1, h2⟩
theorem dInt {n : Nat} {v : PV} (h : shpV X n 3 v) : ∃ m : Int, v = i m ∧ -9223372036854775808 ≤ m ∧ m ≤ 9223372036854775807 := by
  obtain ⟨m, hm, hb⟩ := d_intb (i0 := (X.ti 3).getD default) rfl rfl (shpV_one (i0 := (X.ti 3).getD default) rfl rfl h)
  exact ⟨m, (List.cons.inj hm).1, hb⟩
theorem dIntS {n : Nat} {v : PV} (h : shpV X n 112 v) : ∃ (l : List Int) (nl : Bool), v = .lst 1 nl (l.map fun m => [i m]) ∧ l.length ≤ 9223372036854775807 ∧ ∀ x ∈ l, -9223372036854775808 ≤ x ∧ x ≤ 9223372036854775807 := by
  have h := shpV_one (i0 := (X.ti 112).getD default) rfl rfl h
  obtain ⟨l, nl, e, h1, h2⟩ := d_slice (i0 := (X.ti 112).getD default) (sz := 1) (g := fun m : Int => [i m]) (q := fun m => -9223372036854775808 ≤ m ∧ m ≤ 9223372036854775807) rfl rfl rfl (fun _ _ h => d_intb (i0 := (X.ti 3).getD default) rfl rfl h) h
  exact ⟨l, nl, (List.cons.inj e).1, h1, h2⟩
theorem dPtV {n : Nat} {v : PV} (h : shpV X n 24 v) : ∃ p : Pt, v = .agg (cp p) := by
  obtain ⟨vs, rfl, hs⟩ := shpV_agg (i0 := (X.ti 24).getD default) rfl rfl h
  obtain ⟨p, rfl, _⟩ := dPt hs
  exact ⟨p, rfl⟩
theorem dFtV {n : Nat} {v : PV} (h : shpV X n 37 v) : ∃ x : Ft, v = .agg (ft x) ∧ x.fits := by
  obtain ⟨vs, rfl, hs⟩ := shpV_agg (i0 := (X.ti 37).getD default) rfl rfl h
  obtain ⟨p, rfl, hp⟩ := dFt hs
  exact ⟨p, rfl, hp⟩
theorem dEnV {n : Nat} {v : PV} (h : shpV X n 39 v) : ∃ x : En, v = .agg (en x) ∧ x.f0.fits := by
  obtain ⟨vs, rfl, hs⟩ := shpV_agg (i0 := (X.ti 39).getD default) rfl rfl h
  obtain ⟨p, rfl, hp⟩ := dEn hs
  exact ⟨p, rfl, hp⟩
end Go.Eng
namespace Go.Eng
open Go Go.Proofs
theorem dLi {n : Nat} {vs : List PV} (h : shp X n 137 vs) : ∃ x : Li, vs = li x ∧ x.fits := by
  obtain ⟨hl, hf⟩ := d_struct (i0 := (X.ti 137).getD default) rfl rfl h
  match vs, hl with
  | [a, b, c], _ =>
    obtain ⟨_, h0⟩ := hf (0, 9) (by simp)
    obtain ⟨_, h1⟩ := hf (1, 3) (by simp)
    obtain ⟨_, h2⟩ := hf (2, 9) (by simp)
    obtain ⟨x0, e0, p0⟩ := d_str (i0 := (X.ti 9).getD default) rfl rfl h0
    obtain ⟨x1, e1⟩ := d_int (i0 := (X.ti 3).getD default) rfl rfl h1
    obtain ⟨x2, e2, p2⟩ := d_str (i0 := (X.ti 9).getD default) rfl rfl h2
    obtain rfl : a = .str x0 := (List.cons.inj e0).1
    obtain rfl : b = i x1 := (List.cons.inj e1).1
    obtain rfl : c = .str x2 := (List.cons.inj e2).1
    exact ⟨⟨x0, x1, x2⟩, rfl, p0, p2⟩
theorem dLiS {n : Nat} {v : PV} (h : shpV X n 79 v) : ∃ (l : List Li) (nl : Bool), v = .lst 3 nl (l.map li) ∧ l.length ≤ 9223372036854775807 ∧ ∀ x ∈ l, x.fits := by
  have h := shpV_one (i0 := (X.ti 79).getD default) rfl rfl h
  obtain ⟨l, nl, e, h1, h2⟩ := d_slice (i0 := (X.ti 79).getD default) (sz := 3) rfl rfl rfl (fun _ _ => dLi) h
  exact ⟨l, nl, (List.cons.inj e).1, h1, h2⟩
end Go.Eng
namespace Go.Eng
open Go Go.Proofs
theorem law9 {pvs : List PV} (h : shpL X 8 [79] pvs) : Fn Try.prog 9 false pvs (.bool true) := by
  obtain ⟨_, _, rfl, h1, h2⟩ := shpL_cons h
  obtain rfl := shpL_nil h2
  obtain ⟨l, n1, rfl, a1, a2⟩ := dLiS h1
  exact f9 l n1 a1 a2
end Go.Eng
