import PyProof.Rows.All
import Wide.All
import OpenK.AllK
import Wide.FinOn
import PyProof.EqAt
import PyProof.EqKinds
import PyProof.TupleCall
import Open.SpecLaws
import KE.OsGo
import KE.KDictItemsList
import KE.KDictZip
import KE.DataMinMax
import PySem.Challenge.RW_mapdrawn_s01_answers
import HandS.ForSpec
import HandS.Comp
import HandS.Iter
import HandS.Walk
import HandS.Style
import HandS.ExcInit
import HandS.ExcField
import HandS.Evl
import KE.SortData
set_option Elab.async false
set_option linter.all false
set_option maxRecDepth 100000
set_option maxHeartbeats 4000000
namespace Md
/-! geometry: the program's own reckoning against the specification's -/
def squareOf (p q : Int × Int) : Int := (q.1 - p.1) * (q.1 - p.1) + (q.2 - p.2) * (q.2 - p.2)
def isFarther (p a b : Int × Int) (sq : Int) : Bool :=
  if (p.1 - a.1) * (b.1 - a.1) + (p.2 - a.2) * (b.2 - a.2) ≤ 0 then decide (sq < squareOf p a)
  else if (b.1 - a.1) * (b.1 - a.1) + (b.2 - a.2) * (b.2 - a.2) ≤ (p.1 - a.1) * (b.1 - a.1) + (p.2 - a.2) * (b.2 - a.2) then decide (sq < squareOf p b)
  else decide (sq * ((b.1 - a.1) * (b.1 - a.1) + (b.2 - a.2) * (b.2 - a.2)) < ((p.1 - a.1) * (b.2 - a.2) - (p.2 - a.2) * (b.1 - a.1)) * ((p.1 - a.1) * (b.2 - a.2) - (p.2 - a.2) * (b.1 - a.1)))
theorem sq_nonneg (x : Int) : 0 ≤ x * x := by
  rcases Int.le_total 0 x with h | h
  · exact Int.mul_nonneg h h
  · have := Int.mul_nonneg (Int.neg_nonneg_of_nonpos h) (Int.neg_nonneg_of_nonpos h)
    rwa [Int.neg_mul_neg] at this
theorem sq_neg (x y : Int) (h : x = -y) : x * x = y * y := by rw [h, Int.neg_mul_neg]
theorem lowest_within {n d o : Nat} (hd : 0 < d) : Uw49.within (Uw49.lowest n d) o = decide (n ≤ o * d) := by
  have hg : 0 < Nat.gcd n d := Nat.gcd_pos_of_pos_right n hd
  have e1 : n = Nat.gcd n d * (n / Nat.gcd n d) := (Nat.mul_div_cancel' (Nat.gcd_dvd_left n d)).symm
  have e2 : d = Nat.gcd n d * (d / Nat.gcd n d) := (Nat.mul_div_cancel' (Nat.gcd_dvd_right n d)).symm
  have key : (n / Nat.gcd n d ≤ o * (d / Nat.gcd n d)) ↔ n ≤ o * d := by
    constructor
    · intro h
      have h2 := Nat.mul_le_mul_left (Nat.gcd n d) h
      rw [← e1] at h2
      have e3 : Nat.gcd n d * (o * (d / Nat.gcd n d)) = o * d := by
        rw [Nat.mul_left_comm, ← e2]
      rwa [e3] at h2
    · intro h
      have e3 : o * d = Nat.gcd n d * (o * (d / Nat.gcd n d)) := by
        rw [Nat.mul_left_comm, ← e2]
      rw [e3] at h
      have h' : Nat.gcd n d * (n / Nat.gcd n d) ≤ Nat.gcd n d * (o * (d / Nat.gcd n d)) := by
        rw [← e1]; exact h
      exact Nat.le_of_mul_le_mul_left h' hg
  unfold Uw49.lowest Uw49.within
  simp only []
  rw [if_neg (by omega)]
  simp only [key]
theorem toNat_le {x : Int} {o : Nat} (hx : 0 ≤ x) : (x.toNat ≤ o) ↔ x ≤ (o : Int) := by omega
theorem within_dist (p a b : Int × Int) (o : Nat) : Uw49.within (Uw49.dist p a b) o = !isFarther p a b (o : Int) := by
  have c1 : (b.1 - a.1) * (p.1 - a.1) + (b.2 - a.2) * (p.2 - a.2) = (p.1 - a.1) * (b.1 - a.1) + (p.2 - a.2) * (b.2 - a.2) := by
    rw [Int.mul_comm (b.1 - a.1), Int.mul_comm (b.2 - a.2)]
  unfold Uw49.dist isFarther
  simp only [c1]
  by_cases h1 : (p.1 - a.1) * (b.1 - a.1) + (p.2 - a.2) * (b.2 - a.2) ≤ 0
  · rw [if_pos h1, if_pos h1]
    have q1 : (a.1 - p.1) * (a.1 - p.1) = (p.1 - a.1) * (p.1 - a.1) := sq_neg _ _ (by omega)
    have q2 : (a.2 - p.2) * (a.2 - p.2) = (p.2 - a.2) * (p.2 - a.2) := sq_neg _ _ (by omega)
    unfold Uw49.within squareOf
    simp only []
    rw [q1, q2, ← decide_not]
    have n1 := sq_nonneg (p.1 - a.1)
    have n2 := sq_nonneg (p.2 - a.2)
    apply decide_eq_decide.mpr
    rw [Nat.mul_one]
    omega
  · rw [if_neg h1, if_neg h1]
    by_cases h2 : (b.1 - a.1) * (b.1 - a.1) + (b.2 - a.2) * (b.2 - a.2) ≤ (p.1 - a.1) * (b.1 - a.1) + (p.2 - a.2) * (b.2 - a.2)
    · rw [if_pos h2, if_pos h2]
      have q1 : (b.1 - p.1) * (b.1 - p.1) = (p.1 - b.1) * (p.1 - b.1) := sq_neg _ _ (by omega)
      have q2 : (b.2 - p.2) * (b.2 - p.2) = (p.2 - b.2) * (p.2 - b.2) := sq_neg _ _ (by omega)
      unfold Uw49.within squareOf
      simp only []
      rw [q1, q2, ← decide_not]
      have n1 := sq_nonneg (p.1 - b.1)
      have n2 := sq_nonneg (p.2 - b.2)
      apply decide_eq_decide.mpr
      rw [Nat.mul_one]
      omega
    · rw [if_neg h2, if_neg h2]
      have q : ((p.1 - a.1) * (b.2 - a.2) - (p.2 - a.2) * (b.1 - a.1)) * ((p.1 - a.1) * (b.2 - a.2) - (p.2 - a.2) * (b.1 - a.1)) = ((b.1 - a.1) * (p.2 - a.2) - (b.2 - a.2) * (p.1 - a.1)) * ((b.1 - a.1) * (p.2 - a.2) - (b.2 - a.2) * (p.1 - a.1)) := by
        refine sq_neg _ _ ?_
        rw [Int.mul_comm (b.1 - a.1) (p.2 - a.2), Int.mul_comm (b.2 - a.2) (p.1 - a.1)]
        omega
      rw [q]
      have n0 := sq_nonneg ((b.1 - a.1) * (p.2 - a.2) - (b.2 - a.2) * (p.1 - a.1))
      generalize ((b.1 - a.1) * (p.2 - a.2) - (b.2 - a.2) * (p.1 - a.1)) * ((b.1 - a.1) * (p.2 - a.2) - (b.2 - a.2) * (p.1 - a.1)) = N at *
      have hL : 0 < (b.1 - a.1) * (b.1 - a.1) + (b.2 - a.2) * (b.2 - a.2) := by omega
      generalize (b.1 - a.1) * (b.1 - a.1) + (b.2 - a.2) * (b.2 - a.2) = L at *
      rw [lowest_within (by omega), ← decide_not]
      apply decide_eq_decide.mpr
      obtain ⟨n, rfl⟩ := Int.eq_ofNat_of_zero_le n0
      obtain ⟨l, rfl⟩ := Int.eq_ofNat_of_zero_le (Int.le_of_lt hL)
      rw [Int.toNat_natCast, Int.toNat_natCast, Int.not_lt, ← Int.natCast_mul]
      omega

/-! a stretch and a box -/
def isLess (a b : Int × Int) : Bool := decide (a.1 * b.2 < b.1 * a.2)
def partWithin (b e lo hi : Int) : Option ((Int × Int) × (Int × Int)) :=
  if e - b = 0 then (if lo < b ∧ b < hi then some ((-1, 1), (2, 1)) else none)
  else if 0 < e - b then some ((lo - b, e - b), (hi - b, e - b)) else some ((b - hi, 0 - (e - b)), (b - lo, 0 - (e - b)))
structure Bx where
  l : Int
  b : Int
  r : Int
  t : Int
def first (one other : (Int × Int) × (Int × Int)) : Int × Int := if isLess one.1 other.1 = true then other.1 else one.1
def last (one other : (Int × Int) × (Int × Int)) : Int × Int := if isLess one.2 other.2 = true then one.2 else other.2
def meet (one other : (Int × Int) × (Int × Int)) : Bool :=
  isLess (first one other) (last one other) && (isLess (first one other) (1, 1) && isLess (0, 1) (last one other))
def goesWithin (a b : Int × Int) (c : Bx) : Bool :=
  match partWithin a.1 b.1 c.l c.r, partWithin a.2 b.2 c.b c.t with
  | some one, some other => meet one other
  | _, _ => false
def Fr (f : Int × Int) : Prop := 0 < f.2
theorem less_iff {f g : Int × Int} : isLess f g = true ↔ f.1 * g.2 < g.1 * f.2 := by unfold isLess; exact decide_eq_true_iff
theorem lt_of_mul {k x y : Int} (hk : 0 < k) (h : k * x < k * y) : x < y := Int.lt_of_mul_lt_mul_left h (Int.le_of_lt hk)
/-- f < g, g <= h gives f < h (h not < g) -/
theorem less_trans {f g h : Int × Int} (hf : Fr f) (hg : Fr g) (hh : Fr h) (h1 : isLess f g = true) (h2 : isLess h g = false) : isLess f h = true := by
  rw [less_iff] at h1 ⊢
  have h2' : ¬ (h.1 * g.2 < g.1 * h.2) := fun q => by rw [less_iff.mpr q] at h2; cases h2
  unfold Fr at *
  have a1 : h.2 * (f.1 * g.2) < h.2 * (g.1 * f.2) := Int.mul_lt_mul_of_pos_left h1 hh
  have a2 : f.2 * (g.1 * h.2) ≤ f.2 * (h.1 * g.2) := Int.mul_le_mul_of_nonneg_left (by omega) (Int.le_of_lt hf)
  refine lt_of_mul (k := g.2) hg ?_
  calc g.2 * (f.1 * h.2) = h.2 * (f.1 * g.2) := by rw [Int.mul_comm f.1 h.2, Int.mul_left_comm, Int.mul_comm f.1 g.2]
    _ < h.2 * (g.1 * f.2) := a1
    _ = f.2 * (g.1 * h.2) := by rw [Int.mul_comm g.1 f.2, Int.mul_left_comm, Int.mul_comm h.2 g.1]
    _ ≤ f.2 * (h.1 * g.2) := a2
    _ = g.2 * (h.1 * f.2) := by rw [Int.mul_comm h.1 g.2, Int.mul_left_comm, Int.mul_comm f.2 h.1]
theorem less_trans' {f g h : Int × Int} (hf : Fr f) (hg : Fr g) (hh : Fr h) (h1 : isLess g f = false) (h2 : isLess g h = true) : isLess f h = true := by
  rw [less_iff] at h2 ⊢
  have h1' : ¬ (g.1 * f.2 < f.1 * g.2) := fun q => by rw [less_iff.mpr q] at h1; cases h1
  unfold Fr at *
  have a1 : h.2 * (f.1 * g.2) ≤ h.2 * (g.1 * f.2) := Int.mul_le_mul_of_nonneg_left (by omega) (Int.le_of_lt hh)
  have a2 : f.2 * (g.1 * h.2) < f.2 * (h.1 * g.2) := Int.mul_lt_mul_of_pos_left h2 hf
  refine lt_of_mul (k := g.2) hg ?_
  calc g.2 * (f.1 * h.2) = h.2 * (f.1 * g.2) := by rw [Int.mul_comm f.1 h.2, Int.mul_left_comm, Int.mul_comm f.1 g.2]
    _ ≤ h.2 * (g.1 * f.2) := a1
    _ = f.2 * (g.1 * h.2) := by rw [Int.mul_comm g.1 f.2, Int.mul_left_comm, Int.mul_comm h.2 g.1]
    _ < f.2 * (h.1 * g.2) := a2
    _ = g.2 * (h.1 * f.2) := by rw [Int.mul_comm h.1 g.2, Int.mul_left_comm, Int.mul_comm f.2 h.1]
theorem less_asymm {f g : Int × Int} (h : isLess f g = true) : isLess g f = false := by
  cases q : isLess g f with
  | false => rfl
  | true => rw [less_iff] at h q; omega
theorem first_less {one other : (Int × Int) × (Int × Int)} {x : Int × Int} (h1 : Fr one.1) (h2 : Fr other.1) (hx : Fr x) : isLess (first one other) x = (isLess one.1 x && isLess other.1 x) := by
  unfold first
  by_cases c : isLess one.1 other.1 = true
  · rw [if_pos c]
    cases q : isLess other.1 x with
    | false => rw [Bool.and_false]
    | true => rw [Bool.and_true, less_trans h1 h2 hx c (less_asymm q)]
  · rw [if_neg c]
    cases q : isLess one.1 x with
    | false => rw [Bool.false_and]
    | true =>
      rw [Bool.true_and]
      exact (less_trans' h2 h1 hx (by simpa using c) q).symm
theorem less_last {one other : (Int × Int) × (Int × Int)} {x : Int × Int} (h1 : Fr one.2) (h2 : Fr other.2) (hx : Fr x) : isLess x (last one other) = (isLess x one.2 && isLess x other.2) := by
  unfold last
  by_cases c : isLess one.2 other.2 = true
  · rw [if_pos c]
    cases q : isLess x one.2 with
    | false => rw [Bool.false_and]
    | true => rw [Bool.true_and, less_trans hx h1 h2 q (less_asymm c)]
  · rw [if_neg c]
    cases q : isLess x other.2 with
    | false => rw [Bool.and_false]
    | true =>
      rw [Bool.and_true]
      exact (less_trans hx h2 h1 q (by simpa using c)).symm
theorem meet_eq {one other : (Int × Int) × (Int × Int)} (a1 : Fr one.1) (a2 : Fr one.2) (b1 : Fr other.1) (b2 : Fr other.2) :
    meet one other = true ↔ ((isLess one.1 one.2 = true ∧ isLess one.1 other.2 = true) ∧ (isLess other.1 one.2 = true ∧ isLess other.1 other.2 = true)) ∧ (isLess one.1 (1, 1) = true ∧ isLess other.1 (1, 1) = true) ∧ (isLess (0, 1) one.2 = true ∧ isLess (0, 1) other.2 = true) := by
  have f1 : Fr (1, 1) := by unfold Fr; decide
  have f2 : Fr (0, 1) := by unfold Fr; decide
  have fl : Fr (last one other) := by unfold last; split <;> assumption
  unfold meet
  rw [first_less a1 b1 fl, first_less a1 b1 f1, less_last a2 b2 f2, less_last a2 b2 a1, less_last a2 b2 b1]
  simp only [Bool.and_eq_true]
end Md

set_option linter.unusedSimpArgs false
namespace Md
theorem part_zero {b e lo hi : Int} (h : e - b = 0) (h2 : lo - b < 0 ∧ 0 < hi - b) : partWithin b e lo hi = some ((-1, 1), (2, 1)) := by
  unfold partWithin; rw [if_pos h, if_pos (by omega)]
theorem part_none {b e lo hi : Int} (h : e - b = 0) (h2 : ¬ (lo - b < 0 ∧ 0 < hi - b)) : partWithin b e lo hi = none := by
  unfold partWithin; rw [if_pos h, if_neg (by omega)]
theorem part_pos {b e lo hi : Int} (h : 0 < e - b) : partWithin b e lo hi = some ((lo - b, e - b), (hi - b, e - b)) := by
  unfold partWithin; rw [if_neg (by omega), if_pos h]
theorem part_neg {b e lo hi : Int} (h : e - b < 0) : partWithin b e lo hi = some ((-(hi - b), -(e - b)), (-(lo - b), -(e - b))) := by
  unfold partWithin; rw [if_neg (by omega), if_neg (by omega)]
  have g1 : b - hi = -(hi - b) := by omega
  have g2 : b - lo = -(lo - b) := by omega
  have g3 : 0 - (e - b) = -(e - b) := by omega
  rw [g1, g2, g3]
/-- the specification's stretch through a box, said with the four products -/
def Sides (P1 P2 R1 R2 : Int) : Prop := (P1 < R1 ∨ P2 < R1 ∨ P1 < R2 ∨ P2 < R2) ∧ (R1 < P1 ∨ R1 < P2 ∨ R2 < P1 ∨ R2 < P2)
def Thr (dx dy u v p q : Int) : Prop := min 0 dx < v ∧ u < max 0 dx ∧ min 0 dy < q ∧ p < max 0 dy ∧ ((dx = 0 ∧ dy = 0) ∨ Sides (dx * p) (dx * q) (dy * u) (dy * v))
theorem through_iff (a b : Int × Int) (l r bt t : Int) : Uw49.through a b ⟨l, r, bt, t⟩ = true ↔ Thr (b.1 - a.1) (b.2 - a.2) (l - a.1) (r - a.1) (bt - a.2) (t - a.2) := by
  obtain ⟨ax, ay⟩ := a
  obtain ⟨bx, b_y⟩ := b
  unfold Uw49.through Uw49.side Thr
  simp only [Bool.and_eq_true, Bool.or_eq_true, decide_eq_true_eq, beq_iff_eq, List.any_cons, List.any_nil, Bool.or_false, Prod.mk.injEq]
  refine and_congr (by omega) (and_congr (by omega) (and_congr (by omega) (and_congr (by omega) (or_congr (by omega) ?_))))
  unfold Sides
  generalize (bx - ax) * (bt - ay) = P1
  generalize (bx - ax) * (t - ay) = P2
  generalize (b_y - ay) * (l - ax) = R1
  generalize (b_y - ay) * (r - ax) = R2
  omega
theorem mul_lt {k x y : Int} (hk : 0 < k) (h : x < y) : k * x < k * y := Int.mul_lt_mul_of_pos_left h hk
theorem mul_lt_neg {k x y : Int} (hk : k < 0) (h : x < y) : k * y < k * x := Int.mul_lt_mul_of_neg_left h hk
/-- what meet asks, in products -/
theorem meet_iff {one other : (Int × Int) × (Int × Int)} (a1 : Fr one.1) (a2 : Fr one.2) (b1 : Fr other.1) (b2 : Fr other.2) : meet one other = true ↔
    (((one.1.1 * one.2.2 < one.2.1 * one.1.2 ∧ one.1.1 * other.2.2 < other.2.1 * one.1.2) ∧ (other.1.1 * one.2.2 < one.2.1 * other.1.2 ∧ other.1.1 * other.2.2 < other.2.1 * other.1.2)) ∧
      (one.1.1 < one.1.2 ∧ other.1.1 < other.1.2) ∧ (0 < one.2.1 ∧ 0 < other.2.1)) := by
  rw [meet_eq a1 a2 b1 b2]
  simp only [less_iff, Int.mul_one, Int.one_mul, Int.zero_mul]
section
variable {dx dy u v p q : Int}
theorem c_pp (huv : u < v) (hpq : p < q) (hx : 0 < dx) (hy : 0 < dy) : meet ((u, dx), (v, dx)) ((p, dy), (q, dy)) = true ↔ Thr dx dy u v p q := by
  rw [meet_iff (by exact hx) (by exact hx) (by exact hy) (by exact hy)]
  simp only []
  unfold Thr Sides
  have e1 := mul_lt hx huv
  have e2 := mul_lt hy hpq
  have e3 := mul_lt hx hpq
  have e4 := mul_lt hy huv
  rw [Int.mul_comm u dx, Int.mul_comm v dx, Int.mul_comm u dy, Int.mul_comm v dy, Int.mul_comm p dx, Int.mul_comm q dx, Int.mul_comm p dy, Int.mul_comm q dy]
  generalize dx * u = A at *
  generalize dx * v = B at *
  generalize dy * p = C at *
  generalize dy * q = D at *
  generalize dx * p = P1 at *
  generalize dx * q = P2 at *
  generalize dy * u = R1 at *
  generalize dy * v = R2 at *
  omega
theorem c_np (huv : u < v) (hpq : p < q) (hx : dx < 0) (hy : 0 < dy) : meet ((-v, -dx), (-u, -dx)) ((p, dy), (q, dy)) = true ↔ Thr dx dy u v p q := by
  rw [meet_iff (by show 0 < -dx; omega) (by show 0 < -dx; omega) (by exact hy) (by exact hy)]
  simp only [Int.neg_mul_neg, Int.neg_mul, Int.mul_neg]
  unfold Thr Sides
  have e1 := mul_lt_neg hx huv
  have e2 := mul_lt hy hpq
  have e3 := mul_lt_neg hx hpq
  have e4 := mul_lt hy huv
  rw [Int.mul_comm u dx, Int.mul_comm v dx, Int.mul_comm u dy, Int.mul_comm v dy, Int.mul_comm p dx, Int.mul_comm q dx, Int.mul_comm p dy, Int.mul_comm q dy]
  generalize dx * u = A at *
  generalize dx * v = B at *
  generalize dy * p = C at *
  generalize dy * q = D at *
  generalize dx * p = P1 at *
  generalize dx * q = P2 at *
  generalize dy * u = R1 at *
  generalize dy * v = R2 at *
  omega
theorem c_pn (huv : u < v) (hpq : p < q) (hx : 0 < dx) (hy : dy < 0) : meet ((u, dx), (v, dx)) ((-q, -dy), (-p, -dy)) = true ↔ Thr dx dy u v p q := by
  rw [meet_iff (by exact hx) (by exact hx) (by show 0 < -dy; omega) (by show 0 < -dy; omega)]
  simp only [Int.neg_mul_neg, Int.neg_mul, Int.mul_neg]
  unfold Thr Sides
  have e1 := mul_lt hx huv
  have e2 := mul_lt_neg hy hpq
  have e3 := mul_lt hx hpq
  have e4 := mul_lt_neg hy huv
  rw [Int.mul_comm u dx, Int.mul_comm v dx, Int.mul_comm u dy, Int.mul_comm v dy, Int.mul_comm p dx, Int.mul_comm q dx, Int.mul_comm p dy, Int.mul_comm q dy]
  generalize dx * u = A at *
  generalize dx * v = B at *
  generalize dy * p = C at *
  generalize dy * q = D at *
  generalize dx * p = P1 at *
  generalize dx * q = P2 at *
  generalize dy * u = R1 at *
  generalize dy * v = R2 at *
  omega
theorem c_nn (huv : u < v) (hpq : p < q) (hx : dx < 0) (hy : dy < 0) : meet ((-v, -dx), (-u, -dx)) ((-q, -dy), (-p, -dy)) = true ↔ Thr dx dy u v p q := by
  rw [meet_iff (by show 0 < -dx; omega) (by show 0 < -dx; omega) (by show 0 < -dy; omega) (by show 0 < -dy; omega)]
  simp only [Int.neg_mul_neg, Int.neg_mul, Int.mul_neg]
  unfold Thr Sides
  have e1 := mul_lt_neg hx huv
  have e2 := mul_lt_neg hy hpq
  have e3 := mul_lt_neg hx hpq
  have e4 := mul_lt_neg hy huv
  rw [Int.mul_comm u dx, Int.mul_comm v dx, Int.mul_comm u dy, Int.mul_comm v dy, Int.mul_comm p dx, Int.mul_comm q dx, Int.mul_comm p dy, Int.mul_comm q dy]
  generalize dx * u = A at *
  generalize dx * v = B at *
  generalize dy * p = C at *
  generalize dy * q = D at *
  generalize dx * p = P1 at *
  generalize dx * q = P2 at *
  generalize dy * u = R1 at *
  generalize dy * v = R2 at *
  omega
theorem fr1 : Fr (((-1, 1), (2, 1)) : (Int × Int) × (Int × Int)).1 := by unfold Fr; decide
theorem fr2 : Fr (((-1, 1), (2, 1)) : (Int × Int) × (Int × Int)).2 := by unfold Fr; decide
/-- across it stays -/
theorem c_0p (hpq : p < q) (hu : u < 0 ∧ 0 < v) (hy : 0 < dy) : meet ((-1, 1), (2, 1)) ((p, dy), (q, dy)) = true ↔ Thr 0 dy u v p q := by
  rw [meet_iff fr1 fr2 (by exact hy) (by exact hy)]
  simp only []
  unfold Thr Sides
  have e2 := mul_lt hy hpq
  have s1 : dy * u < 0 := Int.mul_neg_of_pos_of_neg hy hu.1
  have s2 : 0 < dy * v := Int.mul_pos hy hu.2
  rw [Int.mul_comm p dy, Int.mul_comm q dy, Int.zero_mul, Int.zero_mul]
  generalize dy * p = C at *
  generalize dy * q = D at *
  generalize dy * u = R1 at *
  generalize dy * v = R2 at *
  omega
theorem c_0n (hpq : p < q) (hu : u < 0 ∧ 0 < v) (hy : dy < 0) : meet ((-1, 1), (2, 1)) ((-q, -dy), (-p, -dy)) = true ↔ Thr 0 dy u v p q := by
  rw [meet_iff fr1 fr2 (by show 0 < -dy; omega) (by show 0 < -dy; omega)]
  simp only [Int.neg_mul_neg]
  unfold Thr Sides
  have e2 := mul_lt_neg hy hpq
  have s1 : 0 < dy * u := Int.mul_pos_of_neg_of_neg hy hu.1
  have s2 : dy * v < 0 := Int.mul_neg_of_neg_of_pos hy hu.2
  rw [Int.mul_comm p dy, Int.mul_comm q dy, Int.zero_mul, Int.zero_mul]
  generalize dy * p = C at *
  generalize dy * q = D at *
  generalize dy * u = R1 at *
  generalize dy * v = R2 at *
  omega
theorem c_p0 (huv : u < v) (hp : p < 0 ∧ 0 < q) (hx : 0 < dx) : meet ((u, dx), (v, dx)) ((-1, 1), (2, 1)) = true ↔ Thr dx 0 u v p q := by
  rw [meet_iff (by exact hx) (by exact hx) fr1 fr2]
  simp only []
  unfold Thr Sides
  have e2 := mul_lt hx huv
  have s1 : dx * p < 0 := Int.mul_neg_of_pos_of_neg hx hp.1
  have s2 : 0 < dx * q := Int.mul_pos hx hp.2
  rw [Int.mul_comm u dx, Int.mul_comm v dx, Int.zero_mul, Int.zero_mul]
  generalize dx * u = C at *
  generalize dx * v = D at *
  generalize dx * p = R1 at *
  generalize dx * q = R2 at *
  omega
theorem c_n0 (huv : u < v) (hp : p < 0 ∧ 0 < q) (hx : dx < 0) : meet ((-v, -dx), (-u, -dx)) ((-1, 1), (2, 1)) = true ↔ Thr dx 0 u v p q := by
  rw [meet_iff (by show 0 < -dx; omega) (by show 0 < -dx; omega) fr1 fr2]
  simp only [Int.neg_mul_neg]
  unfold Thr Sides
  have e2 := mul_lt_neg hx huv
  have s1 : 0 < dx * p := Int.mul_pos_of_neg_of_neg hx hp.1
  have s2 : dx * q < 0 := Int.mul_neg_of_neg_of_pos hx hp.2
  rw [Int.mul_comm u dx, Int.mul_comm v dx, Int.zero_mul, Int.zero_mul]
  generalize dx * u = C at *
  generalize dx * v = D at *
  generalize dx * p = R1 at *
  generalize dx * q = R2 at *
  omega
theorem c_00 (hu : u < 0 ∧ 0 < v) (hp : p < 0 ∧ 0 < q) : meet ((-1, 1), (2, 1)) ((-1, 1), (2, 1)) = true ↔ Thr 0 0 u v p q := by
  have e : meet ((-1, 1), (2, 1)) ((-1, 1), (2, 1)) = true := by decide
  rw [e]
  unfold Thr
  refine ⟨fun _ => ?_, fun _ => rfl⟩
  refine ⟨by omega, by omega, by omega, by omega, .inl ⟨rfl, rfl⟩⟩
theorem thr_x (h : ¬ (u < 0 ∧ 0 < v)) : ¬ Thr 0 dy u v p q := by unfold Thr; omega
theorem thr_y (h : ¬ (p < 0 ∧ 0 < q)) : ¬ Thr dx 0 u v p q := by unfold Thr; omega
end
theorem goes_iff (a b : Int × Int) (c : Bx) (hl : c.l < c.r) (hb : c.b < c.t) : goesWithin a b c = true ↔ Uw49.through a b ⟨c.l, c.r, c.b, c.t⟩ = true := by
  rw [through_iff]
  have huv : c.l - a.1 < c.r - a.1 := by omega
  have hpq : c.b - a.2 < c.t - a.2 := by omega
  unfold goesWithin
  rcases Int.lt_trichotomy (b.1 - a.1) 0 with hx | hx | hx
  · rcases Int.lt_trichotomy (b.2 - a.2) 0 with hy | hy | hy
    · rw [part_neg hx, part_neg hy]
      exact c_nn huv hpq hx hy
    · by_cases h2 : c.b - a.2 < 0 ∧ 0 < c.t - a.2
      · rw [part_neg hx, part_zero hy h2, hy]
        exact c_n0 huv h2 hx
      · rw [part_neg hx, part_none hy h2, hy]
        exact ⟨(fun z => nomatch z), fun z => absurd z (thr_y h2)⟩
    · rw [part_neg hx, part_pos hy]
      exact c_np huv hpq hx hy
  · by_cases h1 : c.l - a.1 < 0 ∧ 0 < c.r - a.1
    · rw [part_zero hx h1, hx]
      rcases Int.lt_trichotomy (b.2 - a.2) 0 with hy | hy | hy
      · rw [part_neg hy]
        exact c_0n hpq h1 hy
      · by_cases h2 : c.b - a.2 < 0 ∧ 0 < c.t - a.2
        · rw [part_zero hy h2, hy]
          exact c_00 h1 h2
        · rw [part_none hy h2, hy]
          exact ⟨(fun z => nomatch z), fun z => absurd z (thr_y h2)⟩
      · rw [part_pos hy]
        exact c_0p hpq h1 hy
    · rw [part_none hx h1, hx]
      exact ⟨(fun z => nomatch z), fun z => absurd z (thr_x h1)⟩
  · rcases Int.lt_trichotomy (b.2 - a.2) 0 with hy | hy | hy
    · rw [part_pos hx, part_neg hy]
      exact c_pn huv hpq hx hy
    · by_cases h2 : c.b - a.2 < 0 ∧ 0 < c.t - a.2
      · rw [part_pos hx, part_zero hy h2, hy]
        exact c_p0 huv h2 hx
      · rw [part_pos hx, part_none hy h2, hy]
        exact ⟨(fun z => nomatch z), fun z => absurd z (thr_y h2)⟩
    · rw [part_pos hx, part_pos hy]
      exact c_pp huv hpq hx hy
theorem goes_eq (a b : Int × Int) (c : Bx) (hl : c.l < c.r) (hb : c.b < c.t) : goesWithin a b c = Uw49.through a b ⟨c.l, c.r, c.b, c.t⟩ := Bool.eq_iff_iff.mpr (goes_iff a b c hl hb)
end Md

/-! rules that the layer lacks: slices with a step, list(zip(a, b)), min of data -/
namespace Md
open PySem PySem.Spec PyProof.Rows L2
/-! ### every second item -/
def evens {α : Type} : List α → List α
  | [] => []
  | [a] => [a]
  | a :: _ :: r => a :: evens r
theorem evens_get {α : Type} : ∀ (xs : List α), evens xs = (List.range ((xs.length + 1) / 2)).filterMap fun i => xs[2 * i]?
  | [] => by simp [evens]
  | [a] => by simp [evens, List.range_succ]
  | a :: b :: r => by
    have ih := evens_get r
    have e : ((a :: b :: r).length + 1) / 2 = (r.length + 1) / 2 + 1 := by simp only [List.length_cons]; omega
    rw [e, List.range_succ_eq_map, List.filterMap_cons]
    show a :: evens r = _
    rw [ih, List.filterMap_map]
    refine congrArg (List.cons a) (congrFun (congrArg List.filterMap (funext fun i => ?_)) _)
    show r[2 * i]? = (a :: b :: r)[2 * (i + 1)]?
    rw [Nat.mul_add]
    rfl
theorem vals_evens : ∀ {xs : List V} {us : List Value}, Vals xs us → Vals (evens xs) (evens us)
  | _, _, .nil => .nil
  | _, _, .cons h .nil => .cons h .nil
  | _, _, .cons h (.cons _ t) => .cons h (vals_evens t)
theorem evens_len {α : Type} : ∀ (xs : List α), (evens xs).length ≤ xs.length
  | [] => Nat.le_refl _
  | [_] => Nat.le_refl _
  | a :: b :: r => by
    have := evens_len r
    show (evens r).length + 1 ≤ r.length + 1 + 1
    omega
theorem pick_evens (us : List Value) (lo : Nat) (h : lo ≤ us.length) : slicePick us.toArray (if lo = 0 then none else some (lo : Int)) none (some 2) = (evens (us.drop lo)).toArray := by
  have hb : (sliceBounds (if lo = 0 then none else some (lo : Int)) none (some 2) us.toArray.size) = ((lo : Int), (us.length : Int), 2) := by
    rw [List.size_toArray]
    unfold sliceBounds
    by_cases h0 : lo = 0
    · subst h0
      simp
    · rw [if_neg h0]
      simp
      omega
  unfold slicePick
  rw [hb, evens_get]
  unfold sliceRange
  simp only [List.length_drop]
  rw [if_pos (by decide)]
  have e : ((if (lo : Int) < (us.length : Int) then ((us.length : Int) - (lo : Int) + 2 - 1) / 2 else 0 : Int).toNat) = (us.length - lo + 1) / 2 := by
    split <;> omega
  rw [e, List.filterMap_map]
  refine congrArg List.toArray (congrFun (congrArg List.filterMap (funext fun i => ?_)) _)
  show us.toArray[((lo : Int) + 2 * (i : Int)).toNat]? = (us.drop lo)[2 * i]?
  rw [List.getElem?_drop, List.getElem?_toArray]
  have e2 : ((lo : Int) + 2 * (i : Int)).toNat = lo + 2 * i := by omega
  rw [e2]
/-- e[::2], e[1::2] -/
def tStep (K : PySem.W.Frag) (lo : Nat) (te : TE) : TE := fun σ H Q => te σ H fun x H1 => ∃ a xs, x = .ref a ∧ SqL K H1 a xs ∧ lo ≤ xs.length ∧ ∀ p, H1 p = none → Q (.ref p) (upd H1 p (.lst (evens (xs.drop lo))))
section
variable {X : Cx}
theorem pe_stepAt {e : Expr} {te : TE} {lo : Nat} {el : Option Expr} {k : Nat} {p1 p3 pos : Pos} (he : PE X e te) (hl : PO X el (fun _ H Q => Q (if lo = 0 then none else some (lo : Int)) H)) :
    PE X (.Subscript e (.Slice el none (some (.Constant (.int 2) k p1)) p3) pos) (tStep X.K lo te) := by
  refine ⟨fun pins s σ H Q I h => ?_⟩
  refine Subscript_ (thn (he.run pins s σ H _ I h) fun v s1 ⟨x, H1, I1, r1, q1⟩ => ?_)
  obtain ⟨a, xs, ex, hx, hlo, q⟩ := q1
  subst ex
  cases r1
  have hst : PO X (some (.Constant (.int 2) k p1)) (tPart (tC (.int 2))) := po_some pe_int
  refine wpAny_Slice (thn (hl.run pins s1 σ H1 (fun o H2 => o = (if lo = 0 then none else some (lo : Int)) ∧ H2 = H1) I1 ⟨rfl, rfl⟩) fun vl s2 ⟨l, H2, I2, pl, el, e2⟩ => ?_)
  subst el e2
  refine thn (po_none.run pins s2 σ H2 (fun o H3 => o = none ∧ H3 = H2) I2 ⟨rfl, rfl⟩) fun vu s3 ⟨u, H3, I3, pu, eu, e3⟩ => ?_
  subst eu e3
  refine thn (hst.run pins s3 σ H3 (fun o H4 => o = some 2 ∧ H4 = H3) I3 ⟨2, rfl, rfl, rfl⟩) fun vs s4 ⟨o, H4, I4, ps, eo, e4⟩ => ?_
  subst eo e4
  have I5 : Inv X pins σ H4 { s4 with heap := s4.heap.push { cls := .type "slice", data := .fields #[vl, vu, vs] } } := I4.kept (t' := s4.toks) fun b ob q => Heap.get?_push_of_some _ q
  obtain ⟨its, r, ht, hz⟩ := I5.list hx
  have hlen := r.length
  show wpAny (model X.prog X.w) X.A (subscriptTail e (.Slice _ none (some (.Constant (.int 2) k p1)) p3) (.ref a) (.ref s4.heap.objs.size)) (EP X pins σ Q) X.xe { s4 with heap := s4.heap.push { cls := .type "slice", data := .fields #[vl, vu, vs] } }
  refine tail_any (ops := [.ref a, .ref s4.heap.objs.size]) ht.isList.typeIs (PySem.slot_list_getitem.lookup) ?_ (by with_unfolding_all rfl)
  refine wpAny_getItem_list_slice ht.isList (Heap.IsSliceOf.new _ vl vu vs) pl pu ps (by decide) ?_ (by rw [List.size_toArray]; omega)
  rw [pick_evens its lo (by omega)]
  refine ⟨.ref _, _, I5.laid (t' := s4.toks) (o := .lst (evens (xs.drop lo))) (fun b ob q => Heap.get?_push_of_some _ q) (Nat.le_refl _) ?_, rfl, q _ (I5.hok.fresh (Nat.le_refl _))⟩
  refine ⟨?_, _, 0, vals_evens (r.drop lo), Heap.get?_push_size _ rfl⟩
  have := evens_len (xs.drop lo)
  rw [List.length_drop] at this
  omega
theorem pe_step0 {e : Expr} {te : TE} {k : Nat} {p1 p3 pos : Pos} (he : PE X e te) : PE X (.Subscript e (.Slice none none (some (.Constant (.int 2) k p1)) p3) pos) (tStep X.K 0 te) := pe_stepAt (lo := 0) he po_none
theorem pe_step1 {e : Expr} {te : TE} {k j : Nat} {p0 p1 p3 pos : Pos} (he : PE X e te) : PE X (.Subscript e (.Slice (some (.Constant (.int 1) j p0)) none (some (.Constant (.int 2) k p1)) p3) pos) (tStep X.K 1 te) := by
  have h : PO X (some (.Constant (.int 1) j p0)) (tPart (tC (.int 1))) := po_some pe_int
  refine pe_stepAt (lo := 1) he ⟨fun pins s σ H Q I q => ?_⟩
  exact h.run pins s σ H Q I ⟨1, rfl, q⟩
end
/-! ### min of a list of data -/
theorem minD_mem : ∀ (ds : List PyData) (d : PyData), PySem.W.minD d ds ∈ d :: ds
  | [], d => List.mem_cons_self
  | e :: ds, d => by
    have ih := minD_mem ds (if PySem.W.dataLt e d then e else d)
    show PySem.W.minD (if PySem.W.dataLt e d then e else d) ds ∈ d :: e :: ds
    rcases List.mem_cons.mp ih with h | h
    · rw [h]
      split
      · exact List.mem_cons_of_mem _ List.mem_cons_self
      · exact List.mem_cons_self
    · exact List.mem_cons_of_mem _ (List.mem_cons_of_mem _ h)
def rMinD (K : PySem.W.Frag) : List V → Hp → VK → Prop := fun vs H Q => ∃ (a : Addr) (xs : List V) (d : PyData) (ds : List PyData), vs = [V.ref a] ∧ SqL K H a xs ∧ DpAll K H xs (d :: ds) ∧ PySem.W.AlikeAll (d :: ds) ∧ PyData.depthAll (d :: ds) ≤ 60 ∧
  ∀ (i : Nat) (v : V), xs[i]? = some v → (d :: ds)[i]? = some (PySem.W.minD d ds) → Q v H
theorem vals_back : ∀ {xs : List V} {us : List Value} {i : Nat} {u : Value}, Vals xs us → us[i]? = some u → ∃ x, xs[i]? = some x ∧ RelV x u
  | _, _, _, _, .nil, e => by simp at e
  | _, _, 0, _, .cons r _, e => by simp at e; subst e; exact ⟨_, rfl, r⟩
  | _, _, i + 1, u, .cons _ t, e => by
    obtain ⟨x, h1, h2⟩ := vals_back (i := i) (u := u) t (by simpa using e)
    exact ⟨x, by simpa using h1, h2⟩
section
variable {X : Cx}
theorem cr_minD (hc : X.calm = true) (hu : X.A.units + 64 < cLine) : CallR X (.builtin "min") (rMinD X.K) := by
  intro pins s σ H vs us Q I r h
  obtain ⟨a, xs, d, ds, rfl, hs, hd, hal, hdp, q⟩ := h
  obtain ⟨its, rv, hl, _⟩ := I.list hs
  rw [Vals.ref1 r]
  obtain ⟨as, hr⟩ := Dp.readsAll I (d :: ds) xs its hd rv
  have hr' : PySem.ReadsAll s.heap its.toArray.toList (d :: ds) as := hr
  refine PySem.W.min_list_data (I.ok.hd hc) hl.isList hr' hal (by omega) fun i v h' tk bs hv hm hk => ?_
  obtain ⟨cs, r1, hi, hmem, _⟩ := PySem.W.readsAll_atA hr' i v hv
  have e : (d :: ds).getD i .none = PySem.W.minD d ds := PySem.W.alike_unique _ _ v cs bs (hal.1 _ hmem _ (minD_mem ds d)) (PySem.W.reads_keeps hk r1) hm
  have hv' : its[i]? = some v := by simpa using hv
  obtain ⟨x, hx, rx⟩ := vals_back rv hv'
  refine ⟨x, H, I.kept hk, rx, q i x hx ?_⟩
  rw [← e, List.getD_eq_getElem?_getD, List.getElem?_eq_getElem hi]
  rfl
end
end Md

/-! list(zip(a, b)) -/
namespace Md
open PySem PySem.Spec PyProof.Rows L2
/-- the tuples at as hold the pairs of xs and ys -/
structure ZG (xs ys : Array Value) (lo : Addr) (h : Heap) (as : List Addr) : Prop where
  rise : as.Pairwise (· < ·)
  above : ∀ a ∈ as, lo < a
  pairs : ∀ (j : Nat) (a : Addr), as[j]? = some a → ∃ x y, xs[j]? = some x ∧ ys[j]? = some y ∧ IsPair h a x y
theorem ZG.there {xs ys : Array Value} {lo : Addr} {h : Heap} {as : List Addr} (g : ZG xs ys lo h as) {a : Addr} (ha : a ∈ as) : a < h.objs.size := by
  obtain ⟨j, hj⟩ := List.mem_iff_getElem?.mp ha
  obtain ⟨_, _, _, _, e⟩ := g.pairs j a hj
  exact Heap.lt_size e
/-- the zip at z ahead of turn i; S: the list that is filled -/
structure ZS (h : Heap) (z TI TO i1 i2 l1 l2 S : Addr) (xs ys : Array Value) (i : Nat) : Prop where
  ti : IsPair h TI (.ref i1) (.ref i2)
  it1 : h.IsListIter i1 l1 i
  it2 : h.IsListIter i2 l2 i
  li1 : h.IsList l1 xs
  li2 : h.IsList l2 ys
  zi : (IsZip h z TI TO .none ∧ ∃ a b, IsPair h TO a b) ∨ ∃ T f oT, IsZipHeld h z TI TO T f ∧ h.get? T = some oT ∧ T ≠ z ∧ T ≠ i1 ∧ T ≠ i2 ∧ T ≠ S
theorem ZS.keep {h h' : Heap} {z TI TO i1 i2 l1 l2 S : Addr} {xs ys : Array Value} {i : Nat} (q : ZS h z TI TO i1 i2 l1 l2 S xs ys i) (k : ∀ b o, b ≠ S → h.get? b = some o → h'.get? b = some o)
    (s1 : TI ≠ S) (s2 : i1 ≠ S) (s3 : i2 ≠ S) (s4 : l1 ≠ S) (s5 : l2 ≠ S) (s6 : z ≠ S) (s7 : TO ≠ S) : ZS h' z TI TO i1 i2 l1 l2 S xs ys i := by
  refine ⟨k _ _ s1 q.ti, q.it1.at fun o e => k _ o s2 e, q.it2.at fun o e => k _ o s3 e, q.li1.at fun o e => k _ o s4 e, q.li2.at fun o e => k _ o s5 e, ?_⟩
  rcases q.zi with ⟨z1, a, b, z2⟩ | ⟨T, f, oT, z1, z2, n1, n2, n3, n4⟩
  · exact .inl ⟨k _ _ s6 z1, a, b, k _ _ s7 z2⟩
  · exact .inr ⟨T, f, oT, k _ _ s6 z1, k _ _ n4 z2, n1, n2, n3, n4⟩
section
variable {prog : Program} {w : World} {A : Around} {E : Value → Shared → Prop} {s : Shared} {z TI TO i1 i2 l1 l2 S : Addr} {xs ys : Array Value} {i : Nat}
theorem zs_item {x y : Value} {Q : Option Value → Shared → Prop} (D : ZipApart z TI TO i1 i2 l1 l2) (q : ZS s.heap z TI TO i1 i2 l1 l2 S xs ys i) (hS : S < s.heap.objs.size) (hx : xs[i]? = some x) (hy : ys[i]? = some y)
    (hQ : ∀ h', ZS h' z TI TO i1 i2 l1 l2 S xs ys (i + 1) → IsPair h' s.heap.objs.size x y → h'.objs.size = s.heap.objs.size + 1 → (∀ c o, c ≠ z → c ≠ TO → c ≠ i1 → c ≠ i2 → s.heap.get? c = some o → h'.get? c = some o) → Q (some (.ref s.heap.objs.size)) { s with heap := h' }) :
    wpAny (model prog w) A (pyNext (.ref z)) Q E s := by
  have lt : ∀ {c o}, s.heap.get? c = some o → s.heap.objs.size ≠ c := fun e => Nat.ne_of_gt (Heap.lt_size e)
  rcases q.zi with ⟨hz, a, b, hTO⟩ | ⟨T, f, oT, hz, hT, n1, n2, n3, n4⟩
  · refine wpAny_pyNext_zip_item D hz q.ti hTO q.it1 q.it2 q.li1 q.li2 hx hy fun h' a1 a2 a3 a4 a5 a6 hk => ?_
    refine hQ h' ⟨hk _ _ D.TIz D.TITO D.TIi1 D.TIi2 q.ti, a3, a4, q.li1.at fun o e => hk _ o D.l1z D.l1TO D.l1i1 D.l1i2 e, q.li2.at fun o e => hk _ o D.l2z D.l2TO D.l2i1 D.l2i2 e, .inr ⟨s.heap.objs.size, false, _, a1, a5, lt hz, ?_, ?_, Nat.ne_of_gt hS⟩⟩ a5 a6 hk
    · obtain ⟨_, e, _⟩ := q.it1; exact lt e
    · obtain ⟨_, e, _⟩ := q.it2; exact lt e
  · refine wpAny_pyNext_zip_item_held D hz hT q.ti q.it1 q.it2 q.li1 q.li2 hx hy fun h' a1 a3 a4 a5 a6 hk => ?_
    exact hQ h' ⟨hk _ _ D.TIz D.TIi1 D.TIi2 q.ti, a3, a4, q.li1.at fun o e => hk _ o D.l1z D.l1i1 D.l1i2 e, q.li2.at fun o e => hk _ o D.l2z D.l2i1 D.l2i2 e, .inr ⟨T, true, oT, a1, hk _ _ n1 n2 n3 hT, n1, n2, n3, n4⟩⟩ a5 a6 fun c o c1 _ c3 c4 e => hk c o c1 c3 c4 e
theorem zs_done {Q : Option Value → Shared → Prop} (hh : A.handled = none) (D : ZipApart z TI TO i1 i2 l1 l2) (q : ZS s.heap z TI TO i1 i2 l1 l2 S xs ys i) (hend : xs[i]? = none ∨ ys[i]? = none)
    (hQ : ∀ h', (∀ c o, c ≠ z → c ≠ TO → c ≠ i1 → c ≠ i2 → s.heap.get? c = some o → h'.get? c = some o) → Q none { s with heap := h' }) : wpAny (model prog w) A (pyNext (.ref z)) Q E s := by
  rcases q.zi with ⟨hz, a, b, hTO⟩ | ⟨T, f, oT, hz, hT, n1, n2, n3, n4⟩
  · exact wpAny_pyNext_zip_end hh D hz q.ti hTO q.it1 q.it2 q.li1 q.li2 hend hQ
  · exact wpAny_pyNext_zip_end_held hh D hz hT q.ti q.it1 q.it2 q.li1 q.li2 hend fun h' hk => hQ h' fun c o c1 _ c3 c4 e => hk c o c1 c3 c4 e
end
section
variable {prog : Program} {w : World} {A : Around} {s : Shared} {R : Result → Shared → Prop} {z TI TO i1 i2 l1 l2 : Addr} {xs ys : Array Value}
theorem zs_loop {S : Addr} (hh : A.handled = none) (D : ZipApart z TI TO i1 i2 l1 l2) (s1 : TI ≠ S) (s2 : i1 ≠ S) (s3 : i2 ≠ S) (s4 : l1 ≠ S) (s5 : l2 ≠ S) (s6 : z ≠ S) (s7 : TO ≠ S)
    (g1 : z < S) (g2 : TO < S) (g3 : i1 < S) (g4 : i2 < S) (hn : min xs.size ys.size ≤ sizeLine) (res : Value) {h₁ : Heap}
    (hR : ∀ h' tk acc c as, (∀ b o, b ≠ S → b ≠ z → b ≠ TO → b ≠ i1 → b ≠ i2 → h₁.get? b = some o → h'.get? b = some o) → h'.get? S = some { cls := .type "list", dict := none, data := .seq acc c, slots := #[] } → as.length = min xs.size ys.size → ZG xs ys S h' as →
      acc.toList = as.map Value.ref → R (.ok (.ret res)) { s with heap := h', toks := tk }) :
    ∀ (k i : Nat) (h : Heap) (tk c : Nat) (acc : Array Value) (as : List Addr), min xs.size ys.size - i = k → i ≤ min xs.size ys.size → ZS h z TI TO i1 i2 l1 l2 S xs ys i → (∀ b o, b ≠ S → b ≠ z → b ≠ TO → b ≠ i1 → b ≠ i2 → h₁.get? b = some o → h.get? b = some o) →
      h.get? S = some { cls := .type "list", dict := none, data := .seq acc c, slots := #[] } → acc.toList = as.map Value.ref → as.length = i → ZG xs ys S h as →
      codeAny (model prog w) A (.builtin "list.extend.loop" ⟨[.ref S, .ref z, res], []⟩) R { s with heap := h, toks := tk } := by
  have off : ∀ a, S < a → a ≠ z ∧ a ≠ TO ∧ a ≠ i1 ∧ a ≠ i2 := fun a h => ⟨Nat.ne_of_gt (Nat.lt_trans g1 h), Nat.ne_of_gt (Nat.lt_trans g2 h), Nat.ne_of_gt (Nat.lt_trans g3 h), Nat.ne_of_gt (Nat.lt_trans g4 h)⟩
  intro k
  induction k with
  | zero =>
    intro i h tk c acc as hk hi hst hkeep hS hacc hal hG
    have hin : i = min xs.size ys.size := by omega
    have hend : xs[i]? = none ∨ ys[i]? = none := by
      rcases Nat.le_total xs.size ys.size with q | q
      · exact .inl (Array.getElem?_eq_none (by omega))
      · exact .inr (Array.getElem?_eq_none (by omega))
    refine codeAny_builtin PySem.F.entry_extend_loop ?_
    rw [Around.under_plainId PySem.F.plain_extend_loop _]
    show wpAny _ A.in1 (pyNext (.ref z) >>= _) _ _ _
    refine wpAny_bind (zs_done (s := { s with heap := h, toks := tk }) (A := A.in1) hh D hst hend fun h' he => ?_)
    refine wpAny_pure (hR h' tk acc c as (fun b o h0 h1 h2 h3 h4 e => he b o h1 h2 h3 h4 (hkeep b o h0 h1 h2 h3 h4 e)) (he S _ (Ne.symm s6) (Ne.symm s7) (Ne.symm s2) (Ne.symm s3) hS) (by omega) ⟨hG.rise, hG.above, fun j a hj => ?_⟩ hacc)
    obtain ⟨x, y, e1, e2, e3⟩ := hG.pairs j a hj
    obtain ⟨o1, o2, o3, o4⟩ := off a (hG.above a (List.mem_of_getElem? hj))
    exact ⟨x, y, e1, e2, he a _ o1 o2 o3 o4 e3⟩
  | succ k ih =>
    intro i h tk c acc as hk hi hst hkeep hS hacc hal hG
    have hlt : i < min xs.size ys.size := by omega
    have hsz : acc.size = i := by rw [← Array.length_toList, hacc, List.length_map, hal]
    have hx : xs[i]? = some xs[i] := Array.getElem?_eq_getElem (by omega)
    have hy : ys[i]? = some ys[i] := Array.getElem?_eq_getElem (by omega)
    have hSl : S < h.objs.size := Heap.lt_size hS
    refine codeAny_builtin PySem.F.entry_extend_loop ?_
    rw [Around.under_plainId PySem.F.plain_extend_loop _]
    show wpAny _ A.in1 (pyNext (.ref z) >>= _) _ _ _
    refine wpAny_bind (zs_item (s := { s with heap := h, toks := tk }) D hst hSl hx hy fun h' hst' ht hz hkp => ?_)
    dsimp only at ht hz hkp ⊢
    have hS' := hkp S _ (Ne.symm s6) (Ne.symm s7) (Ne.symm s2) (Ne.symm s3) hS
    have up : ∀ b o, b ≠ S → h'.get? b = some o → (h'.update S (Obj.mapSeq (·.push (Value.ref h.objs.size)))).get? b = some o := fun b o hb e => (Heap.get?_update_other _ _ (Ne.symm hb)).trans e
    show wpAny _ A.in1 (updateSeq S (·.push (Value.ref h.objs.size)) >>= _) _ _ _
    refine wpAny_bind ?_
    refine wpAny_updateSeq hS' rfl (wpAny_pure ⟨plainId_quiet PySem.F.plain_extend_loop _, ih (i + 1) _ tk _ (acc.push (Value.ref h.objs.size)) (as ++ [h.objs.size]) (by omega) hlt (hst'.keep up s1 s2 s3 s4 s5 s6 s7)
      (fun b o h0 h1 h2 h3 h4 e => up b o h0 (hkp b o h1 h2 h3 h4 (hkeep b o h0 h1 h2 h3 h4 e))) (Heap.get?_update_self _ hS' rfl) (by rw [Array.toList_push, hacc, List.map_append]; rfl) (by rw [List.length_append, hal]; rfl) ⟨?_, ?_, ?_⟩⟩) (by rw [hsz]; omega) (by show (acc.push (Value.ref h.objs.size)).size ≤ sizeLine + 1; rw [Array.size_push, hsz]; omega)
    · refine List.pairwise_append.mpr ⟨hG.rise, List.pairwise_singleton _ _, fun a ha b hb => ?_⟩
      rw [List.mem_singleton.mp hb]
      exact hG.there ha
    · intro a ha
      rcases List.mem_append.mp ha with ha | ha
      · exact hG.above a ha
      · rw [List.mem_singleton.mp ha]; exact hSl
    · intro j b hj
      rcases Nat.lt_trichotomy j as.length with h1 | h1 | h1
      · rw [List.getElem?_append_left h1] at hj
        obtain ⟨x, y, e1, e2, e3⟩ := hG.pairs j b hj
        have hb := hG.above b (List.mem_of_getElem? hj)
        obtain ⟨o1, o2, o3, o4⟩ := off b hb
        exact ⟨x, y, e1, e2, up b _ (Nat.ne_of_gt hb) (hkp b _ o1 o2 o3 o4 e3)⟩
      · subst h1
        have hb : h.objs.size = b := by simpa using hj
        subst hb
        subst hal
        exact ⟨_, _, hx, hy, up _ _ (Nat.ne_of_gt hSl) ht⟩
      · have hnone : (as ++ [h.objs.size])[j]? = none := List.getElem?_eq_none (by rw [List.length_append, List.length_singleton]; omega)
        rw [hnone] at hj; cases hj
end
section
variable {prog : Program} {w : World} {A : Around} {E : Value → Shared → Prop} {s : Shared}
theorem zip_no_len : typeLookup (.type "zip") "__len__" = pure none := am_miss_of_fast (by decide +kernel)
theorem zip_no_hint : typeLookup (.type "zip") "__length_hint__" = pure none := am_miss_of_fast (by decide +kernel)
theorem zip_hint {r : Addr} (hT : s.TypeIs (.ref r) "zip") {Q : Bool → Shared → Prop} (h : Q true s) : wpAny (model prog w) A (Builtin.List.listLengthHint (.ref r)) Q E s := by
  unfold Builtin.List.listLengthHint
  refine wpAny_bind (wpAny_specialOf hT zip_no_len ?_)
  refine PySem.W.KFB.if_not rfl ?_
  refine PySem.W.KFB.if_not rfl ?_
  refine wpAny_bind (wpAny_specialOf hT zip_no_hint ?_)
  exact wpAny_pure h
variable {z TI TO i1 i2 l1 l2 : Addr} {xs ys : Array Value}
theorem zs_extend {R : Result → Shared → Prop} {S : Addr} (hh : A.handled = none) (D : ZipApart z TI TO i1 i2 l1 l2) (s1 : TI ≠ S) (s2 : i1 ≠ S) (s3 : i2 ≠ S) (s4 : l1 ≠ S) (s5 : l2 ≠ S) (s6 : z ≠ S) (s7 : TO ≠ S)
    (g1 : z < S) (g2 : TO < S) (g3 : i1 < S) (g4 : i2 < S) (hn : min xs.size ys.size ≤ sizeLine) (res : Value) (c₀ : Nat)
    (q : ZS s.heap z TI TO i1 i2 l1 l2 S xs ys 0) (hz : IsZip s.heap z TI TO .none) (hS : s.heap.get? S = some { cls := .type "list", data := .seq #[] c₀ })
    (hR : ∀ h' tk acc c as, (∀ b o, b ≠ S → b ≠ z → b ≠ TO → b ≠ i1 → b ≠ i2 → s.heap.get? b = some o → h'.get? b = some o) → h'.get? S = some { cls := .type "list", dict := none, data := .seq acc c, slots := #[] } → as.length = min xs.size ys.size → ZG xs ys S h' as →
      acc.toList = as.map Value.ref → R (.ok (.ret res)) { s with heap := h', toks := tk }) :
    wpAny (model prog w) A.in1 (Builtin.List.listExtendWith (.ref S) (.ref z) res)
      (fun fin s' => match fin with | .done f => R (.ok f) s' | .again c' => c'.quiet = true ∧ codeAny (model prog w) A c' R s') (fun e s' => R (.error e) s') s := by
  have hTz : s.TypeIs (.ref z) "zip" := ⟨_, hz, rfl⟩
  have key : ∀ (h : Heap) (c₁ tk : Nat), (∀ b o, b ≠ S → s.heap.get? b = some o → h.get? b = some o) → h.get? S = some { cls := .type "list", data := .seq #[] c₁ } →
      codeAny (model prog w) A (.builtin "list.extend.loop" ⟨[.ref S, .ref z, res], []⟩) R { s with heap := h, toks := tk } := by
    intro h c₁ tk hk hS₁
    exact zs_loop (s := s) (h₁ := s.heap) hh D s1 s2 s3 s4 s5 s6 s7 g1 g2 g3 g4 hn res hR (min xs.size ys.size) 0 h tk c₁ #[] [] (Nat.sub_zero _) (Nat.zero_le _) (q.keep hk s1 s2 s3 s4 s5 s6 s7)
      (fun b o hb _ _ _ _ e => hk b o hb e) hS₁ rfl rfl ⟨List.Pairwise.nil, (fun _ ha => nomatch ha), (fun j a hj => by simp at hj)⟩
  unfold Builtin.List.listExtendWith
  refine wpAny_bind (wpAny_typeOf (T := "zip") hTz ?_)
  have h1 : Builtin.List.listSameRef (.ref S) (.ref z) = false := by simp [Builtin.List.listSameRef, Ne.symm s6]
  have h2 : (Value.type "zip" == Value.type "list") = false := by decide
  have h3 : (Value.type "zip" == Value.type "tuple") = false := by decide
  simp only [h1, h2, h3, Bool.or_false, Bool.false_eq_true, if_false]
  refine wpAny_bind (wpAny_pyIter_zip hz ?_)
  refine wpAny_bind (wpAny_holding (zip_hint hTz ?_))
  refine wpAny_ite_split (fun _ => ?_) (fun _ => wpAny_pure ⟨plainId_quiet PySem.F.plain_extend_loop _, key _ c₀ _ (fun b o _ e => e) hS⟩)
  refine wpAny_bind (wpAny_rule ?_)
  refine wpAny_bind ?_
  show wpAny _ _ (updateSeq S (·.push .none) >>= fun _ => updateSeq S (·.pop)) _ _ _
  refine wpAny_bind (wpAny_updateSeq hS rfl ?_)
  have hS₂ := Heap.get?_update_self (Obj.mapSeq (·.push Value.none)) hS rfl
  refine wpAny_updateSeq (hz := by seq_fits) hS₂ rfl ?_
  have hS₃ := Heap.get?_update_self (Obj.mapSeq (·.pop)) hS₂ rfl
  refine wpAny_pure ⟨plainId_quiet PySem.F.plain_extend_loop _, key _ _ _ (fun b o hb e => ?_) hS₃⟩
  exact (Heap.get?_update_other _ _ (Ne.symm hb)).trans ((Heap.get?_update_other _ _ (Ne.symm hb)).trans e)
theorem zs_init {R : Result → Shared → Prop} {S : Addr} (hh : A.handled = none) (D : ZipApart z TI TO i1 i2 l1 l2) (s1 : TI ≠ S) (s2 : i1 ≠ S) (s3 : i2 ≠ S) (s4 : l1 ≠ S) (s5 : l2 ≠ S) (s6 : z ≠ S) (s7 : TO ≠ S)
    (g1 : z < S) (g2 : TO < S) (g3 : i1 < S) (g4 : i2 < S) (hn : min xs.size ys.size ≤ sizeLine)
    (q : ZS s.heap z TI TO i1 i2 l1 l2 S xs ys 0) (hz : IsZip s.heap z TI TO .none) (hS : s.heap.get? S = some { cls := .type "list", data := .seq #[] })
    (hR : ∀ h' tk acc c as, (∀ b o, b ≠ S → b ≠ z → b ≠ TO → b ≠ i1 → b ≠ i2 → s.heap.get? b = some o → h'.get? b = some o) → h'.get? S = some { cls := .type "list", dict := none, data := .seq acc c, slots := #[] } → as.length = min xs.size ys.size → ZG xs ys S h' as →
      acc.toList = as.map Value.ref → R (.ok (.ret .none)) { s with heap := h', toks := tk }) :
    wpAny (model prog w) A.in1 (Builtin.«list.__init__» ⟨[.ref S, .ref z], []⟩)
      (fun fin s' => match fin with | .done f => R (.ok f) s' | .again c' => c'.quiet = true ∧ codeAny (model prog w) A c' R s') (fun e s' => R (.error e) s') s := by
  show wpAny _ _ (do let old ← Builtin.List.listItems (.ref S); Builtin.List.listUpdate (.ref S) (fun _ => #[]); letGo old.toList.reverse; Builtin.List.listExtendWith (.ref S) (.ref z) .none) _ _ s
  refine wpAny_bind ?_
  unfold Builtin.List.listItems
  refine wpAny_bind (wpAny_seqItems hS rfl (wpAny_pure ?_))
  show wpAny _ _ (updateSeq S (fun _ => #[]) >>= fun _ => letGo (#[] : Array Value).toList.reverse >>= fun _ => Builtin.List.listExtendWith (.ref S) (.ref z) .none) _ _ s
  refine wpAny_bind (wpAny_updateSeq hS rfl ?_)
  have hS₂ := Heap.get?_update_self (Obj.mapSeq (fun _ => (#[] : Array Value))) hS rfl
  have oth : ∀ b o, b ≠ S → s.heap.get? b = some o → (s.heap.update S (Obj.mapSeq (fun _ => (#[] : Array Value)))).get? b = some o :=
    fun b o hb e => (Heap.get?_update_other _ _ (Ne.symm hb)).trans e
  refine wpAny_bind (wpAny_letGo ?_)
  refine zs_extend hh D s1 s2 s3 s4 s5 s6 s7 g1 g2 g3 g4 hn .none _ (q.keep oth s1 s2 s3 s4 s5 s6 s7) (oth _ _ s6 hz) hS₂ (fun h' tk acc c as hk hS' hl hG hacc => ?_)
  exact hR h' tk acc c as (fun b o h0 h1 h2 h3 h4 e => hk b o h0 h1 h2 h3 h4 (oth b o h0 e)) hS' hl hG hacc
theorem zs_call {Q : Value → Shared → Prop} (hh : A.handled = none) (D : ZipApart z TI TO i1 i2 l1 l2) (hn : min xs.size ys.size ≤ sizeLine)
    (hz : IsZip s.heap z TI TO .none) (hTI : IsPair s.heap TI (.ref i1) (.ref i2)) (hTO : IsPair s.heap TO .none .none) (h1 : s.heap.IsListIter i1 l1 0) (h2 : s.heap.IsListIter i2 l2 0) (hl1 : s.heap.IsList l1 xs) (hl2 : s.heap.IsList l2 ys)
    (hQ : ∀ h' tk acc c as, (∀ b o, b ≠ z → b ≠ TO → b ≠ i1 → b ≠ i2 → s.heap.get? b = some o → h'.get? b = some o) → h'.get? s.heap.objs.size = some { cls := .type "list", dict := none, data := .seq acc c, slots := #[] } → as.length = min xs.size ys.size → ZG xs ys s.heap.objs.size h' as →
      acc.toList = as.map Value.ref → Q (.ref s.heap.objs.size) { s with heap := h', toks := tk }) :
    wpAny (model prog w) A (call (.type "list") [.ref z]) Q E s := by
  refine callType_codes (Q₁ := fun obj s₁ => obj = .ref s.heap.objs.size ∧ s₁ = { s with heap := s.heap.push { cls := .type "list", data := .seq #[] } }) PySem.F.called_list (PySem.F.typeCall_list_1 _) PySem.F.entry_list_init
    (code_list_new _ ⟨rfl, rfl⟩) fun obj s₁ h₁ => ?_
  obtain ⟨rfl, rfl⟩ := h₁
  have hS : (s.heap.push { cls := .type "list", data := .seq #[] }).get? s.heap.objs.size = some { cls := .type "list", data := .seq #[] } := Heap.get?_push_size _ rfl
  have lt : ∀ {c o}, s.heap.get? c = some o → c < s.heap.objs.size := fun e => Heap.lt_size e
  have lz := lt hz
  have lTI := lt hTI
  have lTO := lt hTO
  have li1 : i1 < s.heap.objs.size := by obtain ⟨_, e, _⟩ := h1; exact lt e
  have li2 : i2 < s.heap.objs.size := by obtain ⟨_, e, _⟩ := h2; exact lt e
  have ll1 : l1 < s.heap.objs.size := by obtain ⟨_, e, _⟩ := hl1; exact lt e
  have ll2 : l2 < s.heap.objs.size := by obtain ⟨_, e, _⟩ := hl2; exact lt e
  have kp : ∀ b o, s.heap.get? b = some o → (s.heap.push { cls := .type "list", data := .seq #[] }).get? b = some o := fun b o e => Heap.get?_push_of_some _ e
  refine ⟨⟨_, hS, rfl⟩, PySem.F.args_list_init_2 _ _, zs_init (A := A.in1) hh D (Nat.ne_of_lt lTI) (Nat.ne_of_lt li1) (Nat.ne_of_lt li2) (Nat.ne_of_lt ll1) (Nat.ne_of_lt ll2) (Nat.ne_of_lt lz) (Nat.ne_of_lt lTO) lz lTO li1 li2 hn
    ⟨kp _ _ hTI, h1.at fun o e => kp _ o e, h2.at fun o e => kp _ o e, hl1.at fun o e => kp _ o e, hl2.at fun o e => kp _ o e, .inl ⟨kp _ _ hz, _, _, kp _ _ hTO⟩⟩ (kp _ _ hz) hS (fun h' tk acc c as hk hS' hl hG hacc => ?_)⟩
  exact ⟨rfl, hQ h' tk acc c as (fun b o h1 h2 h3 h4 e => hk b o (Nat.ne_of_lt (Heap.lt_size e)) h1 h2 h3 h4 (Heap.get?_push_of_some _ e)) hS' hl hG hacc⟩
end
/-! ### the rule -/
def putP : Hp → List Addr → List (V × V) → Hp
  | H, a :: as, p :: ps => putP (upd H a (.tup [p.1, p.2])) as ps
  | H, _, _ => H
theorem putP_off {b : Addr} : ∀ (as : List Addr) (ps : List (V × V)) (H : Hp), b ∉ as → putP H as ps b = H b
  | [], _, _, _ => rfl
  | _ :: _, [], _, _ => rfl
  | a :: as, p :: ps, H, h => by
    show putP (upd H a (.tup [p.1, p.2])) as ps b = H b
    rw [putP_off as ps _ (fun z => h (List.mem_cons_of_mem _ z)), upd_ne (fun z => h (by rw [z]; exact List.mem_cons_self))]
theorem putP_at : ∀ (as : List Addr) (ps : List (V × V)) (H : Hp), as.length = ps.length → as.Nodup → ∀ (j : Nat) (a : Addr), as[j]? = some a → ∃ p, ps[j]? = some p ∧ putP H as ps a = some (.tup [p.1, p.2])
  | [], _, _, _, _, j, a, h => by simp at h
  | _ :: _, [], _, h, _, _, _, _ => by cases h
  | b :: as, p :: ps, H, h, hn, 0, a, hj => by
    have hn' := List.nodup_cons.mp hn
    have e : b = a := by simpa using hj
    subst e
    refine ⟨p, rfl, ?_⟩
    show putP (upd H b (.tup [p.1, p.2])) as ps b = some (.tup [p.1, p.2])
    rw [putP_off as ps _ hn'.1, upd_same]
  | b :: as, p :: ps, H, h, hn, j + 1, a, hj => putP_at as ps (upd H b (.tup [p.1, p.2])) (Nat.succ.inj h) (List.nodup_cons.mp hn).2 j a (by simpa using hj)
theorem vals_refs : ∀ as : List Addr, Vals (as.map V.ref) (as.map Value.ref)
  | [] => .nil
  | _ :: as => .cons rfl (vals_refs as)
/-- list(zip(a, b)) -/
def tLstZip (K : PySem.W.Frag) (ta : TA) : TE := fun σ H Q => ta σ H fun vs H1 => ∃ a b xs ys, vs = [.ref a, .ref b] ∧ SqL K H1 a xs ∧ SqL K H1 b ys ∧
  ∀ (H' : Hp) (p : Addr) (ts : List Addr), Evl.Ex H1 H' → (∀ c, H1 c ≠ none → c ∉ ts ∧ c ≠ p) → (∀ c, c ∉ ts → c ≠ p → H' c = H1 c) → H' p = some (.lst (ts.map V.ref)) → ts.length = (xs.zip ys).length → (∀ (j : Nat) (t : Addr), ts[j]? = some t → ∃ q, (xs.zip ys)[j]? = some q ∧ H' t = some (.tup [q.1, q.2])) → Q (.ref p) H'
section
variable {X : Cx}
theorem pairs_laid {pins : List (Addr × Obj)} {σ : L2.St} {H : Hp} {s : Shared} {h' : Heap} {tk S : Nat} {xs ys : List V} {us ws : List Value} {acc : Array Value} {c : Nat} {as : List Addr} (I : Inv X pins σ H s) (rx : Vals xs us) (ry : Vals ys ws) (hz : min xs.length ys.length ≤ sizeLine)
    (hSz : s.heap.objs.size ≤ S) (hk : ∀ b o, s.heap.get? b = some o → h'.get? b = some o) (hS : h'.get? S = some { cls := .type "list", dict := none, data := .seq acc c, slots := #[] }) (hl : as.length = min us.toArray.size ws.toArray.size) (hG : ZG us.toArray ws.toArray S h' as) (hacc : acc.toList = as.map Value.ref) :
    ∃ H' : Hp, Evl.Ex H H' ∧ (∀ c, H c ≠ none → c ∉ as ∧ c ≠ S) ∧ (∀ c, c ∉ as → c ≠ S → H' c = H c) ∧ H' S = some (.lst (as.map V.ref)) ∧ as.length = (xs.zip ys).length ∧ (∀ (j : Nat) (t : Addr), as[j]? = some t → ∃ q, (xs.zip ys)[j]? = some q ∧ H' t = some (.tup [q.1, q.2])) ∧ Inv X pins σ H' { s with heap := h', toks := tk } := by
  have lx := rx.length
  have ly := ry.length
  have lz : as.length = (xs.zip ys).length := by rw [hl, List.length_zip, List.size_toArray, List.size_toArray]; omega
  have hSn : S ∉ as := fun z => Nat.lt_irrefl _ (hG.above _ z)
  have nd : as.Nodup := List.Pairwise.imp (fun {a b} (h : a < b) => Nat.ne_of_lt h) hG.rise
  have new : ∀ t ∈ as, H t = none := fun t ht => I.hok.fresh (Nat.le_trans hSz (Nat.le_of_lt (hG.above t ht)))
  have newS : H S = none := I.hok.fresh hSz
  have atP := putP_at as (xs.zip ys) (upd H S (.lst (as.map V.ref))) lz nd
  have off : ∀ b, b ∉ as → b ≠ S → putP (upd H S (.lst (as.map V.ref))) as (xs.zip ys) b = H b := fun b h1 h2 => by rw [putP_off as _ _ h1, upd_ne h2]
  have low : ∀ b o, s.heap.get? b = some o → b ∉ as ∧ b ≠ S := fun b o e => ⟨fun z => absurd (Heap.lt_size e) (Nat.not_lt.mpr (Nat.le_trans hSz (Nat.le_of_lt (hG.above b z)))), Nat.ne_of_lt (Nat.lt_of_lt_of_le (Heap.lt_size e) hSz)⟩
  have kp : ∀ b u, H b = some u → (putP (upd H S (.lst (as.map V.ref))) as (xs.zip ys)) b = some u := fun b u e => by
    rw [off b (fun z => by rw [new b z] at e; cases e) (fun z => by rw [z, newS] at e; cases e)]
    exact e
  have eS : putP (upd H S (.lst (as.map V.ref))) as (xs.zip ys) S = some (.lst (as.map V.ref)) := by rw [putP_off as _ _ hSn, upd_same]
  refine ⟨putP (upd H S (.lst (as.map V.ref))) as (xs.zip ys), kp, fun c hc => ⟨fun z => hc (new c z), fun z => hc (by rw [z]; exact newS)⟩, off, eS, lz, atP, ?_⟩
  refine I.call' (ch := []) rfl ⟨fun b o q _ _ _ => hk b o q, fun b o q _ _ _ => ⟨o.slots, hk b o q⟩, fun b o q n _ => ?_, fun b o q _ => ⟨o, hk b o q⟩, fun b xs q => kp b _ q, fun b o u q => kp b _ q, fun b ps q => ⟨#[], by rw [kp b _ q]; simp⟩⟩ (fun b u q => ?_) I.bare fun b z => by simp at z
  · obtain ⟨z1, z2⟩ := low b o q
    rw [off b z1 z2]
    exact n
  · by_cases hb : b ∈ as
    · obtain ⟨j, hj⟩ := List.mem_iff_getElem?.mp hb
      obtain ⟨p, e1, e2⟩ := atP j b hj
      rw [e2] at q
      cases q
      obtain ⟨x, y, f1, f2, f3⟩ := hG.pairs j b hj
      obtain ⟨g1, g2⟩ := List.getElem?_zip_eq_some.mp e1
      obtain ⟨u1, k1, r1⟩ := rx.get g1
      obtain ⟨u2, k2, r2⟩ := ry.get g2
      have f1' : us[j]? = some x := by simpa using f1
      have f2' : ws[j]? = some y := by simpa using f2
      rw [k1] at f1'
      rw [k2] at f2'
      cases f1'
      cases f2'
      exact ⟨by show 2 ≤ sizeLine; decide, _, .cons r1 (.cons r2 .nil), ⟨_, f3, rfl, _, rfl⟩⟩
    · by_cases hb2 : b = S
      · rw [hb2] at q ⊢
        rw [eS] at q
        cases q
        refine ⟨by rw [List.length_map, lz, List.length_zip]; exact hz, acc.toList, c, by rw [hacc]; exact vals_refs as, ?_⟩
        rw [Array.toArray_toList]
        exact hS
      · rw [off b hb hb2] at q
        exact (I.hok b u q).stay (fun d v _ y => hk d v y) (fun d y => kp d _ y) fun d xs y => kp d _ y
theorem pe_listZip {e e2 : Expr} {ta : TA} {p p2 cpos pos : Pos} (hc : X.calm = true) (hg : Gl X "list") (hm : X.mg "list" = none) (hv : bootBuiltins "list" = some (.type "list")) (hgz : Gl X "zip") (hmz : X.mg "zip" = none) (ha : PA X [e, e2] ta)
    (hs2 : starEach [e, e2] X.env = (false, eval e X.env) :: starEach [e2] X.env := by rfl) (hpl : (backTo cpos (starEach [e2] X.env)).any (·.1) = false := by rfl)
    (hs : starEach [.Call (.Name "zip" p2) [e, e2] [] cpos] X.env = (false, eval (.Call (.Name "zip" p2) [e, e2] [] cpos) X.env) :: starEach [] X.env := by rfl) :
    PE X (.Call (.Name "list" p) [.Call (.Name "zip" p2) [e, e2] [] cpos] [] pos) (tLstZip X.K ta) := by
  refine ⟨fun pins s σ H Q I hq => ?_⟩
  refine wpAny_Call_Name_kw (ld_blt I hg hm hv ?_)
  refine PyProof.Rows.callWith_type1 ?_ hs rfl
  rw [hs]
  show wpAny _ _ (spliced ((false, eval (.Call (.Name "zip" p2) [e, e2] [] cpos) X.env) :: backTo pos (starEach [] X.env))) _ _ s
  refine Calls.spliced_cons ?_
  refine Call_ (ld_blt I hgz hmz PyProof.Rows.boot_zip (PyProof.Rows.callWith_type1 (thn (ha.run cpos pins s σ H _ I hq) fun us s1 ⟨vs, H1, I1, r1, q1⟩ => ?_) hs2 hpl))
  obtain ⟨a, b, xs, ys, ex, hqx, hqy, q⟩ := q1
  subst ex
  cases r1 with
  | cons r rr =>
    cases rr with
    | cons r' rr =>
      cases rr
      cases r
      cases r'
      obtain ⟨its, rv, p1, z1⟩ := I1.list hqx
      obtain ⟨its2, rv2, p2, z2⟩ := I1.list hqy
      have la : a < s1.heap.objs.size := p1.lt
      have lb : b < s1.heap.objs.size := p2.lt
      have lv := rv.length
      have lv2 := rv2.length
      refine call_zip_2 p1.isList p2.isList fun h5 hz hTI hTO h1 h2 hsz hk => ?_
      refine Calls.spliced_nil ?_
      have hn : min its.toArray.size its2.toArray.size ≤ sizeLine := by rw [List.size_toArray, List.size_toArray]; omega
      refine zs_call (s := { s1 with heap := h5 }) (I1.ok.hd hc) (PySem.W.ktu_apart s1.heap.objs.size a b la lb) hn hz hTI hTO h1 h2 (p1.isList.at fun o e => hk _ o e) (p2.isList.at fun o e => hk _ o e) fun h' tk acc c as hk' hS hl hG hacc => ?_
      have big : ∀ b o, s1.heap.get? b = some o → b ≠ s1.heap.objs.size + 4 ∧ b ≠ s1.heap.objs.size + 3 ∧ b ≠ s1.heap.objs.size ∧ b ≠ s1.heap.objs.size + 1 := fun b o e => by
        have := Heap.lt_size e
        refine ⟨?_, ?_, ?_, ?_⟩ <;> exact Nat.ne_of_lt (Nat.lt_of_lt_of_le this (by first | exact Nat.le_add_right _ _ | exact Nat.le_refl _))
      obtain ⟨H', k1, k2, k3, k4, k5, k6, J⟩ := pairs_laid (tk := tk) (S := h5.objs.size) I1 rv rv2 (by omega) (by rw [hsz]; exact Nat.le_add_right _ _) (fun b o e => by
        obtain ⟨o1, o2, o3, o4⟩ := big b o e
        exact hk' b o o1 o2 o3 o4 (hk b o e)) hS hl hG hacc
      exact ⟨.ref _, H', J, rfl, q H' _ as k1 k2 k3 k4 k5 k6⟩
end
end Md

/-! a calculus of readings: what is computed from a heap H, told of every heap that holds H (and more) -/
namespace Md
open PySem PySem.Spec PyProof.Rows L2
open Evl (Ex)
abbrev Dt := PyData
mutual
/-- the value v is the datum d in H; lists and tuples are tracked -/
inductive Dn (H : Hp) : V → Dt → Prop
  | non : Dn H .non .none
  | bl (b : Bool) : Dn H (.bl b) (.bool b)
  | int (i : Int) : Dn H (.int i) (.int i)
  | lst {a : Addr} {xs : List V} {ds : List Dt} : H a = some (.lst xs) → DnAll H xs ds → Dn H (.ref a) (.list ds)
  | tup {a : Addr} {xs : List V} {ds : List Dt} : H a = some (.tup xs) → DnAll H xs ds → Dn H (.ref a) (.tuple ds)
inductive DnAll (H : Hp) : List V → List Dt → Prop
  | nil : DnAll H [] []
  | cons {v : V} {vs : List V} {d : Dt} {ds : List Dt} : Dn H v d → DnAll H vs ds → DnAll H (v :: vs) (d :: ds)
end
mutual
theorem Dn.mono {H H' : Hp} (e : Ex H H') : ∀ {d : Dt} {v : V}, Dn H v d → Dn H' v d
  | _, _, .non => .non
  | _, _, .bl b => .bl b
  | _, _, .int i => .int i
  | _, _, .lst h q => .lst (e _ _ h) (DnAll.mono e q)
  | _, _, .tup h q => .tup (e _ _ h) (DnAll.mono e q)
theorem DnAll.mono {H H' : Hp} (e : Ex H H') : ∀ {ds : List Dt} {vs : List V}, DnAll H vs ds → DnAll H' vs ds
  | _, _, .nil => .nil
  | _, _, .cons h q => .cons (Dn.mono e h) (DnAll.mono e q)
end
mutual
theorem Dn.dp {K : PySem.W.Frag} {H : Hp} : ∀ {d : Dt} {v : V}, Dn H v d → Dp K H v d
  | _, _, .non => .non
  | _, _, .bl b => .bl b
  | _, _, .int i => .int i
  | _, _, .lst h q => .lst (SqL.of h) (DnAll.dp q)
  | _, _, .tup h q => .tup (SqT.of h) (DnAll.dp q)
theorem DnAll.dp {K : PySem.W.Frag} {H : Hp} : ∀ {ds : List Dt} {vs : List V}, DnAll H vs ds → DpAll K H vs ds
  | _, _, .nil => .nil
  | _, _, .cons h q => .cons (Dn.dp h) (DnAll.dp q)
end
theorem DnAll.len {H : Hp} : ∀ {vs : List V} {ds : List Dt}, DnAll H vs ds → vs.length = ds.length
  | _, _, .nil => rfl
  | _, _, .cons _ q => congrArg (· + 1) q.len
theorem DnAll.get {H : Hp} : ∀ {vs : List V} {ds : List Dt} {i : Nat} {v : V}, DnAll H vs ds → vs[i]? = some v → ∃ d, ds[i]? = some d ∧ Dn H v d
  | _, _, _, _, .nil, e => by simp at e
  | _, _, 0, _, .cons h _, e => by simp at e; subst e; exact ⟨_, rfl, h⟩
  | _, _, i + 1, v, .cons _ q, e => by
    obtain ⟨d, h1, h2⟩ := DnAll.get (i := i) (v := v) q (by simpa using e)
    exact ⟨d, by simpa using h1, h2⟩
theorem DnAll.at {H : Hp} : ∀ {vs : List V} {ds : List Dt} {i : Nat} {d : Dt}, DnAll H vs ds → ds[i]? = some d → ∃ v, vs[i]? = some v ∧ Dn H v d
  | _, _, _, _, .nil, e => by simp at e
  | _, _, 0, _, .cons h _, e => by simp at e; subst e; exact ⟨_, rfl, h⟩
  | _, _, i + 1, d, .cons _ q, e => by
    obtain ⟨v, h1, h2⟩ := DnAll.at (i := i) (d := d) q (by simpa using e)
    exact ⟨v, by simpa using h1, h2⟩
theorem DnAll.app {H : Hp} : ∀ {vs ws : List V} {ds es : List Dt}, DnAll H vs ds → DnAll H ws es → DnAll H (vs ++ ws) (ds ++ es)
  | _, _, _, _, .nil, q => q
  | _, _, _, _, .cons h p, q => .cons h (DnAll.app p q)
theorem DnAll.drop {H : Hp} : ∀ {vs : List V} {ds : List Dt} (n : Nat), DnAll H vs ds → DnAll H (vs.drop n) (ds.drop n)
  | _, _, 0, q => q
  | _, _, _ + 1, .nil => .nil
  | _, _, n + 1, .cons _ q => DnAll.drop n q
theorem DnAll.take {H : Hp} : ∀ {vs : List V} {ds : List Dt} (n : Nat), DnAll H vs ds → DnAll H (vs.take n) (ds.take n)
  | _, _, 0, _ => .nil
  | _, _, _ + 1, .nil => .nil
  | _, _, n + 1, .cons h q => .cons h (DnAll.take n q)
theorem DnAll.ev {H : Hp} : ∀ {vs : List V} {ds : List Dt}, DnAll H vs ds → DnAll H (evens vs) (evens ds)
  | _, _, .nil => .nil
  | _, _, .cons h .nil => .cons h .nil
  | _, _, .cons h (.cons _ t) => .cons h t.ev
theorem dn_int {H : Hp} {v : V} {i : Int} (h : Dn H v (.int i)) : v = .int i := by cases h; rfl
theorem dn_bl {H : Hp} {v : V} {b : Bool} (h : Dn H v (.bool b)) : v = .bl b := by cases h; rfl
theorem dn_non {H : Hp} {v : V} (h : Dn H v .none) : v = .non := by cases h; rfl
theorem dn_lst {H : Hp} {v : V} {ds : List Dt} (h : Dn H v (.list ds)) : ∃ a xs, v = .ref a ∧ H a = some (.lst xs) ∧ DnAll H xs ds := by cases h with | lst h q => exact ⟨_, _, rfl, h, q⟩
theorem dn_tup {H : Hp} {v : V} {ds : List Dt} (h : Dn H v (.tuple ds)) : ∃ a xs, v = .ref a ∧ H a = some (.tup xs) ∧ DnAll H xs ds := by cases h with | tup h q => exact ⟨_, _, rfl, h, q⟩
theorem dn_ints {H : Hp} : ∀ {vs : List V} {ns : List Int}, DnAll H vs (ns.map PyData.int) → vs = ns.map V.int
  | _, [], .nil => rfl
  | _, n :: ns, .cons h q => by rw [dn_int h, dn_ints q]; rfl
theorem ints_dn {H : Hp} : ∀ (ns : List Int), DnAll H (ns.map V.int) (ns.map PyData.int)
  | [] => .nil
  | n :: ns => .cons (.int n) (ints_dn ns)
theorem dn_bls {H : Hp} : ∀ {vs : List V} {bs : List Bool}, DnAll H vs (bs.map PyData.bool) → vs = bs.map V.bl
  | _, [], .nil => rfl
  | _, b :: bs, .cons h q => by rw [dn_bl h, dn_bls q]; rfl

/-! ### heaps -/
/-- run from H1, which holds H and more: behind it G holds what H would have become, H2 the whole -/
structure Ext (H H1 G H2 : Hp) : Prop where
  hg : Ex H G
  gb : Ex G H2
  ab : Ex H1 H2
  sep : ∀ x, H x = none → H1 x ≠ none → G x = none
theorem Ext.refl {H H1 : Hp} (e : Ex H H1) : Ext H H1 H H1 := ⟨Ex.refl H, e, Ex.refl H1, fun _ h _ => h⟩
theorem Ext.trans {H H1 G H2 G' H3 : Hp} (a : Ext H H1 G H2) (b : Ext G H2 G' H3) : Ext H H1 G' H3 :=
  ⟨a.hg.trans b.hg, b.gb, a.ab.trans b.ab, fun x h1 h2 => b.sep x (a.sep x h1 h2) (fun z => by
    cases q : H1 x with
    | none => exact h2 q
    | some o => rw [a.ab x o q] at z; cases z)⟩
/-- what was new is forgotten -/
theorem Ext.back {H H1 G H2 G' H3 : Hp} (a : Ext H H1 G H2) (b : Ext H H2 G' H3) : Ext H H1 G' H3 :=
  ⟨b.hg, b.gb, a.ab.trans b.ab, fun x h1 h2 => b.sep x h1 (fun z => by
    cases q : H1 x with
    | none => exact h2 q
    | some o => rw [a.ab x o q] at z; cases z)⟩
theorem Ext.at {H H1 G H2 : Hp} (a : Ext H H1 G H2) : Ex H H2 := a.hg.trans a.gb
theorem Ext.new {H H1 : Hp} (e : Ex H H1) {p : Addr} {o : HO} (hp : H1 p = none) : Ext H H1 (upd H p o) (upd H1 p o) := by
  have hn : H p = none := Evl.fresh_back e hp
  refine ⟨Ex.new hn, fun a u h => ?_, Ex.new hp, fun x h1 h2 => ?_⟩
  · by_cases q : a = p
    · subst q; rw [upd_same] at h ⊢; exact h
    · rw [upd_ne q] at h ⊢; exact e a u h
  · have q : x ≠ p := fun z => h2 (by rw [z]; exact hp)
    rw [upd_ne q]; exact h1
/-- both -/
def uni (G H : Hp) : Hp := fun a => match H a with
  | some o => some o
  | none => G a
theorem Ext.wider {H H1 G H2 H' : Hp} (e : Ex H H') (e1 : Ex H' H1) (a : Ext H H1 G H2) : Ext H' H1 (uni G H') H2 ∧ Ex G (uni G H') := by
  have k : Ex G (uni G H') := fun x o h => by
    unfold uni
    cases q : H' x with
    | none => exact h
    | some u =>
      have h1 := a.gb x o h
      have h2 := a.ab x u (e1 x u q)
      rw [h1] at h2
      cases h2
      rfl
  refine ⟨⟨fun x o h => by unfold uni; rw [h], fun x o h => ?_, a.ab, fun x h1 h2 => ?_⟩, k⟩
  · unfold uni at h
    cases q : H' x with
    | none => rw [q] at h; exact a.gb x o h
    | some u => rw [q] at h; cases h; exact a.ab x _ (e1 x _ q)
  · unfold uni
    rw [h1]
    exact a.sep x (Evl.fresh_back e h1) h2

/-! ### what is computed -/
abbrev Cm (α : Type) := Hp → (α → Hp → Prop) → Prop
def CP {α : Type} (m : Cm α) (H : Hp) (P : α → Hp → Prop) : Prop := ∀ H1, Ex H H1 → ∀ Q : α → Hp → Prop, (∀ v G H2, Ext H H1 G H2 → P v G → Q v H2) → m H1 Q
def Mono {α : Type} (P : α → Hp → Prop) : Prop := ∀ v G G', Ex G G' → P v G → P v G'
theorem mono_dn {d : Dt} : Mono fun v G => Dn G v d := fun _ _ _ e h => h.mono e
theorem mono_all {ds : List Dt} : Mono fun v G => DnAll G v ds := fun _ _ _ e h => h.mono e
theorem mono_eq {α : Type} {c : α} : Mono (α := α) fun v _ => v = c := fun _ _ _ _ h => h
section
variable {α β γ : Type} {H H' : Hp} {P P' : α → Hp → Prop} {R : β → Hp → Prop} {S : γ → Hp → Prop} {m : Cm α} {n : Cm β}
theorem CP.bind {k : α → Cm β} (h : CP m H P) (hk : ∀ v G, Ex H G → P v G → CP (k v) G R) : CP (fun H Q => m H fun v H' => k v H' Q) H R := fun H1 e Q q =>
  h H1 e _ fun v G H2 x p => hk v G x.hg p H2 x.gb Q fun w G' H3 y r => q w G' H3 (x.trans y) r
theorem CP.imp (h : CP m H P) (f : ∀ v G, Ex H G → P v G → P' v G) : CP m H P' := fun H1 e Q q => h H1 e Q fun v G H2 x p => q v G H2 x (f v G x.hg p)
theorem CP.mono (hP : Mono P) (e : Ex H H') (h : CP m H P) : CP m H' P := fun H1 e1 Q q => h H1 (e.trans e1) Q fun v G H2 x p => by
  obtain ⟨y, k⟩ := x.wider e e1
  exact q v _ H2 y (hP v _ _ k p)
theorem CP.ret {v : α} (h : P v H) : CP (fun H Q => Q v H) H P := fun H1 e Q q => q v H H1 (Ext.refl e) h
/-- two, both from H -/
theorem CP.bind2 {k : α → β → Cm γ} (hP : Mono P) (hR : Mono R) (h : CP m H P) (h2 : CP n H R) (hk : ∀ x y G, Ex H G → P x G → R y G → CP (k x y) G S) : CP (fun H Q => m H fun x H1 => n H1 fun y H2 => k x y H2 Q) H S :=
  CP.bind (k := fun x H Q => n H fun y H2 => k x y H2 Q) h fun x G e p => CP.bind (k := fun y => k x y) (h2.mono hR e) fun y G' e' r => hk x y G' (e.trans e') (hP x G G' e' p) r
theorem CP.new {o : HO} {P : V → Hp → Prop} (h : ∀ p G, Ex H G → G p = some o → P (.ref p) G) : CP (fun H Q => ∀ p, H p = none → Q (.ref p) (upd H p o)) H P := fun H1 e Q q p hp => by
  have x := Ext.new e (o := o) hp
  exact q _ _ _ x (h p _ x.hg upd_same)
end
abbrev ED (te : TE) (σ : L2.St) (H : Hp) (d : Dt) : Prop := CP (te σ) H fun v G => Dn G v d
abbrev ET (tt : TT) (σ : L2.St) (H : Hp) (b : Bool) : Prop := CP (tt σ) H fun c _ => c = b
abbrev EA (ta : TA) (σ : L2.St) (H : Hp) (ds : List Dt) : Prop := CP (ta σ) H fun vs G => DnAll G vs ds
abbrev EO (to : TO) (σ : L2.St) (H : Hp) (o : Option Int) : Prop := CP (to σ) H fun c _ => c = o
section
variable {K : PySem.W.Frag} {σ : L2.St} {H : Hp} {ta tb te : TE} {t u : TT} {d d1 d2 : Dt} {v : V} {i j : Int} {ds es : List Dt}
theorem ed_var {k : Nat} (h : σ[k]? = some (some v)) (hd : Dn H v d) : ED (tVar k) σ H d := fun H1 e Q q => ⟨v, h, q v H H1 (Ext.refl e) hd⟩
theorem cp_var {k : Nat} {P : V → Hp → Prop} (h : σ[k]? = some (some v)) (hd : P v H) : CP (tVar k σ) H P := fun H1 e Q q => ⟨v, h, q v H H1 (Ext.refl e) hd⟩
theorem ed_c (hd : Dn H v d) : ED (tC v) σ H d := CP.ret hd
theorem ed_int : ED (tC (.int i)) σ H (.int i) := CP.ret (.int i)
theorem ed_bl {b : Bool} : ED (tC (.bl b)) σ H (.bool b) := CP.ret (.bl b)
theorem ed_non : ED (tC .non) σ H .none := CP.ret .non
theorem ed_op {r : R2} (ha : ED ta σ H d1) (hb : ED tb σ H d2) (hr : ∀ x y G, Ex H G → Dn G x d1 → Dn G y d2 → CP (r x y) G fun v G => Dn G v d) : ED (tOp r ta tb) σ H d := CP.bind2 (k := fun x y => r x y) mono_dn mono_dn ha hb hr
theorem ed_I0 {g : Int → Int → V} (ha : ED ta σ H (.int i)) (hb : ED tb σ H (.int j)) (hd : ∀ G, Dn G (g i j) d) : ED (tOp (rI0 g) ta tb) σ H d := ed_op ha hb fun x y G _ hx hy => by
  rw [dn_int hx, dn_int hy]
  exact fun H1 e Q q => ⟨i, j, rfl, rfl, q _ _ _ (Ext.refl e) (hd G)⟩
theorem ed_I {C : Int → Int → Prop} {g : Int → Int → V} (ha : ED ta σ H (.int i)) (hb : ED tb σ H (.int j)) (hc : C i j) (hd : ∀ G, Dn G (g i j) d) : ED (tOp (rI C g) ta tb) σ H d := ed_op ha hb fun x y G _ hx hy => by
  rw [dn_int hx, dn_int hy]
  exact fun H1 e Q q => ⟨i, j, rfl, rfl, hc, q _ _ _ (Ext.refl e) (hd G)⟩
theorem ed_add (ha : ED ta σ H (.int i)) (hb : ED tb σ H (.int j)) : ED (tOp (rI0 fun i j => .int (i + j)) ta tb) σ H (.int (i + j)) := ed_I0 ha hb fun _ => .int _
theorem ed_sub (ha : ED ta σ H (.int i)) (hb : ED tb σ H (.int j)) : ED (tOp (rI0 fun i j => .int (i - j)) ta tb) σ H (.int (i - j)) := ed_I0 ha hb fun _ => .int _
theorem ed_mul (ha : ED ta σ H (.int i)) (hb : ED tb σ H (.int j)) (h : CMul i j) : ED (tOp (rI CMul fun i j => .int (i * j)) ta tb) σ H (.int (i * j)) := ed_I ha hb h fun _ => .int _
theorem ed_lt (ha : ED ta σ H (.int i)) (hb : ED tb σ H (.int j)) : ED (tOp (rI0 fun i j => .bl (decide (i < j))) ta tb) σ H (.bool (decide (i < j))) := ed_I0 ha hb fun _ => .bl _
theorem ed_le (ha : ED ta σ H (.int i)) (hb : ED tb σ H (.int j)) : ED (tOp (rI0 fun i j => .bl (decide (i ≤ j))) ta tb) σ H (.bool (decide (i ≤ j))) := ed_I0 ha hb fun _ => .bl _
theorem ed_gt (ha : ED ta σ H (.int i)) (hb : ED tb σ H (.int j)) : ED (tOp (rI0 fun i j => .bl (decide (j < i))) ta tb) σ H (.bool (decide (j < i))) := ed_I0 ha hb fun _ => .bl _
theorem ed_ge (ha : ED ta σ H (.int i)) (hb : ED tb σ H (.int j)) : ED (tOp (rI0 fun i j => .bl (decide (j ≤ i))) ta tb) σ H (.bool (decide (j ≤ i))) := ed_I0 ha hb fun _ => .bl _
theorem ed_eq (ha : ED ta σ H (.int i)) (hb : ED tb σ H (.int j)) : ED (tOp rEq ta tb) σ H (.bool (decide (i = j))) := ed_op ha hb fun x y G _ hx hy => by
  rw [dn_int hx, dn_int hy]
  refine fun H1 e Q q => ⟨rfl, q _ _ _ (Ext.refl e) ?_⟩
  have : (V.int i = V.int j) ↔ i = j := ⟨fun z => V.int.inj z, fun z => by rw [z]⟩
  simp only [this]
  exact .bl _
theorem ed_ne (ha : ED ta σ H (.int i)) (hb : ED tb σ H (.int j)) : ED (tOp rNe ta tb) σ H (.bool (!decide (i = j))) := ed_op ha hb fun x y G _ hx hy => by
  rw [dn_int hx, dn_int hy]
  refine fun H1 e Q q => ⟨rfl, q _ _ _ (Ext.refl e) ?_⟩
  have : (V.int i = V.int j) ↔ i = j := ⟨fun z => V.int.inj z, fun z => by rw [z]⟩
  simp only [this]
  exact .bl _
theorem ed_neg (ha : ED ta σ H (.int i)) : ED (tUn (rU fun i => .int (-i)) ta) σ H (.int (-i)) := CP.bind (k := fun x => (rU fun i => .int (-i)) x) ha fun x G _ hx => by
  rw [dn_int hx]
  exact fun H1 e Q q => ⟨i, rfl, q _ _ _ (Ext.refl e) (.int _)⟩
/-- is None, is not None -/
def isNone : Dt → Bool
  | .none => true
  | _ => false
theorem dn_isN {H : Hp} {v : V} {d : Dt} (h : Dn H v d) : decide (v = .non) = isNone d := by
  cases h <;> simp [isNone]
theorem ed_isN (ha : ED ta σ H d) : ED (tOp (fun x y H Q => y = .non ∧ Q (.bl (decide (x = .non))) H) ta (tC .non)) σ H (.bool (isNone d)) := ed_op ha ed_non fun x y G _ hx hy => by
  rw [dn_non hy, dn_isN hx]
  exact fun H1 e Q q => ⟨rfl, q _ _ _ (Ext.refl e) (.bl _)⟩
theorem ed_notN (ha : ED ta σ H d) : ED (tOp (fun x y H Q => y = .non ∧ Q (.bl (!decide (x = .non))) H) ta (tC .non)) σ H (.bool (!isNone d)) := ed_op ha ed_non fun x y G _ hx hy => by
  rw [dn_non hy, dn_isN hx]
  exact fun H1 e Q q => ⟨rfl, q _ _ _ (Ext.refl e) (.bl _)⟩
theorem atI_dn {G : Hp} {xs : List V} (q : DnAll G xs ds) (h : atI ds i = some d) : ∃ v, atI xs i = some v ∧ Dn G v d := by
  unfold atI at h ⊢
  rw [q.len]
  cases e : ixN ds.length i with
  | none => rw [e] at h; cases h
  | some k =>
    rw [e] at h
    exact q.at h
theorem ed_ixT (ha : ED ta σ H (.tuple ds)) (hb : ED tb σ H (.int i)) (h : atI ds i = some d) : ED (tOp (rIxT K) ta tb) σ H d := ed_op ha hb fun x y G _ hx hy => by
  obtain ⟨a, xs, rfl, h1, h2⟩ := dn_tup hx
  obtain ⟨v, h3, h4⟩ := atI_dn h2 h
  rw [dn_int hy]
  exact fun H1 e Q q => ⟨a, xs, i, v, rfl, rfl, SqT.of (e _ _ h1), h3, q _ _ _ (Ext.refl e) h4⟩
theorem ed_ixL (ha : ED ta σ H (.list ds)) (hb : ED tb σ H (.int i)) (h : atI ds i = some d) : ED (tOp (rIxL K) ta tb) σ H d := ed_op ha hb fun x y G _ hx hy => by
  obtain ⟨a, xs, rfl, h1, h2⟩ := dn_lst hx
  obtain ⟨v, h3, h4⟩ := atI_dn h2 h
  rw [dn_int hy]
  exact fun H1 e Q q => ⟨a, xs, i, v, rfl, rfl, SqL.of (e _ _ h1), h3, q _ _ _ (Ext.refl e) h4⟩
/-- a tuple of the written part -/
theorem ed_ixW {a : Addr} {ns : List Int} {n : Int} (hs : ∀ H, SqT K H a (ns.map V.int)) (ha : CP (ta σ) H fun v _ => v = .ref a) (hb : ED tb σ H (.int i)) (h : atI ns i = some n) : ED (tOp (rIxT K) ta tb) σ H (.int n) :=
  CP.bind2 (k := fun x y => rIxT K x y) (R := fun v G => Dn G v (.int i)) mono_eq mono_dn ha hb fun x y G _ hx hy => by
    subst hx
    rw [dn_int hy]
    refine fun H1 e Q q => ⟨a, _, i, .int n, rfl, rfl, hs H1, ?_, q _ _ _ (Ext.refl e) (.int n)⟩
    unfold atI at h ⊢
    rw [List.length_map]
    cases e : ixN ns.length i with
    | none => rw [e] at h; cases h
    | some k =>
      rw [e] at h
      show (ns.map V.int)[k]? = _
      rw [List.getElem?_map]
      rw [show ns[k]? = some n from h]
      rfl
def cutD (xs : List Dt) (lo hi : Option Int) : List Dt := (xs.drop (HT.sIx xs.length 0 lo)).take (HT.sIx xs.length xs.length hi - HT.sIx xs.length 0 lo)
theorem cut_dn {G : Hp} {xs : List V} (q : DnAll G xs ds) (lo hi : Option Int) : DnAll G (cutV xs lo hi) (cutD ds lo hi) := by
  unfold cutV cutD
  rw [q.len]
  exact (q.drop _).take _
theorem eo_none : EO tNoPart σ H none := CP.ret rfl
theorem eo_some (h : ED te σ H (.int i)) : EO (tPart te) σ H (some i) := CP.bind (k := fun (x : V) (H1 : Hp) (Q : Option Int → Hp → Prop) => ∃ i, x = .int i ∧ Q (some i) H1) h fun x G _ hx => by
  rw [dn_int hx]
  exact fun H1 e Q q => ⟨i, rfl, q _ _ _ (Ext.refl e) rfl⟩
theorem ed_slL {tl th : TO} {lo hi : Option Int} (h : ED te σ H (.list ds)) (h1 : EO tl σ H lo) (h2 : EO th σ H hi) : ED (tSl (rSlL K) te tl th) σ H (.list (cutD ds lo hi)) :=
  CP.bind (k := fun (x : V) (H1 : Hp) (Q : VK) => tl σ H1 fun l H2 => th σ H2 fun u H3 => rSlL K x l u H3 Q) h fun x G e hx =>
  CP.bind (k := fun (l : Option Int) (H2 : Hp) (Q : VK) => th σ H2 fun u H3 => rSlL K x l u H3 Q) (h1.mono mono_eq e) fun l G1 e1 hl =>
  CP.bind (k := fun u => rSlL K x l u) (h2.mono mono_eq (e.trans e1)) fun u G2 e2 hu => by
    subst hl hu
    obtain ⟨a, xs, rfl, q1, q2⟩ := dn_lst (hx.mono (e1.trans e2))
    refine fun H1 e Q q => ⟨a, xs, rfl, SqL.of (e _ _ q1), ?_⟩
    exact CP.new (H := G2) (P := fun v G => Dn G v (.list (cutD ds l u))) (fun p G ee hp => .lst hp ((cut_dn q2 l u).mono ee)) H1 e Q q
theorem ed_slT {tl th : TO} {lo hi : Option Int} (h : ED te σ H (.tuple ds)) (h1 : EO tl σ H lo) (h2 : EO th σ H hi) (hc : ¬ (HT.sIx ds.length 0 lo = 0 ∧ HT.sIx ds.length ds.length hi = ds.length)) : ED (tSl (rSlT K) te tl th) σ H (.tuple (cutD ds lo hi)) :=
  CP.bind (k := fun (x : V) (H1 : Hp) (Q : VK) => tl σ H1 fun l H2 => th σ H2 fun u H3 => rSlT K x l u H3 Q) h fun x G e hx =>
  CP.bind (k := fun (l : Option Int) (H2 : Hp) (Q : VK) => th σ H2 fun u H3 => rSlT K x l u H3 Q) (h1.mono mono_eq e) fun l G1 e1 hl =>
  CP.bind (k := fun u => rSlT K x l u) (h2.mono mono_eq (e.trans e1)) fun u G2 e2 hu => by
    subst hl hu
    obtain ⟨a, xs, rfl, q1, q2⟩ := dn_tup (hx.mono (e1.trans e2))
    refine fun H1 e Q q => ⟨a, xs, rfl, SqT.of (e _ _ q1), by rw [q2.len]; exact hc, ?_⟩
    exact CP.new (H := G2) (P := fun v G => Dn G v (.tuple (cutD ds l u))) (fun p G ee hp => .tup hp ((cut_dn q2 l u).mono ee)) H1 e Q q
theorem ed_step {lo : Nat} (h : ED te σ H (.list ds)) (hl : lo ≤ ds.length) : ED (tStep K lo te) σ H (.list (evens (ds.drop lo))) :=
  CP.bind (k := fun (x : V) (H1 : Hp) (Q : VK) => ∃ a xs, x = .ref a ∧ SqL K H1 a xs ∧ lo ≤ xs.length ∧ ∀ p, H1 p = none → Q (.ref p) (upd H1 p (.lst (evens (xs.drop lo))))) h fun x G _ hx => by
    obtain ⟨a, xs, rfl, q1, q2⟩ := dn_lst hx
    refine fun H1 e Q q => ⟨a, xs, rfl, SqL.of (e _ _ q1), by rw [q2.len]; exact hl, ?_⟩
    exact CP.new (H := G) (P := fun v G => Dn G v (.list (evens (ds.drop lo)))) (fun p G ee hp => .lst hp ((q2.drop lo).ev.mono ee)) H1 e Q q
theorem ea_nil : EA tNil σ H [] := CP.ret .nil
theorem ea_cons {tr : TA} (h : ED ta σ H d) (hr : EA tr σ H ds) : EA (tCons ta tr) σ H (d :: ds) := CP.bind2 (k := fun (x : V) (xs : List V) (H : Hp) (Q : List V → Hp → Prop) => Q (x :: xs) H) mono_dn mono_all h hr fun x xs G _ hx hxs => CP.ret (.cons hx hxs)
/-- arguments of any kind -/
theorem ca_cons {tr : TA} {P : V → Hp → Prop} {R : List V → Hp → Prop} (mP : Mono P) (mR : Mono R) (h : CP (ta σ) H P) (hr : CP (tr σ) H R) : CP (tCons ta tr σ) H fun vs G => ∃ x xs, vs = x :: xs ∧ P x G ∧ R xs G := CP.bind2 (k := fun (x : V) (xs : List V) (H : Hp) (Q : List V → Hp → Prop) => Q (x :: xs) H) mP mR h hr fun x xs G _ hx hxs => CP.ret ⟨x, xs, rfl, hx, hxs⟩
theorem sz_of {n : Nat} (h : n ≤ 100000) : n ≤ sizeLine := Nat.le_trans h (by decide)
theorem sz_lt {n : Nat} (h : n < 100000) : n < sizeLine := Nat.lt_of_lt_of_le h (by decide)
theorem ed_tup {ta : TA} (h : EA ta σ H ds) (hl : ds.length ≤ 100000) : ED (tTup ta) σ H (.tuple ds) := CP.bind (k := fun (xs : List V) (H1 : Hp) (Q : VK) => xs.length ≤ sizeLine ∧ ∀ p, H1 p = none → Q (.ref p) (upd H1 p (.tup xs))) h fun xs G _ hx => fun H1 e Q q =>
  ⟨by rw [hx.len]; exact sz_of hl, CP.new (H := G) (P := fun v G => Dn G v (.tuple ds)) (fun p G ee hp => .tup hp (hx.mono ee)) H1 e Q q⟩
theorem ed_lst {ta : TA} (h : EA ta σ H ds) (hl : ds.length ≤ 100000) : ED (tLst ta) σ H (.list ds) := CP.bind (k := fun (xs : List V) (H1 : Hp) (Q : VK) => xs.length ≤ sizeLine ∧ ∀ p, H1 p = none → Q (.ref p) (upd H1 p (.lst xs))) h fun xs G _ hx => fun H1 e Q q =>
  ⟨by rw [hx.len]; exact sz_of hl, CP.new (H := G) (P := fun v G => Dn G v (.list ds)) (fun p G ee hp => .lst hp (hx.mono ee)) H1 e Q q⟩
theorem ed_cat (ha : ED ta σ H (.list ds)) (hb : ED tb σ H (.list es)) (hl : ds.length + es.length ≤ 100000) : ED (tOp rCat ta tb) σ H (.list (ds ++ es)) := ed_op ha hb fun x y G _ hx hy => by
  obtain ⟨a, xs, rfl, h1, h2⟩ := dn_lst hx
  obtain ⟨b, ys, rfl, h3, h4⟩ := dn_lst hy
  refine fun H1 e Q q => ⟨a, b, xs, ys, rfl, rfl, e _ _ h1, e _ _ h3, by rw [h2.len, h4.len]; exact sz_of hl, ?_⟩
  exact CP.new (H := G) (P := fun v G => Dn G v (.list (ds ++ es))) (fun p G ee hp => .lst hp ((h2.app h4).mono ee)) H1 e Q q
theorem ed_and {a b : Bool} (h1 : ED ta σ H (.bool a)) (h2 : a = true → ED tb σ H (.bool b)) : ED (tAndV ta tb) σ H (.bool (a && b)) := CP.bind (k := fun (x : V) (H1 : Hp) (Q : VK) => ∃ c, x = .bl c ∧ if c = true then tb σ H1 Q else Q (.bl false) H1) h1 fun x G e hx => by
  rw [dn_bl hx]
  intro H1 e1 Q q
  refine ⟨a, rfl, ?_⟩
  cases a with
  | true => exact (h2 rfl).mono mono_dn e H1 e1 Q q
  | false => exact q _ _ _ (Ext.refl e1) (.bl _)
theorem ed_or {a b : Bool} (h1 : ED ta σ H (.bool a)) (h2 : a = false → ED tb σ H (.bool b)) : ED (tOrV ta tb) σ H (.bool (a || b)) := CP.bind (k := fun (x : V) (H1 : Hp) (Q : VK) => ∃ c, x = .bl c ∧ if c = true then Q (.bl true) H1 else tb σ H1 Q) h1 fun x G e hx => by
  rw [dn_bl hx]
  intro H1 e1 Q q
  refine ⟨a, rfl, ?_⟩
  cases a with
  | false => exact (h2 rfl).mono mono_dn e H1 e1 Q q
  | true => exact q _ _ _ (Ext.refl e1) (.bl _)
theorem ed_not {a : Bool} (h1 : ED ta σ H (.bool a)) : ED (tNotV ta) σ H (.bool (!a)) := CP.bind (k := fun (x : V) (H1 : Hp) (Q : VK) => ∃ c, x = .bl c ∧ Q (.bl (!c)) H1) h1 fun x G e hx => by
  rw [dn_bl hx]
  exact fun H1 e1 Q q => ⟨a, rfl, q _ _ _ (Ext.refl e1) (.bl _)⟩
theorem ed_is (h : ED te σ H d1) (e : d1 = d2) : ED te σ H d2 := e ▸ h
theorem et_is {a b : Bool} (h : ET t σ H a) (e : a = b) : ET t σ H b := e ▸ h
theorem et_test {b : Bool} (h : ED te σ H (.bool b)) : ET (tTest te) σ H b := CP.bind (k := fun (x : V) (H' : Hp) (Q : Bool → Hp → Prop) => ∃ k, x = .bl k ∧ Q k H') h fun x G e hx => by
  rw [dn_bl hx]
  exact fun H1 e1 Q q => ⟨b, rfl, q _ _ _ (Ext.refl e1) rfl⟩
theorem et_B {b : Bool} (h : ED te σ H (.bool b)) : ET (tB te) σ H b := CP.bind (k := fun (x : V) (H' : Hp) (Q : Bool → Hp → Prop) => ∃ k, x = .bl k ∧ Q k H') h fun x G e hx => by
  rw [dn_bl hx]
  exact fun H1 e1 Q q => ⟨b, rfl, q _ _ _ (Ext.refl e1) rfl⟩
theorem et_and {a b : Bool} (h1 : ET t σ H a) (h2 : a = true → ET u σ H b) : ET (tAnd t u) σ H (a && b) := CP.bind (k := fun (c : Bool) (H1 : Hp) (Q : Bool → Hp → Prop) => if c = true then u σ H1 Q else Q false H1) h1 fun x G e hx => by
  subst hx
  intro H1 e1 Q q
  cases x with
  | true => exact (h2 rfl).mono mono_eq e H1 e1 Q q
  | false => exact q _ _ _ (Ext.refl e1) rfl
theorem et_or {a b : Bool} (h1 : ET t σ H a) (h2 : a = false → ET u σ H b) : ET (tOr t u) σ H (a || b) := CP.bind (k := fun (c : Bool) (H1 : Hp) (Q : Bool → Hp → Prop) => if c = true then Q true H1 else u σ H1 Q) h1 fun x G e hx => by
  subst hx
  intro H1 e1 Q q
  cases x with
  | false => exact (h2 rfl).mono mono_eq e H1 e1 Q q
  | true => exact q _ _ _ (Ext.refl e1) rfl
theorem et_not {a : Bool} (h1 : ET t σ H a) : ET (tNot t) σ H (!a) := CP.bind (k := fun (c : Bool) (H1 : Hp) (Q : Bool → Hp → Prop) => Q (!c) H1) h1 fun x G e hx => by
  subst hx
  exact CP.ret rfl
theorem cp_if {b : Bool} {P : V → Hp → Prop} (mP : Mono P) (h : ET t σ H b) (h1 : b = true → CP (ta σ) H P) (h2 : b = false → CP (tb σ) H P) : CP (tIf t ta tb σ) H P := CP.bind (k := fun (c : Bool) (H1 : Hp) (Q : VK) => if c = true then ta σ H1 Q else tb σ H1 Q) h fun x G e hx => by
  subst hx
  intro H1 e1 Q q
  cases x with
  | true => exact (h1 rfl).mono mP e H1 e1 Q q
  | false => exact (h2 rfl).mono mP e H1 e1 Q q
theorem ed_if {b : Bool} (h : ET t σ H b) (h1 : b = true → ED ta σ H d) (h2 : b = false → ED tb σ H d) : ED (tIf t ta tb) σ H d := cp_if mono_dn h h1 h2
/-! built-ins -/
theorem ed_len (h : ED ta σ H (.list ds)) : ED (tCB (fun xs H Q => ∃ p ys, xs = [.ref p] ∧ (SqL K H p ys ∨ SqT K H p ys) ∧ Q (.int ys.length) H) (tCons ta tNil)) σ H (.int (ds.length : Int)) := CP.bind (k := fun (vs : List V) (H1 : Hp) (Q : VK) => ∃ p ys, vs = [.ref p] ∧ (SqL K H1 p ys ∨ SqT K H1 p ys) ∧ Q (.int ys.length) H1) (ea_cons h ea_nil) fun vs G _ hv => by
  cases hv with
  | cons hx hn =>
    cases hn
    obtain ⟨a, xs, rfl, h1, h2⟩ := dn_lst hx
    refine fun H1 e Q q => ⟨a, xs, rfl, .inl (SqL.of (e _ _ h1)), q _ _ _ (Ext.refl e) ?_⟩
    rw [h2.len]
    exact .int _
theorem ed_any {bs : List Bool} (h : ED ta σ H (.list (bs.map .bool))) : ED (tCB (rAny K) (tCons ta tNil)) σ H (.bool (bs.any id)) := CP.bind (k := fun vs => rAny K vs) (ea_cons h ea_nil) fun vs G _ hv => by
  cases hv with
  | cons hx hn =>
    cases hn
    obtain ⟨a, xs, rfl, h1, h2⟩ := dn_lst hx
    rw [dn_bls h2] at h1
    exact fun H1 e Q q => ⟨a, bs, rfl, SqL.of (e _ _ h1), q _ _ _ (Ext.refl e) (.bl _)⟩
theorem ed_all {bs : List Bool} (h : ED ta σ H (.list (bs.map .bool))) : ED (tCB (rAll K) (tCons ta tNil)) σ H (.bool (bs.all id)) := CP.bind (k := fun vs => rAll K vs) (ea_cons h ea_nil) fun vs G _ hv => by
  cases hv with
  | cons hx hn =>
    cases hn
    obtain ⟨a, xs, rfl, h1, h2⟩ := dn_lst hx
    rw [dn_bls h2] at h1
    exact fun H1 e Q q => ⟨a, bs, rfl, SqL.of (e _ _ h1), q _ _ _ (Ext.refl e) (.bl _)⟩
theorem ed_sum {ns : List Int} (h : ED ta σ H (.list (ns.map .int))) : ED (tCB (rSum K) (tCons ta tNil)) σ H (.int ns.sum) := CP.bind (k := fun vs => rSum K vs) (ea_cons h ea_nil) fun vs G _ hv => by
  cases hv with
  | cons hx hn =>
    cases hn
    obtain ⟨a, xs, rfl, h1, h2⟩ := dn_lst hx
    rw [dn_ints h2] at h1
    exact fun H1 e Q q => ⟨a, ns, rfl, SqL.of (e _ _ h1), q _ _ _ (Ext.refl e) (.int _)⟩
theorem ed_min (h : ED ta σ H (.list (d :: ds))) (ha : PySem.W.AlikeAll (d :: ds)) (hd : PyData.depthAll (d :: ds) ≤ 60) : ED (tCB (rMinD K) (tCons ta tNil)) σ H (PySem.W.minD d ds) := CP.bind (k := fun vs => rMinD K vs) (ea_cons h ea_nil) fun vs G _ hv => by
  cases hv with
  | cons hx hn =>
    cases hn
    obtain ⟨a, xs, rfl, h1, h2⟩ := dn_lst hx
    refine fun H1 e Q q => ⟨a, xs, d, ds, rfl, SqL.of (e _ _ h1), (h2.mono e).dp, ha, hd, fun i v hv hm => ?_⟩
    obtain ⟨d', h3, h4⟩ := h2.get hv
    rw [h3] at hm
    cases hm
    exact q _ _ _ (Ext.refl e) h4
theorem ed_int1 {b : Bool} (h : ED ta σ H (.bool b)) : ED (tCB (fun xs H Q => (∃ i, xs = [.int i] ∧ Q (.int i) H) ∨ ∃ k, xs = [.bl k] ∧ Q (.int (if k then 1 else 0)) H) (tCons ta tNil)) σ H (.int (if b then 1 else 0)) :=
  CP.bind (k := fun (vs : List V) (H : Hp) (Q : VK) => (∃ i, vs = [.int i] ∧ Q (.int i) H) ∨ ∃ k, vs = [.bl k] ∧ Q (.int (if k then 1 else 0)) H) (ea_cons h ea_nil) fun vs G _ hv => by
  cases hv with
  | cons hx hn =>
    cases hn
    rw [dn_bl hx]
    exact fun H1 e Q q => .inr ⟨b, rfl, q _ _ _ (Ext.refl e) (.int _)⟩
theorem ed_eqD (ha : ED ta σ H d1) (hb : ED tb σ H d2) (s1 : SeqAt.shaped d1 = true) (s2 : SeqAt.shaped d2 = true) : ED (tOp (rEqD K) ta tb) σ H (.bool (PyData.eqv d1 d2)) := ed_op ha hb fun x y G _ hx hy => fun H1 e Q q =>
  ⟨d1, d2, (hx.mono e).dp, (hy.mono e).dp, s1, s2, q _ _ _ (Ext.refl e) (.bl _)⟩
theorem ed_neD (ha : ED ta σ H d1) (hb : ED tb σ H d2) (s1 : SeqAt.shaped d1 = true) (s2 : SeqAt.shaped d2 = true) : ED (tOp (rNeD K) ta tb) σ H (.bool (!PyData.eqv d1 d2)) := ed_op ha hb fun x y G _ hx hy => fun H1 e Q q =>
  ⟨d1, d2, (hx.mono e).dp, (hy.mono e).dp, s1, s2, q _ _ _ (Ext.refl e) (.bl _)⟩
/-- n in a list, a tuple of numbers -/
theorem inV_ints (n : Int) : ∀ ns : List Int, inV (.int n) (ns.map V.int) = decide (n ∈ ns)
  | [] => by simp [inV]
  | m :: ns => by
    have ih := inV_ints n ns
    unfold inV at ih ⊢
    rw [List.map_cons, List.any_cons, ih]
    have e : eqV (V.int m) (V.int n) = decide (n = m) := by
      unfold eqV
      by_cases q : n = m
      · subst q; simp
      · have : m ≠ n := fun z => q z.symm
        simp [q, this]
    rw [e]
    simp
theorem flat_ints : ∀ ns : List Int, (ns.map V.int).all flatV = true
  | [] => rfl
  | _ :: ns => flat_ints ns
theorem ed_inL {n : Int} {ns : List Int} (ha : ED ta σ H (.int n)) (hb : ED tb σ H (.list (ns.map .int))) : ED (tOp (rIn K false) ta tb) σ H (.bool (decide (n ∈ ns))) := ed_op ha hb fun x y G _ hx hy => by
  obtain ⟨b, ys, rfl, h3, h4⟩ := dn_lst hy
  rw [dn_int hx]
  rw [dn_ints h4] at h3
  refine fun H1 e Q q => ⟨b, _, rfl, .inl (SqL.of (e _ _ h3)), rfl, flat_ints ns, q _ _ _ (Ext.refl e) ?_⟩
  rw [if_neg Bool.false_ne_true, inV_ints]
  exact .bl _
theorem ed_inT {n : Int} {ns : List Int} (ha : ED ta σ H (.int n)) (hb : ED tb σ H (.tuple (ns.map .int))) : ED (tOp (rIn K false) ta tb) σ H (.bool (decide (n ∈ ns))) := ed_op ha hb fun x y G _ hx hy => by
  obtain ⟨b, ys, rfl, h3, h4⟩ := dn_tup hy
  rw [dn_int hx]
  rw [dn_ints h4] at h3
  refine fun H1 e Q q => ⟨b, _, rfl, .inr (SqT.of (e _ _ h3)), rfl, flat_ints ns, q _ _ _ (Ext.refl e) ?_⟩
  rw [if_neg Bool.false_ne_true, inV_ints]
  exact .bl _
/-- list(zip(a, b)) -/
theorem ed_zip {ta : TA} (h : EA ta σ H [.list ds, .list es]) : ED (tLstZip K ta) σ H (.list ((ds.zip es).map fun q => .tuple [q.1, q.2])) := CP.bind (k := fun (vs : List V) (H1 : Hp) (Q : VK) => ∃ a b xs ys, vs = [.ref a, .ref b] ∧ SqL K H1 a xs ∧ SqL K H1 b ys ∧
  ∀ (H' : Hp) (p : Addr) (ts : List Addr), Evl.Ex H1 H' → (∀ c, H1 c ≠ none → c ∉ ts ∧ c ≠ p) → (∀ c, c ∉ ts → c ≠ p → H' c = H1 c) → H' p = some (.lst (ts.map V.ref)) → ts.length = (xs.zip ys).length → (∀ (j : Nat) (t : Addr), ts[j]? = some t → ∃ q, (xs.zip ys)[j]? = some q ∧ H' t = some (.tup [q.1, q.2])) → Q (.ref p) H') h fun vs G _ hv => by
  cases hv with
  | cons hx hn =>
    cases hn with
    | cons hy hn =>
      cases hn
      obtain ⟨a, xs, rfl, h1, h2⟩ := dn_lst hx
      obtain ⟨b, ys, rfl, h3, h4⟩ := dn_lst hy
      refine fun H1 e Q q => ⟨a, b, xs, ys, rfl, SqL.of (e _ _ h1), SqL.of (e _ _ h3), fun H' p ts k1 k2 k3 k4 k5 k6 => ?_⟩
      -- what H would have become: G and the new objects
      have nG : ∀ c, c ∈ ts ∨ c = p → H1 c = none := fun c hc => by
        cases z : H1 c with
        | none => rfl
        | some o =>
          obtain ⟨n1, n2⟩ := k2 c (by rw [z]; simp)
          rcases hc with hc | hc
          · exact absurd hc n1
          · exact absurd hc n2
      let G' : Hp := fun c => if c ∈ ts ∨ c = p then H' c else G c
      have eG : Ex G G' := fun c o hc => by
        show (if c ∈ ts ∨ c = p then H' c else G c) = some o
        rw [if_neg (fun z => by have := nG c z; rw [e c o hc] at this; cases this)]
        exact hc
      have inG : ∀ c, c ∈ ts ∨ c = p → G' c = H' c := fun c hc => if_pos hc
      have eH : Ex G' H' := fun c o hc => by
        by_cases z : c ∈ ts ∨ c = p
        · rw [inG c z] at hc; exact hc
        · have : G' c = G c := if_neg z
          rw [this] at hc
          exact k1 c o (e c o hc)
      have x : Ext G H1 G' H' := ⟨eG, eH, k1, fun c hc hc1 => by
        have : ¬ (c ∈ ts ∨ c = p) := fun z => hc1 (nG c z)
        show (if c ∈ ts ∨ c = p then H' c else G c) = none
        rw [if_neg this]
        exact hc⟩
      refine q _ G' H' x (.lst ((inG p (.inr rfl)).trans k4) ?_)
      -- the tuples
      have zl : (xs.zip ys).length = (ds.zip es).length := by rw [List.length_zip, List.length_zip, h2.len, h4.len]
      have gen : ∀ (l : List Addr) (m : List (V × V)) (r : List (Dt × Dt)), l.length = m.length → m.length = r.length → (∀ (j : Nat) (t : Addr), l[j]? = some t → ∃ q d, m[j]? = some q ∧ r[j]? = some d ∧ G' t = some (.tup [q.1, q.2]) ∧ Dn G' q.1 d.1 ∧ Dn G' q.2 d.2) → DnAll G' (l.map V.ref) (r.map fun q => .tuple [q.1, q.2]) := by
        intro l
        induction l with
        | nil =>
          intro m r e1 e2 _
          have : r = [] := List.eq_nil_of_length_eq_zero (by rw [← e2, ← e1]; rfl)
          subst this
          exact .nil
        | cons t l ih =>
          intro m r e1 e2 hh
          cases m with
          | nil => cases e1
          | cons q m =>
            cases r with
            | nil => cases e2
            | cons d r =>
              refine .cons ?_ (ih m r (Nat.succ.inj e1) (Nat.succ.inj e2) fun j t' hj => ?_)
              · obtain ⟨q', d', e1', e2', g1, g2, g3⟩ := hh 0 t rfl
                cases e1'
                cases e2'
                exact .tup g1 (.cons g2 (.cons g3 .nil))
              · obtain ⟨q', d', e1', e2', g⟩ := hh (j + 1) t' (by simpa using hj)
                exact ⟨q', d', by simpa using e1', by simpa using e2', g⟩
      refine gen ts (xs.zip ys) (ds.zip es) k5 zl fun j t hj => ?_
      obtain ⟨q', e1, e2⟩ := k6 j t hj
      obtain ⟨f1, f2⟩ := List.getElem?_zip_eq_some.mp e1
      obtain ⟨dx, g1, g2⟩ := h2.get f1
      obtain ⟨dy, g3, g4⟩ := h4.get f2
      exact ⟨q', (dx, dy), e1, List.getElem?_zip_eq_some.mpr ⟨g1, g3⟩, (inG t (.inl (List.mem_of_getElem? hj))).trans e2, g2.mono eG, g4.mono eG⟩
end
end Md

/-! statements, loops, comprehensions, calls -/
namespace Md
open PySem PySem.Spec PyProof.Rows L2
open Evl (Ex)
theorem Ext.from {H H1 H1' G H2 : Hp} (e : Ex H1 H1') (a : Ext H H1' G H2) : Ext H H1 G H2 :=
  ⟨a.hg, a.gb, e.trans a.ab, fun x h1 h2 => a.sep x h1 (fun z => h2 (Evl.fresh_back e z))⟩
/-! ### what is walked -/
def Wk {β : Type} (J : It) (G : Hp) (items : List β) (D : β → V → Hp → Prop) : Prop := ∃ (Gp : Hp → Prop) (Y : Nat → Hp → V → Hp → Prop), Walk J items.length Gp Y ∧ (∀ H', Ex G H' → Gp H') ∧
  ∀ i x H' H'', i < items.length → Ex G H' → Y i H' x H'' → ∃ b G', items[i]? = some b ∧ Ext G H' G' H'' ∧ D b x G'
abbrev Src {β : Type} (wi : TI) (σ : L2.St) (H : Hp) (items : List β) (D : β → V → Hp → Prop) : Prop := CP (wi σ) H fun J G => Wk J G items D
/-- the values xs are the things bs -/
inductive All2 {β : Type} (D : β → V → Prop) : List V → List β → Prop
  | nil : All2 D [] []
  | cons {x : V} {b : β} {xs : List V} {bs : List β} : D b x → All2 D xs bs → All2 D (x :: xs) (b :: bs)
theorem All2.len {β : Type} {D : β → V → Prop} : ∀ {xs : List V} {bs : List β}, All2 D xs bs → xs.length = bs.length
  | _, _, .nil => rfl
  | _, _, .cons _ q => congrArg (· + 1) q.len
theorem All2.get {β : Type} {D : β → V → Prop} : ∀ {xs : List V} {bs : List β} {i : Nat} {v : V}, All2 D xs bs → xs[i]? = some v → ∃ b, bs[i]? = some b ∧ D b v
  | _, _, _, _, .nil, e => by simp at e
  | _, _, 0, _, .cons h _, e => by simp at e; subst e; exact ⟨_, rfl, h⟩
  | _, _, i + 1, v, .cons _ q, e => by
    obtain ⟨d, h1, h2⟩ := All2.get (i := i) (v := v) q (by simpa using e)
    exact ⟨d, by simpa using h1, h2⟩
theorem All2.at {β : Type} {D : β → V → Prop} : ∀ {xs : List V} {bs : List β} {i : Nat} {b : β}, All2 D xs bs → bs[i]? = some b → ∃ v, xs[i]? = some v ∧ D b v
  | _, _, _, _, .nil, e => by simp at e
  | _, _, 0, _, .cons h _, e => by simp at e; subst e; exact ⟨_, rfl, h⟩
  | _, _, i + 1, d, .cons _ q, e => by
    obtain ⟨v, h1, h2⟩ := All2.at (i := i) (b := d) q (by simpa using e)
    exact ⟨v, by simpa using h1, h2⟩
theorem All2.imp {β : Type} {D D' : β → V → Prop} (f : ∀ b x, D b x → D' b x) : ∀ {xs : List V} {bs : List β}, All2 D xs bs → All2 D' xs bs
  | _, _, .nil => .nil
  | _, _, .cons h q => .cons (f _ _ h) (q.imp f)
theorem All2.app {β : Type} {D : β → V → Prop} : ∀ {xs ys : List V} {bs cs : List β}, All2 D xs bs → All2 D ys cs → All2 D (xs ++ ys) (bs ++ cs)
  | _, _, _, _, .nil, q => q
  | _, _, _, _, .cons h p, q => .cons h (p.app q)
theorem DnAll.all2 {H : Hp} : ∀ {xs : List V} {ds : List Dt}, DnAll H xs ds → All2 (fun d x => Dn H x d) xs ds
  | _, _, .nil => .nil
  | _, _, .cons h q => .cons h q.all2
/-- a list of things -/
def Ls {β : Type} (D : β → V → Hp → Prop) (bs : List β) : V → Hp → Prop := fun v G => ∃ a xs, v = .ref a ∧ G a = some (.lst xs) ∧ All2 (fun b x => D b x G) xs bs
theorem mono_ls {β : Type} {D : β → V → Hp → Prop} (mD : ∀ b, Mono (D b)) {bs : List β} : Mono (Ls D bs) := fun v G G' e ⟨a, xs, h1, h2, h3⟩ => ⟨a, xs, h1, e _ _ h2, h3.imp fun b x h => mD b x G G' e h⟩
theorem ls_dn {ds : List Dt} {v : V} {G : Hp} (h : Dn G v (.list ds)) : Ls (fun d x G => Dn G x d) ds v G := by
  obtain ⟨a, xs, h1, h2, h3⟩ := dn_lst h
  exact ⟨a, xs, h1, h2, h3.all2⟩
section
variable {K : PySem.W.Frag} {σ : L2.St} {H : Hp} {tl : TE} {ta : TA} {β γ : Type}
theorem src_ls {D : β → V → Hp → Prop} {bs : List β} (mD : ∀ b, Mono (D b)) (h : CP (tl σ) H (Ls D bs)) : Src (iList K tl) σ H bs D := CP.bind (k := fun (x : V) (H1 : Hp) (R : It → Hp → Prop) => ∃ a, x = .ref a ∧ (∃ xs, SqL K H1 a xs) ∧ R (Itl K a) H1) h fun v G _ hv => by
  obtain ⟨a, xs, rfl, h1, h2⟩ := hv
  refine fun H1 e R q => ⟨a, rfl, ⟨xs, SqL.of (e _ _ h1)⟩, q _ _ _ (Ext.refl e) ⟨fun H => SqL K H a xs, YAt xs, ?_, fun H' e' => SqL.of (e' _ _ h1), fun i x H' H'' hi e' y => ?_⟩⟩
  · rw [← h2.len]; exact walk_list
  · obtain ⟨rfl, hx⟩ := y
    obtain ⟨b, hb, hd⟩ := h2.get hx
    exact ⟨b, G, hb, Ext.refl e', hd⟩
theorem src_list {ds : List Dt} (h : ED tl σ H (.list ds)) : Src (iList K tl) σ H ds fun d x G => Dn G x d := src_ls (fun _ => mono_dn) (h.imp fun v G _ q => ls_dn q)
theorem src_range {n : Nat} (h : EA ta σ H [.int (n : Int)]) (hn : n ≤ 100000) : Src (iRng1 ta) σ H (List.range n) fun k x _ => x = .int (k : Int) := CP.bind (k := fun (vs : List V) (H1 : Hp) (R : It → Hp → Prop) => ∃ j : Int, vs = [.int j] ∧ -(2 ^ 62) ≤ j ∧ j < 2 ^ 62 ∧ R (Itr 0 j.toNat) H1) h fun vs G _ hv => by
  cases hv with
  | cons hx hn' =>
    cases hn'
    rw [dn_int hx]
    refine fun H1 e R q => ⟨n, rfl, by omega, by omega, q _ _ _ (Ext.refl e) ⟨fun _ => True, YFn fun i => .int (0 + i), ?_, fun _ _ => trivial, fun i x H' H'' hi e' y => ?_⟩⟩
    · rw [List.length_range, Int.toNat_natCast]; exact walk_range
    · obtain ⟨rfl, rfl⟩ := y
      rw [List.length_range] at hi
      exact ⟨i, G, by rw [List.getElem?_range hi], Ext.refl e', by show V.int (0 + (i : Int)) = V.int (i : Int); rw [Int.zero_add]⟩
theorem src_range2 {lo n : Nat} (h : EA ta σ H [.int (lo : Int), .int (n : Int)]) (hn : n ≤ 100000) (hl : lo ≤ 100000) : Src (iRng2 ta) σ H ((List.range (n - lo)).map (lo + ·)) fun k x _ => x = .int (k : Int) := CP.bind (k := fun (vs : List V) (H1 : Hp) (R : It → Hp → Prop) => ∃ i j : Int, vs = [.int i, .int j] ∧ (-(2 ^ 62) ≤ i ∧ i < 2 ^ 62 ∧ -(2 ^ 62) ≤ j ∧ j < 2 ^ 62) ∧ R (Itr i (j - i).toNat) H1) h fun vs G _ hv => by
  cases hv with
  | cons hx hn' =>
    cases hn' with
    | cons hy hn' =>
      cases hn'
      rw [dn_int hx, dn_int hy]
      refine fun H1 e R q => ⟨lo, n, rfl, ⟨by omega, by omega, by omega, by omega⟩, q _ _ _ (Ext.refl e) ⟨fun _ => True, YFn fun i => .int (lo + i), ?_, fun _ _ => trivial, fun i x H' H'' hi e' y => ?_⟩⟩
      · rw [List.length_map, List.length_range]
        have : ((n : Int) - (lo : Int)).toNat = n - lo := by omega
        rw [this]; exact walk_range
      · obtain ⟨rfl, rfl⟩ := y
        rw [List.length_map, List.length_range] at hi
        exact ⟨lo + i, G, by rw [List.getElem?_map, List.getElem?_range hi]; rfl, Ext.refl e', by show V.int ((lo : Int) + (i : Int)) = V.int ((lo + i : Nat) : Int); rw [Int.natCast_add]⟩
/-- a pair of things, a new tuple -/
def Pr (D : β → V → Hp → Prop) (D' : γ → V → Hp → Prop) : β × γ → V → Hp → Prop := fun b x G => ∃ T x1 x2, x = .ref T ∧ G T = some (.tup [x1, x2]) ∧ D b.1 x1 G ∧ D' b.2 x2 G
theorem src_zip {D : β → V → Hp → Prop} {D' : γ → V → Hp → Prop} {bs : List β} {cs : List γ} (mD : ∀ b, Mono (D b)) (mD' : ∀ b, Mono (D' b)) (h : CP (ta σ) H fun vs G => ∃ v w, vs = [v, w] ∧ Ls D bs v G ∧ Ls D' cs w G) : Src (iZip K ta) σ H (bs.zip cs) (Pr D D') :=
  CP.bind (k := fun (vs : List V) (H1 : Hp) (R : It → Hp → Prop) => ∃ a b xs ys, vs = [.ref a, .ref b] ∧ SqL K H1 a xs ∧ SqL K H1 b ys ∧ R (Itz K a b) H1) h fun vs G _ hv => by
  obtain ⟨v, w, rfl, ⟨a, xs, rfl, h1, h2⟩, b, ys, rfl, h3, h4⟩ := hv
  refine fun H1 e R q => ⟨a, b, xs, ys, rfl, SqL.of (e _ _ h1), SqL.of (e _ _ h3), q _ _ _ (Ext.refl e) ⟨fun H => SqL K H a xs ∧ SqL K H b ys, YPair (fun i => xs[i]?) (fun i => ys[i]?), walk_zip (by rw [List.length_zip, h2.len, h4.len]), fun H' e' => ⟨SqL.of (e' _ _ h1), SqL.of (e' _ _ h3)⟩, fun i x H' H'' hi e' y => ?_⟩⟩
  obtain ⟨T, x1, x2, rfl, hT, rfl, g1, g2⟩ := y
  obtain ⟨c1, k1, k2⟩ := h2.get g1
  obtain ⟨c2, k3, k4⟩ := h4.get g2
  have x := Ext.new e' (o := .tup [x1, x2]) hT
  exact ⟨(c1, c2), _, List.getElem?_zip_eq_some.mpr ⟨k1, k3⟩, x, T, x1, x2, rfl, upd_same, mD _ _ _ _ x.hg k2, mD' _ _ _ _ x.hg k4⟩
theorem src_enum {ds : List Dt} (h : EA ta σ H [.list ds]) : Src (iEnum K ta) σ H ((List.range ds.length).zip ds) (Pr (fun (k : Nat) x _ => x = .int (k : Int)) fun d x G => Dn G x d) := CP.bind (k := fun (vs : List V) (H1 : Hp) (R : It → Hp → Prop) => ∃ a xs, vs = [.ref a] ∧ SqL K H1 a xs ∧ R (Ite K a) H1) h fun vs G _ hv => by
  cases hv with
  | cons hx hn' =>
    cases hn'
    obtain ⟨a, xs, rfl, h1, h2⟩ := dn_lst hx
    refine fun H1 e R q => ⟨a, xs, rfl, SqL.of (e _ _ h1), q _ _ _ (Ext.refl e) ⟨fun H => SqL K H a xs, YPair (fun i => some (.int (i : Nat))) (fun i => xs[i]?), ?_, fun H' e' => SqL.of (e' _ _ h1), fun i x H' H'' hi e' y => ?_⟩⟩
    · rw [List.length_zip, List.length_range, Nat.min_self, ← h2.len]; exact walk_enum
    · obtain ⟨T, x1, x2, rfl, hT, rfl, g1, g2⟩ := y
      cases g1
      obtain ⟨c2, k3, k4⟩ := h2.get g2
      have x := Ext.new e' (o := .tup [.int (i : Nat), x2]) hT
      have hi' : i < ds.length := (List.getElem?_eq_some_iff.mp k3).1
      exact ⟨(i, c2), _, List.getElem?_zip_eq_some.mpr ⟨List.getElem?_range hi', k3⟩, x, T, _, x2, rfl, upd_same, rfl, k4.mono x.hg⟩
/-! targets -/
theorem cp_name {j : Nat} {v : V} {P : L2.St → Hp → Prop} (h : P (σ.set j (some v)) H) : CP (gName j v σ) H P := CP.ret h
theorem cp_pair {i j : Nat} {T : Addr} {x1 x2 : V} {P : L2.St → Hp → Prop} (hT : H T = some (.tup [x1, x2])) (h : P ((σ.set i (some x1)).set j (some x2)) H) : CP (gTup K 2 (gCons (gName i) (gCons (gName j) gNil)) (.ref T) σ) H P := fun H1 e Q q =>
  ⟨T, _, rfl, SqT.of (e _ _ hT), rfl, x1, [x2], rfl, x2, [], rfl, rfl, q _ _ _ (Ext.refl e) h⟩
/-! comprehensions -/
theorem Ext.upd {G H' : Hp} {p : Addr} {o : HO} (e : Ex G H') (n : G p = none) : Ex G (upd H' p o) := fun a u h => by
  rw [upd_ne (ne_of_none h n)]
  exact e a u h
theorem ed_lc {D : β → V → Hp → Prop} {items : List β} {wi : TI} {g : TG} {tt : TT} {te : TE} {vs : List Nat} (f : β → Bool) (r : β → Dt) (hsrc : Src wi σ H items D) (hl : items.length ≤ 50000)
    (hs : ∀ b x G, b ∈ items → Ex H G → D b x G → CP (g x (wipe σ vs)) G fun σ2 G' => wipe σ2 vs = wipe σ vs ∧ ET tt σ2 G' (f b) ∧ (f b = true → ED te σ2 G' (r b))) :
    ED (tLc wi g tt te vs) σ H (.list ((items.filter f).map r)) := fun H1 e Q q => hsrc H1 e _ fun J G H2 x hw Dl hD => by
  obtain ⟨Gp, Y, w, hGp, hY⟩ := hw
  have nG : G Dl = none := Evl.fresh_back x.gb hD
  refine lc_it w (fun i H' => ∃ G' acc, Ex G G' ∧ Ex G' H' ∧ Ex H2 H' ∧ G' Dl = none ∧ H' Dl = some (.lst acc) ∧ DnAll G' acc (((items.take i).filter f).map r) ∧ ∀ y, G y = none → H2 y ≠ none → G' y = none)
    ⟨G, [], Ex.refl G, Ext.upd x.gb nG, Ext.upd (Ex.refl H2) hD, nG, upd_same, .nil, fun _ h _ => h⟩ (fun i H' _ ⟨G', acc, e1, e2, _⟩ => hGp H' (e1.trans e2)) (fun i v H' H'' hi ⟨G', acc, e1, e2, e3, n1, a1, a2, s1⟩ hy => ?_) (fun H' ⟨G', acc, e1, e2, e3, n1, a1, a2, s1⟩ => ?_)
  · obtain ⟨b, G1, hb, x1, hd⟩ := hY i v H' H'' hi (e1.trans e2) hy
    have bm : b ∈ items := List.mem_of_getElem? hb
    have tk : items.take (i + 1) = items.take i ++ [b] := by rw [List.take_add_one, hb]; rfl
    refine hs b v G1 bm (x.hg.trans x1.hg) hd H'' x1.gb _ fun σ2 G2 H3 x2 ⟨hw, ht, he⟩ => ⟨hw, ht H3 x2.gb _ fun c G3 H4 x3 hc => ?_⟩
    subst hc
    cases hf : f b with
    | false =>
      rw [if_neg Bool.false_ne_true]
      have y := (x1.trans x2).trans x3
      refine ⟨G', acc, e1, e2.trans y.ab, e3.trans y.ab, n1, y.ab _ _ a1, ?_, s1⟩
      rw [tk, List.filter_append, List.filter_cons, hf]
      simpa using a2
    | true =>
      rw [if_pos rfl]
      refine (he hf).mono mono_dn x3.hg H4 x3.gb _ fun y G4 H5 x4 hyd => ?_
      have z := ((x1.trans x2).trans x3).trans x4
      obtain ⟨z1, z2⟩ := Ext.wider e1 e2 z
      have n5 : uni G4 G' Dl = none := z1.sep Dl n1 (by rw [a1]; simp)
      have la : acc.length ≤ 50000 := by
        have l1 := a2.len
        rw [List.length_map] at l1
        have l2 := List.length_filter_le f (items.take i)
        have l3 := List.length_take_le i items
        omega
      refine ⟨acc, z.ab _ _ a1, sz_lt (by omega), uni G4 G', acc ++ [y], e1.trans z1.hg, Ext.upd z1.gb n5, Ext.upd (e3.trans z.ab) hD, n5, upd_same, ?_, fun u h1 h2 => z1.sep u (s1 u h1 h2) (fun w => h2 (Evl.fresh_back e3 w))⟩
      rw [tk, List.filter_append, List.filter_cons, hf, List.map_append]
      exact (a2.mono z1.hg).app (.cons (hyd.mono z2) .nil)
  · rw [List.take_length] at a2
    have x5 : Ext G H2 (upd G' Dl (.lst acc)) H' := by
      refine ⟨fun a u h => ?_, fun a u h => ?_, e3, fun y h1 h2 => ?_⟩
      · rw [upd_ne (ne_of_none h nG)]; exact e1 a u h
      · by_cases q : a = Dl
        · subst q; rw [upd_same] at h; rw [a1]; exact h
        · rw [upd_ne q] at h; exact e2 a u h
      · rw [upd_ne (fun z => h2 (by rw [z]; exact hD))]; exact s1 y h1 h2
    exact q _ _ _ (x.trans x5) (.lst upd_same (a2.mono (Ext.upd (Ex.refl G') n1)))
end
/-! ### statements -/
def Bk (ts : TS) (σ : L2.St) (H : Hp) (P : V → Hp → Prop) (N : L2.St → Hp → Prop) : Prop := ∀ H1, Ex H H1 → ∀ D : Ends, (∀ v G H2, Ext H H1 G H2 → P v G → D.rt v H2) → (∀ σ' G H2, Ext H H1 G H2 → N σ' G → D.nx σ' H2) → ts D σ H1
section
variable {K : PySem.W.Frag} {σ : L2.St} {H : Hp} {te : TE} {t u : TS} {tt : TT} {P R : V → Hp → Prop} {N M : L2.St → Hp → Prop} {g : TG}
theorem Bk.imp {P' : V → Hp → Prop} {N' : L2.St → Hp → Prop} (h : Bk t σ H P N) (f : ∀ v G, Ex H G → P v G → P' v G) (f' : ∀ σ' G, Ex H G → N σ' G → N' σ' G) : Bk t σ H P' N' := fun H1 e D r n => h H1 e D (fun v G H2 x p => r v G H2 x (f v G x.hg p)) fun σ' G H2 x p => n σ' G H2 x (f' σ' G x.hg p)
theorem bk_seq (h : Bk t σ H P M) (k : ∀ σ' G, Ex H G → M σ' G → Bk u σ' G P N) : Bk (tSeq t u) σ H P N := fun H1 e D r n => h H1 e { D with nx := u D } r fun σ' G H2 x m => k σ' G x.hg m H2 x.gb D (fun v G' H3 y p => r v G' H3 (x.trans y) p) fun σ2 G' H3 y p => n σ2 G' H3 (x.trans y) p
theorem bk_ret (h : CP (te σ) H P) : Bk (tRet te) σ H P N := fun H1 e D r _ => h H1 e _ r
theorem bk_next (h : N σ H) : Bk tNext σ H P N := fun H1 e D _ n => n σ H H1 (Ext.refl e) h
theorem bk_asgG (h : CP (te σ) H R) (k : ∀ v G, Ex H G → R v G → CP (g v σ) G N) : Bk (tAsg te g) σ H P N := fun H1 e D _ n => h H1 e _ fun v G H2 x p => k v G x.hg p H2 x.gb _ fun σ' G' H3 y q => n σ' G' H3 (x.trans y) q
theorem bk_asg {i : Nat} (h : CP (te σ) H R) (k : ∀ v G, Ex H G → R v G → Bk u (σ.set i (some v)) G P N) : Bk (tSeq (tAsg te (gName i)) u) σ H P N :=
  bk_seq (M := fun σ' G => ∃ v, σ' = σ.set i (some v) ∧ R v G ∧ Ex H G) (bk_asgG h fun v G e p => CP.ret ⟨v, rfl, p, e⟩) fun σ' G e ⟨v, h1, h2, h3⟩ => by subst h1; exact k v G e h2
/-- a number, a truth value: nothing new -/
theorem bk_asgI {i : Nat} {n : Int} (h : ED te σ H (.int n)) (k : Bk u (σ.set i (some (.int n))) H P N) : Bk (tSeq (tAsg te (gName i)) u) σ H P N := fun H1 e D r m => h H1 e _ fun v G H2 x p => by
  rw [dn_int p]
  exact k H2 (e.trans x.ab) D (fun v G' H3 y p => r v G' H3 (x.back y) p) fun σ2 G' H3 y p => m σ2 G' H3 (x.back y) p
theorem bk_if {b : Bool} (h : ET tt σ H b) (h1 : b = true → Bk t σ H P N) (h2 : b = false → Bk u σ H P N) : Bk (tIfS tt t u) σ H P N := fun H1 e D r m => h H1 e _ fun c G H2 x p => by
  subst p
  cases c with
  | true => exact h1 rfl H2 (e.trans x.ab) D (fun v G' H3 y p => r v G' H3 (x.back y) p) fun σ2 G' H3 y p => m σ2 G' H3 (x.back y) p
  | false => exact h2 rfl H2 (e.trans x.ab) D (fun v G' H3 y p => r v G' H3 (x.back y) p) fun σ2 G' H3 y p => m σ2 G' H3 (x.back y) p
/-- if c: t (which returns or goes on); u -/
theorem bk_when {b : Bool} (h : ET tt σ H b) (h1 : b = true → Bk t σ H P fun _ _ => False) (h2 : b = false → Bk u σ H P N) : Bk (tSeq (tIfS tt t tNext) u) σ H P N := fun H1 e D r m => h H1 e _ fun c G H2 x p => by
  subst p
  cases c with
  | true => exact h1 rfl H2 (e.trans x.ab) _ (fun v G' H3 y p => r v G' H3 (x.back y) p) fun σ2 G' H3 y p => p.elim
  | false => exact h2 rfl H2 (e.trans x.ab) D (fun v G' H3 y p => r v G' H3 (x.back y) p) fun σ2 G' H3 y p => m σ2 G' H3 (x.back y) p
theorem bk_drop (h : CP (te σ) H R) (k : ∀ v G, Ex H G → R v G → N σ G) : Bk (tDrop te) σ H P N := fun H1 e D _ n => h H1 e _ fun v G H2 x p => n σ G H2 x (k v G x.hg p)
theorem bk_for {β : Type} {D : β → V → Hp → Prop} {items : List β} {wi : TI} (hsrc : Src wi σ H items D) (J : Nat → L2.St → Prop) (h0 : J 0 σ)
    (hs : ∀ i b x G σ', items[i]? = some b → Ex H G → D b x G → J i σ' → CP (g x σ') G fun σ2 G' => Bk t σ2 G' P fun σ3 _ => J (i + 1) σ3) (hd : ∀ σ' G, Ex H G → J items.length σ' → N σ' G) : Bk (tFor wi g t) σ H P N := fun H1 e D r n => hsrc H1 e _ fun It G H2 x hw => by
  obtain ⟨Gp, Y, w, hGp, hY⟩ := hw
  refine for_it w (fun i σ' H' => Ex H2 H' ∧ J i σ') ⟨Ex.refl H2, h0⟩ (fun i σ' H' _ h => hGp H' (x.gb.trans h.1)) (fun i v σ' H' H'' hi ⟨e1, j1⟩ hy => ?_) (fun σ' H' ⟨e1, j1⟩ => n σ' G H' ⟨x.hg, x.gb.trans e1, x.ab.trans e1, x.sep⟩ (hd σ' G x.hg j1))
  obtain ⟨b, G1, hb, x1, hdb⟩ := hY i v H' H'' hi (x.gb.trans e1) hy
  have y1 := Ext.from e1 x1
  refine hs i b v G1 σ' hb (x.hg.trans x1.hg) hdb j1 H'' x1.gb _ fun σ2 G2 H3 x2 hb2 => ?_
  exact hb2 H3 x2.gb _ (fun v G3 H4 x3 p => r v G3 H4 (((x.trans y1).trans x2).trans x3) p) fun σ3 G3 H4 x3 p => ⟨((y1.trans x2).trans x3).ab, p⟩
/-! ### a list that is built: p = []; for ..: p.append(..) -/
def Ac (ts : TS) (σ : L2.St) (G : Hp) (p : Addr) (ds : List Dt) (N : L2.St → Prop) : Prop := G p = none → ∀ H1, Ex G H1 → ∀ acc, H1 p = some (.lst acc) → acc.length + ds.length ≤ 100000 → ∀ D : Ends,
  (∀ σ' G2 H2 new, Ex G G2 → Ex G2 H2 → G2 p = none → H2 p = some (.lst (acc ++ new)) → (∀ a o, a ≠ p → H1 a = some o → H2 a = some o) → (∀ a, G a = none → H1 a ≠ none → G2 a = none) → DnAll G2 new ds → N σ' → D.nx σ' H2) → ts D σ H1
theorem ac_ext {k : Nat} {p : Addr} {ds : List Dt} {N : L2.St → Prop} (hk : σ[k]? = some (some (.ref p))) (h : ED te σ H (.list ds)) (hn : N σ) : Ac (tDrop (tBM K "list" rExtend (tVar k) (tCons te tNil))) σ H p ds N := fun np H1 e acc ha hz D n =>
  ⟨.ref p, hk, Or.inl ⟨rfl, acc, SqL.of ha⟩, h H1 e _ fun v G H2 x q => by
    obtain ⟨b, zs, rfl, h1, h2⟩ := dn_lst q
    have nG : G p = none := x.sep p np (by rw [ha]; simp)
    refine ⟨p, b, acc, zs, rfl, rfl, x.ab _ _ ha, x.gb _ _ h1, by rw [h2.len]; exact sz_of hz, ?_⟩
    exact n σ G _ zs x.hg (Ext.upd x.gb nG) nG upd_same (fun a o h3 h4 => by rw [upd_ne h3]; exact x.ab a o h4) x.sep h2 hn⟩
theorem ac_app {k : Nat} {p : Addr} {d : Dt} {N : L2.St → Prop} (hk : σ[k]? = some (some (.ref p))) (h : ED te σ H d) (hn : N σ) : Ac (tDrop (tBM K "list" rAppend (tVar k) (tCons te tNil))) σ H p [d] N := fun np H1 e acc ha hz D n =>
  ⟨.ref p, hk, Or.inl ⟨rfl, acc, SqL.of ha⟩, h H1 e _ fun v G H2 x q => by
    have nG : G p = none := x.sep p np (by rw [ha]; simp)
    refine ⟨p, acc, v, rfl, rfl, x.ab _ _ ha, sz_lt (by simp at hz; omega), ?_⟩
    exact n σ G _ [v] x.hg (Ext.upd x.gb nG) nG upd_same (fun a o h3 h4 => by rw [upd_ne h3]; exact x.ab a o h4) x.sep (.cons q .nil) hn⟩
theorem ac_asg {i : Nat} {p : Addr} {ds : List Dt} {N : L2.St → Prop} (h : CP (te σ) H R) (k : ∀ v G, Ex H G → R v G → Ac u (σ.set i (some v)) G p ds N) : Ac (tSeq (tAsg te (gName i)) u) σ H p ds N := fun np H1 e acc ha hz D n => h H1 e _ fun v G H2 x q => by
  refine k v G x.hg q (x.sep p np (by rw [ha]; simp)) H2 x.gb acc (x.ab _ _ ha) hz D fun σ' G2 H3 new a1 a2 a3 a4 a5 a6 a7 a8 => ?_
  exact n σ' G2 H3 new (x.hg.trans a1) a2 a3 a4 (fun a o h1 h2 => a5 a o h1 (x.ab a o h2)) (fun a h1 h2 => a6 a (x.sep a h1 h2) (fun z => h2 (Evl.fresh_back x.ab z))) a7 a8
theorem bk_build {β : Type} {D : β → V → Hp → Prop} {items : List β} {wi : TI} {k : Nat} (ef : β → List Dt) (hsrc : ∀ p, Src wi (σ.set k (some (.ref p))) H items D) (hlen : (items.flatMap ef).length ≤ 100000) (J : Addr → Nat → L2.St → Prop) (h0 : ∀ p, J p 0 (σ.set k (some (.ref p))))
    (hs : ∀ p i b x G σ', items[i]? = some b → Ex H G → D b x G → J p i σ' → CP (g x σ') G fun σ2 G' => Ac t σ2 G' p (ef b) fun σ3 => J p (i + 1) σ3)
    (hd : ∀ p σ' G, Ex H G → Dn G (.ref p) (.list (items.flatMap ef)) → J p items.length σ' → Bk u σ' G P N) : Bk (tSeq (tAsg (tLst tNil) (gName k)) (tSeq (tFor wi g t) u)) σ H P N := fun H1 e D r n => by
  refine ⟨(by show 0 ≤ sizeLine; exact Nat.zero_le _), fun p hp => ?_⟩
  have np : H p = none := Evl.fresh_back e hp
  have e1 : Ex H (upd H1 p (.lst [])) := Ext.upd e np
  refine hsrc p _ e1 _ fun It G H2 x hw => ?_
  obtain ⟨Gp, Y, w, hGp, hY⟩ := hw
  have nG : G p = none := x.sep p np (by rw [upd_same]; simp)
  refine for_it w (fun i σ' H' => ∃ G' acc, Ex G G' ∧ Ex G' H' ∧ (∀ a o, a ≠ p → H2 a = some o → H' a = some o) ∧ G' p = none ∧ H' p = some (.lst acc) ∧ DnAll G' acc ((items.take i).flatMap ef) ∧ (∀ y, G y = none → H2 y ≠ none → G' y = none) ∧ J p i σ')
    ⟨G, [], Ex.refl G, x.gb, fun a o _ h => h, nG, x.ab _ _ upd_same, .nil, fun _ h _ => h, h0 p⟩ (fun i σ' H' _ ⟨G', acc, e1, e2, _⟩ => hGp H' (e1.trans e2)) (fun i v σ' H' H'' hi ⟨G', acc, e1, e2, e3, n1, a1, a2, s1, j1⟩ hy => ?_) (fun σ' H' ⟨G', acc, e1, e2, e3, n1, a1, a2, s1, j1⟩ => ?_)
  · obtain ⟨b, G1, hb, x1, hdb⟩ := hY i v H' H'' hi (e1.trans e2) hy
    have tk : items.take (i + 1) = items.take i ++ [b] := by rw [List.take_add_one, hb]; rfl
    have tf : (items.take (i + 1)).flatMap ef = (items.take i).flatMap ef ++ ef b := by rw [tk, List.flatMap_append]; simp
    have tl : ((items.take (i + 1)).flatMap ef).length ≤ (items.flatMap ef).length := by
      have z : items.flatMap ef = (items.take (i + 1)).flatMap ef ++ (items.drop (i + 1)).flatMap ef := by rw [← List.flatMap_append, List.take_append_drop]
      rw [z, List.length_append]
      omega
    rw [tf, List.length_append] at tl
    refine hs p i b v G1 σ' hb (x.hg.trans x1.hg) hdb j1 H'' x1.gb _ fun σ2 G2 H3 x2 hac => ?_
    have z0 := x1.trans x2
    have hp3 : H3 p = some (.lst acc) := z0.ab _ _ a1
    have nG2 : G2 p = none := z0.sep p nG (by rw [a1]; simp)
    refine hac nG2 H3 x2.gb acc hp3 (by rw [a2.len]; omega) _ fun σ3 G3 H4 new b1 b2 b3 b4 b5 b6 b7 b8 => ?_
    -- the whole turn: G, H' to G3, H4 but for p
    have ab : ∀ a o, a ≠ p → H' a = some o → H4 a = some o := fun a o h1 h2 => b5 a o h1 (z0.ab a o h2)
    have sep3 : ∀ a, G a = none → H' a ≠ none → G3 a = none := fun a h1 h2 => b6 a (z0.sep a h1 h2) (fun z => h2 (Evl.fresh_back z0.ab z))
    have eG : Ex G' H4 := fun a o h => ab a o (ne_of_none h n1) (e2 a o h)
    have cons : Ex G3 (uni G3 G') := fun a o h => by
      unfold uni
      cases q : G' a with
      | none => exact h
      | some u =>
        have h1 := b2 a o h
        have h2 := eG a u q
        rw [h1] at h2
        cases h2
        rfl
    have eU : Ex G' (uni G3 G') := fun a o h => by unfold uni; rw [h]
    have uH : Ex (uni G3 G') H4 := fun a o h => by
      unfold uni at h
      cases q : G' a with
      | none => rw [q] at h; exact b2 a o h
      | some u => rw [q] at h; cases h; exact eG a _ q
    have sepU : ∀ a, G' a = none → H' a ≠ none → uni G3 G' a = none := fun a h1 h2 => by
      unfold uni
      rw [h1]
      exact sep3 a (Evl.fresh_back e1 h1) h2
    refine ⟨uni G3 G', acc ++ new, e1.trans eU, uH, fun a o h1 h2 => ab a o h1 (e3 a o h1 h2), sepU p n1 (by rw [a1]; simp), b4, ?_, fun y h1 h2 => ?_, b8⟩
    · rw [tf]
      exact (a2.mono eU).app (b7.mono cons)
    · by_cases q : y = p
      · subst q; exact sepU y n1 (by rw [a1]; simp)
      · refine sepU y (s1 y h1 h2) fun z => h2 ?_
        cases w : H2 y with
        | none => rfl
        | some o => rw [e3 y o q w] at z; cases z
  · rw [List.take_length] at a2
    have x5 : Ext H H1 (upd G' p (.lst acc)) H' := by
      refine ⟨fun a u h => ?_, fun a u h => ?_, fun a u h => ?_, fun y h1 h2 => ?_⟩
      · rw [upd_ne (ne_of_none h np)]; exact e1 a u (x.hg a u h)
      · by_cases q : a = p
        · subst q; rw [upd_same] at h; rw [a1]; exact h
        · rw [upd_ne q] at h; exact e2 a u h
      · have q : a ≠ p := ne_of_none h hp
        exact e3 a u q (x.ab a u (by rw [upd_ne q]; exact h))
      · have q : y ≠ p := fun z => h2 (by rw [z]; exact hp)
        rw [upd_ne q]
        have g1 : G y = none := x.sep y h1 (by rw [upd_ne q]; exact h2)
        refine s1 y g1 fun z => h2 ?_
        have := Evl.fresh_back x.ab z
        rw [upd_ne q] at this
        exact this
    exact hd p σ' _ x5.hg (.lst upd_same (a2.mono (Ext.upd (Ex.refl G') n1))) j1 H' x5.gb D (fun v G2 H3 y p => r v G2 H3 (x5.trans y) p) fun σ2 G2 H3 y p => n σ2 G2 H3 (x5.trans y) p
end
/-! ### promises of defs that change nothing -/
/-- called with what pre asks, it gives what post says; x: what both speak of -/
def Pur {α : Type} (pre : α → List V → Hp → Prop) (post : α → V → Hp → Prop) : Sp := fun vs H1 Q _ => ∃ x H, Ex H H1 ∧ pre x vs H ∧ ∀ v G H2, Ext H H1 G H2 → post x v G → Q v H2
section
variable {α : Type} {pre : α → List V → Hp → Prop} {post : α → V → Hp → Prop} {σ : L2.St} {H : Hp} {ta : TA} {to : TE} {E : XK} {x : α}
theorem cp_call {A : List V → Hp → Prop} (h : CP (ta σ) H A) (hp : ∀ vs G, Ex H G → A vs G → pre x vs G) : CP (tCall (Pur pre post) [] E ta σ) H (post x) := CP.bind (k := fun (vs : List V) (H1 : Hp) (Q : VK) => Pur pre post (vs ++ []) H1 Q E) h fun vs G e a H1 e1 Q q => by
  rw [List.append_nil]
  exact ⟨x, G, e1, hp vs G e a, q⟩
theorem cp_meth {C : Addr} {m : Str} {A : List V → Hp → Prop} {O : V → Hp → Prop} (mO : Mono O) (mA : Mono A) (ho : CP (to σ) H O) (hm : ∀ v G, O v G → ∃ a dx fs, v = .ref a ∧ G a = some (.ins C dx fs) ∧ fs.lookup m = none) (h : CP (ta σ) H A)
    (hp : ∀ v vs G, Ex H G → O v G → A vs G → pre x (v :: vs) G) : CP (tMeth C m (Pur pre post) [] E to ta σ) H (post x) :=
  CP.bind (k := fun (o : V) (H1 : Hp) (Q : VK) => ∃ a dx fs, o = .ref a ∧ H1 a = some (.ins C dx fs) ∧ fs.lookup m = none ∧ ta σ H1 fun vs H2 => Pur pre post (o :: (vs ++ [])) H2 Q E) ho fun o G e hO H1 e1 Q q => by
    obtain ⟨a, dx, fs, rfl, h1, h2⟩ := hm o G hO
    refine ⟨a, dx, fs, rfl, e1 _ _ h1, h2, (h.mono mA e) H1 e1 _ fun vs G2 H2 y hA => ?_⟩
    rw [List.append_nil]
    exact ⟨x, G2, y.gb, hp _ vs G2 (e.trans y.hg) (mO _ _ _ y.hg hO) hA, fun v G3 H3 z p => q v G3 H3 (y.trans z) p⟩
theorem pur_body {vs : List V} {H1 : Hp} {Q : VK} {t : TS} {s0 : L2.St} (h : Pur pre post vs H1 Q E) (hb : ∀ x H, pre x vs H → Bk t s0 H (post x) fun _ G => post x .non G) : t { nx := fun _ H' => Q .non H', rt := Q } s0 H1 := by
  obtain ⟨x, H, e, hp, k⟩ := h
  exact hb x H hp H1 e _ k fun σ' G H2 y p => k _ G H2 y p
end
end Md

/-! the program's text by places, its scopes, what the top has written, calls by contract (printed by wip/gen.py) -/
namespace Md
open PySem PySem.Spec PyProof.Rows L2
open Evl (Ex)
def top (i : Nat) : Stmt := PySem.Challenge.pw_mapdrawn_s01_answers.main.body.getD i (.Pass ⟨0, 0, 0, 0⟩)
abbrev s_square_of : Stmt := top 1
abbrev s_is_farther : Stmt := top 2
abbrev s_is_less : Stmt := top 3
abbrev s_part_within : Stmt := top 4
abbrev s_goes_within : Stmt := top 5
abbrev s_is_within : Stmt := top 6
abbrev s_overlap : Stmt := top 7
abbrev s_Town_init : Stmt := inClass (top 11) 0
abbrev s_Town_box : Stmt := inClass (top 11) 1
abbrev s_fits : Stmt := top 12
abbrev s_clash : Stmt := top 13
abbrev s_first_unfit : Stmt := top 14
abbrev s_first_clash : Stmt := top 15
abbrev s_rank_of : Stmt := top 16
abbrev s_worth_of : Stmt := top 17
abbrev s_good_plans : Stmt := top 18
abbrev s_goes_with : Stmt := top 19
abbrev s_may_be_drawn : Stmt := top 21
abbrev s_stretches : Stmt := top 22
abbrev s_first_undrawn : Stmt := top 23
abbrev s_goes_through : Stmt := top 24
abbrev s_first_through : Stmt := top 25
abbrev s_all_choices : Stmt := top 26
abbrev s_good_choices : Stmt := top 27
abbrev s_corners_hit : Stmt := top 28
abbrev s_measure_of : Stmt := top 31
abbrev s_is_clear : Stmt := top 32
abbrev s_measures : Stmt := top 33
abbrev s_told_best : Stmt := top 34
abbrev s_Refused_init : Stmt := inClass (top 43) 0
abbrev s_want : Stmt := top 44
abbrev s_is_side : Stmt := top 52
abbrev s_Sheet_init : Stmt := inClass (top 53) 0
abbrev s_Sheet_has : Stmt := inClass (top 53) 1
abbrev s_Desk_init : Stmt := inClass (top 54) 0
abbrev s_Desk_want_choice : Stmt := inClass (top 54) 1
abbrev s_Desk_want_plan : Stmt := inClass (top 54) 2
abbrev s_Desk_want_drawn : Stmt := inClass (top 54) 3
abbrev s_Desk_want_names : Stmt := inClass (top 54) 4
abbrev s_Desk_begins : Stmt := inClass (top 54) 5
abbrev s_Desk_town : Stmt := inClass (top 54) 6
abbrev s_Desk_best : Stmt := inClass (top 54) 7
abbrev s_Desk_check : Stmt := inClass (top 54) 8
abbrev s_Desk_with_choice : Stmt := inClass (top 54) 9
abbrev s_Desk_with_plan : Stmt := inClass (top 54) 10
abbrev s_Desk_through : Stmt := inClass (top 54) 11
abbrev s_Desk_called : Stmt := inClass (top 54) 12
abbrev s_Desk_answer : Stmt := inClass (top 54) 13
abbrev s_read_call : Stmt := top 58
abbrev s_answers : Stmt := top 59
theorem sc_square_of : FnScope ["one", "other", "across", "up"] ["one", "other"] (defScope s_square_of) := ⟨rfl, rfl, rfl, by decide +kernel, rfl, by decide +kernel, by decide +kernel⟩
theorem sc_is_farther : FnScope ["place", "begin", "end", "square", "across", "up", "along", "whole", "aside"] ["place", "begin", "end", "square"] (defScope s_is_farther) := ⟨rfl, rfl, rfl, by decide +kernel, rfl, by decide +kernel, by decide +kernel⟩
theorem sc_is_less : FnScope ["one", "other"] ["one", "other"] (defScope s_is_less) := ⟨rfl, rfl, rfl, by decide +kernel, rfl, by decide +kernel, by decide +kernel⟩
theorem sc_part_within : FnScope ["begin", "end", "low", "high", "step"] ["begin", "end", "low", "high"] (defScope s_part_within) := ⟨rfl, rfl, rfl, by decide +kernel, rfl, by decide +kernel, by decide +kernel⟩
theorem sc_goes_within : FnScope ["begin", "end", "box", "one", "other", "first", "last"] ["begin", "end", "box"] (defScope s_goes_within) := ⟨rfl, rfl, rfl, by decide +kernel, rfl, by decide +kernel, by decide +kernel⟩
theorem sc_is_within : FnScope ["place", "box"] ["place", "box"] (defScope s_is_within) := ⟨rfl, rfl, rfl, by decide +kernel, rfl, by decide +kernel, by decide +kernel⟩
theorem sc_overlap : FnScope ["one", "other"] ["one", "other"] (defScope s_overlap) := ⟨rfl, rfl, rfl, by decide +kernel, rfl, by decide +kernel, by decide +kernel⟩
theorem sc_Town_init : FnScope ["self", "place", "wide", "high", "worth"] ["self", "place", "wide", "high", "worth"] (defScope s_Town_init) := ⟨rfl, rfl, rfl, by decide +kernel, rfl, by decide +kernel, by decide +kernel⟩
theorem sc_Town_box : FnScope ["self", "corner", "x", "y", "left", "low"] ["self", "corner"] (defScope s_Town_box) := ⟨rfl, rfl, rfl, by decide +kernel, rfl, by decide +kernel, by decide +kernel⟩
theorem sc_fits : FnScope ["sheet", "k", "corner", "box", "town"] ["sheet", "k", "corner"] (defScope s_fits) := ⟨rfl, rfl, rfl, by decide +kernel, rfl, by decide +kernel, by decide +kernel⟩
theorem sc_clash : FnScope ["sheet", "k", "corner", "other", "other_corner"] ["sheet", "k", "corner", "other", "other_corner"] (defScope s_clash) := ⟨rfl, rfl, rfl, by decide +kernel, rfl, by decide +kernel, by decide +kernel⟩
theorem sc_first_unfit : FnScope ["sheet", "plan", "k", "corner"] ["sheet", "plan"] (defScope s_first_unfit) := ⟨rfl, rfl, rfl, by decide +kernel, rfl, by decide +kernel, by decide +kernel⟩
theorem sc_first_clash : FnScope ["sheet", "plan", "told", "k", "other", "corner"] ["sheet", "plan"] (defScope s_first_clash) := ⟨rfl, rfl, rfl, by decide +kernel, rfl, by decide +kernel, by decide +kernel⟩
theorem sc_rank_of : FnScope ["plan", "corner"] ["plan"] (defScope s_rank_of) := ⟨rfl, rfl, rfl, by decide +kernel, rfl, by decide +kernel, by decide +kernel⟩
theorem sc_worth_of : FnScope ["sheet", "plan", "town", "corner"] ["sheet", "plan"] (defScope s_worth_of) := ⟨rfl, rfl, rfl, by decide +kernel, rfl, by decide +kernel, by decide +kernel⟩
theorem sc_good_plans : FnScope ["sheet", "found", "k", "corners", "longer", "plan", "corner"] ["sheet"] (defScope s_good_plans) := ⟨rfl, rfl, rfl, by decide +kernel, rfl, by decide +kernel, by decide +kernel⟩
theorem sc_goes_with : FnScope ["sheet", "plan", "corner", "k", "told", "j"] ["sheet", "plan", "corner"] (defScope s_goes_with) := ⟨rfl, rfl, rfl, by decide +kernel, rfl, by decide +kernel, by decide +kernel⟩
theorem sc_may_be_drawn : FnScope ["sheet", "begin", "end", "one", "other", "place"] ["sheet", "begin", "end"] (defScope s_may_be_drawn) := ⟨rfl, rfl, rfl, by decide +kernel, rfl, by decide +kernel, by decide +kernel⟩
theorem sc_stretches : FnScope ["choice"] ["choice"] (defScope s_stretches) := ⟨rfl, rfl, rfl, by decide +kernel, rfl, by decide +kernel, by decide +kernel⟩
theorem sc_first_undrawn : FnScope ["sheet", "choice", "begin", "end"] ["sheet", "choice"] (defScope s_first_undrawn) := ⟨rfl, rfl, rfl, by decide +kernel, rfl, by decide +kernel, by decide +kernel⟩
theorem sc_goes_through : FnScope ["sheet", "begin", "end", "k", "corner"] ["sheet", "begin", "end", "k", "corner"] (defScope s_goes_through) := ⟨rfl, rfl, rfl, by decide +kernel, rfl, by decide +kernel, by decide +kernel⟩
theorem sc_first_through : FnScope ["sheet", "choice", "k", "corner", "begin", "end"] ["sheet", "choice", "k", "corner"] (defScope s_first_through) := ⟨rfl, rfl, rfl, by decide +kernel, rfl, by decide +kernel, by decide +kernel⟩
theorem sc_all_choices : FnScope ["sheet", "last", "found", "number", "choice"] ["sheet"] (defScope s_all_choices) := ⟨rfl, rfl, rfl, by decide +kernel, rfl, by decide +kernel, by decide +kernel⟩
theorem sc_good_choices : FnScope ["sheet", "choice"] ["sheet"] (defScope s_good_choices) := ⟨rfl, rfl, rfl, by decide +kernel, rfl, by decide +kernel, by decide +kernel⟩
theorem sc_corners_hit : FnScope ["sheet", "choice", "found", "k", "c"] ["sheet", "choice"] (defScope s_corners_hit) := ⟨rfl, rfl, rfl, by decide +kernel, rfl, by decide +kernel, by decide +kernel⟩
theorem sc_measure_of : FnScope ["sheet", "choice", "plan"] ["sheet", "choice", "plan"] (defScope s_measure_of) := ⟨rfl, rfl, rfl, by decide +kernel, rfl, by decide +kernel, by decide +kernel⟩
theorem sc_is_clear : FnScope ["plan", "hit", "corner", "corners"] ["plan", "hit"] (defScope s_is_clear) := ⟨rfl, rfl, rfl, by decide +kernel, rfl, by decide +kernel, by decide +kernel⟩
theorem sc_measures : FnScope ["sheet", "choices", "plans", "found", "choice", "hit", "plan"] ["sheet", "choices", "plans"] (defScope s_measures) := ⟨rfl, rfl, rfl, by decide +kernel, rfl, by decide +kernel, by decide +kernel⟩
theorem sc_told_best : FnScope ["found", "best", "alike", "one"] ["found"] (defScope s_told_best) := ⟨rfl, rfl, rfl, by decide +kernel, rfl, by decide +kernel, by decide +kernel⟩
theorem sc_Refused_init : FnScope ["self", "numbers"] ["self", "numbers"] (defScope s_Refused_init) := ⟨rfl, rfl, rfl, by decide +kernel, rfl, by decide +kernel, by decide +kernel⟩
theorem sc_want : FnScope ["truth", "numbers"] ["truth", "numbers"] (defScope s_want) := ⟨rfl, rfl, rfl, by decide +kernel, rfl, by decide +kernel, by decide +kernel⟩
theorem sc_is_side : FnScope ["number"] ["number"] (defScope s_is_side) := ⟨rfl, rfl, rfl, by decide +kernel, rfl, by decide +kernel, by decide +kernel⟩
theorem sc_Sheet_init : FnScope ["self", "wide", "high", "off", "points"] ["self", "wide", "high", "off", "points"] (defScope s_Sheet_init) := ⟨rfl, rfl, rfl, by decide +kernel, rfl, by decide +kernel, by decide +kernel⟩
theorem sc_Sheet_has : FnScope ["self", "place"] ["self", "place"] (defScope s_Sheet_has) := ⟨rfl, rfl, rfl, by decide +kernel, rfl, by decide +kernel, by decide +kernel⟩
theorem sc_Desk_init : FnScope ["self"] ["self"] (defScope s_Desk_init) := ⟨rfl, rfl, rfl, by decide +kernel, rfl, by decide +kernel, by decide +kernel⟩
theorem sc_Desk_want_choice : FnScope ["self", "choice", "last", "rising", "one", "other"] ["self", "choice"] (defScope s_Desk_want_choice) := ⟨rfl, rfl, rfl, by decide +kernel, rfl, by decide +kernel, by decide +kernel⟩
theorem sc_Desk_want_plan : FnScope ["self", "plan", "corner"] ["self", "plan"] (defScope s_Desk_want_plan) := ⟨rfl, rfl, rfl, by decide +kernel, rfl, by decide +kernel, by decide +kernel⟩
theorem sc_Desk_want_drawn : FnScope ["self", "choice", "begin"] ["self", "choice"] (defScope s_Desk_want_drawn) := ⟨rfl, rfl, rfl, by decide +kernel, rfl, by decide +kernel, by decide +kernel⟩
theorem sc_Desk_want_names : FnScope ["self", "plan", "k", "two"] ["self", "plan"] (defScope s_Desk_want_names) := ⟨rfl, rfl, rfl, by decide +kernel, rfl, by decide +kernel, by decide +kernel⟩
theorem sc_Desk_begins : FnScope ["self", "wide", "high", "off", "row", "points", "sheet", "place"] ["self", "wide", "high", "off", "row"] (defScope s_Desk_begins) := ⟨rfl, rfl, rfl, by decide +kernel, rfl, by decide +kernel, by decide +kernel⟩
theorem sc_Desk_town : FnScope ["self", "place", "wide", "high", "worth"] ["self", "place", "wide", "high", "worth"] (defScope s_Desk_town) := ⟨rfl, rfl, rfl, by decide +kernel, rfl, by decide +kernel, by decide +kernel⟩
theorem sc_Desk_best : FnScope ["self"] ["self"] (defScope s_Desk_best) := ⟨rfl, rfl, rfl, by decide +kernel, rfl, by decide +kernel, by decide +kernel⟩
theorem sc_Desk_check : FnScope ["self", "choice", "plan", "k", "corner", "begin"] ["self", "choice", "plan"] (defScope s_Desk_check) := ⟨rfl, rfl, rfl, by decide +kernel, rfl, by decide +kernel, by decide +kernel⟩
theorem sc_Desk_with_choice : FnScope ["self", "choice"] ["self", "choice"] (defScope s_Desk_with_choice) := ⟨rfl, rfl, rfl, by decide +kernel, rfl, by decide +kernel, by decide +kernel⟩
theorem sc_Desk_with_plan : FnScope ["self", "plan", "found"] ["self", "plan"] (defScope s_Desk_with_plan) := ⟨rfl, rfl, rfl, by decide +kernel, rfl, by decide +kernel, by decide +kernel⟩
theorem sc_Desk_through : FnScope ["self", "begin", "end", "k", "corner"] ["self", "begin", "end", "k", "corner"] (defScope s_Desk_through) := ⟨rfl, rfl, rfl, by decide +kernel, rfl, by decide +kernel, by decide +kernel⟩
theorem sc_Desk_called : FnScope ["self", "call", "n", "rows"] ["self", "call", "n", "rows"] (defScope s_Desk_called) := ⟨rfl, rfl, rfl, by decide +kernel, rfl, by decide +kernel, by decide +kernel⟩
theorem sc_Desk_answer : FnScope ["self", "call", "n", "rows", "e"] ["self", "call", "n", "rows"] (defScope s_Desk_answer) := ⟨rfl, rfl, rfl, by decide +kernel, rfl, by decide +kernel, by decide +kernel⟩
theorem sc_read_call : FnScope ["calls", "at", "call", "end", "numbers", "rows", "turn", "last"] ["calls", "at"] (defScope s_read_call) := ⟨rfl, rfl, rfl, by decide +kernel, rfl, by decide +kernel, by decide +kernel⟩
theorem sc_answers : FnScope ["calls", "desk", "found", "at", "call", "numbers", "rows", "told"] ["calls"] (defScope s_answers) := ⟨rfl, rfl, rfl, by decide +kernel, rfl, by decide +kernel, by decide +kernel⟩
/-- where the classes and the two written tuples stand -/
structure Ad where
  town : Addr
  sheet : Addr
  desk : Addr
  ref : Addr
  nums : Addr
  rows : Addr
/-- what the top has written -/
structure Tx (K : PySem.W.Frag) (mg : Str → Option Value) (a : Ad) : Prop where
  b_len : mg "len" = none
  b_range : mg "range" = none
  b_any : mg "any" = none
  b_all : mg "all" = none
  b_sum : mg "sum" = none
  b_min : mg "min" = none
  b_zip : mg "zip" = none
  b_list : mg "list" = none
  b_enumerate : mg "enumerate" = none
  b_int : mg "int" = none
  b_ValueError : mg "ValueError" = none
  g_LEFT_OUT : ∃ t, mg "LEFT_OUT" = some (.int 4 t)
  g_CORNERS : ∃ t, mg "CORNERS" = some (.int 4 t)
  g_GOODNESS : ∃ t, mg "GOODNESS" = some (.int 3 t)
  g_BAD : ∃ t, mg "BAD" = some (.int (-1) t)
  g_NONE_THERE : ∃ t, mg "NONE_THERE" = some (.int (-2) t)
  g_FULL : ∃ t, mg "FULL" = some (.int (-5) t)
  g_NOT_DRAWN : ∃ t, mg "NOT_DRAWN" = some (.int (-6) t)
  g_NO_FIT : ∃ t, mg "NO_FIT" = some (.int (-7) t)
  g_CLASHING : ∃ t, mg "CLASHING" = some (.int (-8) t)
  g_THROUGH : ∃ t, mg "THROUGH" = some (.int (-9) t)
  g_MOST_SIDE : ∃ t, mg "MOST_SIDE" = some (.int 60 t)
  g_MOST_OFF : ∃ t, mg "MOST_OFF" = some (.int 10000 t)
  g_FEWEST_POINTS : ∃ t, mg "FEWEST_POINTS" = some (.int 2 t)
  g_MOST_POINTS : ∃ t, mg "MOST_POINTS" = some (.int 7 t)
  g_MOST_TOWNS : ∃ t, mg "MOST_TOWNS" = some (.int 4 t)
  g_MOST_WORTH : ∃ t, mg "MOST_WORTH" = some (.int 1000 t)
  g_NUMBERS : mg "NUMBERS" = some (.ref a.nums)
  g_ROWS : mg "ROWS" = some (.ref a.rows)
  wN : ∀ H, SqT K H a.nums (([3, 5, 0, 0, 0, 0, 4] : List Int).map V.int)
  wR : ∀ H, SqT K H a.rows (([1, 0, 0, 2, 1, 1, 0] : List Int).map V.int)
  cT : Cls K a.town
  cS : Cls K a.sheet
  cD : Cls K a.desk
  nT_place : NoAttr K a.town "place"
  nT_wide : NoAttr K a.town "wide"
  nT_high : NoAttr K a.town "high"
  nT_worth : NoAttr K a.town "worth"
  nS_wide : NoAttr K a.sheet "wide"
  nS_high : NoAttr K a.sheet "high"
  nS_off : NoAttr K a.sheet "off"
  nS_points : NoAttr K a.sheet "points"
  nS_towns : NoAttr K a.sheet "towns"
  nD_sheet : NoAttr K a.desk "sheet"
  xr : OexC K a.ref
  noNum : PySem.W.findIn K (.ref a.ref) "numbers" = some none
  xf : XfC K a.ref
  ve : PySem.W.findCls K (.type "ValueError") (.type "type") "__init__" = some (.val (.builtin "ValueError.__init__"))
  gR : mg "Refused" = some (.ref a.ref)
  te : PySem.W.exmOne K (.ref a.ref) (.ref a.ref) = some true
/-! ### calls by contract -/
section
variable (P : Program) (w : World) (K : PySem.W.Frag) (mg : Str → Option Value) (base : Heap)
def Cal (CX : CXT) (k : Nat) (x : Str) (ps : List Str) (sp : Sp) : Prop := ∃ f fd, FnOk P w K mg base CX k f fd ps sp ∧ mg x = some (.ref f) ∧ PySem.W.keepIn K (.ref f) = true ∧ Binds K fd ps []
def MCal (CX : CXT) (k : Nat) (C : Addr) (m : Str) (ps : List Str) (sp : Sp) : Prop := ∃ f fd, FnOk P w K mg base CX k f fd ps sp ∧ Meth K C m f ∧ Cls K C ∧ Binds K fd ps []
def MkC (k : Nat) (C : Addr) (x : Str) (ps : List Str) (sp : Sp) : Prop := ∃ f fd, FnOk P w K mg base CX0 k f fd ps sp ∧ Mk K C f ∧ mg x = some (.ref C) ∧ Binds K fd ps []
def RIni (k : Nat) (C : Addr) (ps : List Str) (sp : Sp) : Prop := ∃ f fd, FnOk P w K mg base CX0 k f fd ps sp ∧ PySem.W.findIn K (.ref C) "__init__" = some (some (.ref f)) ∧ PySem.W.typeIn K (.ref f) = some (.type "function") ∧ Binds K fd ps []
end
section
variable {X : Cx} {CX : CXT} {k : Nat} {x m : Str} {ps : List Str} {sp : Sp} {E : XK} {e o : Expr} {es : List Expr} {t : TA} {ta : TE} {p pos apos : Pos} {C : Addr}
theorem pe_fldK {K : PySem.W.Frag} {f : Str} (hK : X.K = K) (he : PE X e ta) (hb : attributeBase e f X.env (eval e X.env) = eval e X.env) : PE X (.Attribute e f pos) (tFld K ta f) := by
  subst hK
  exact pe_fld he hb
theorem pg_tupK {K : PySem.W.Frag} {kk n : Nat} {tg : TGs} (hK : X.K = K) (hc : X.calm = true) (h : PGs X es tg) (hn : (assignEach es X.env).length = n := by rfl) (hst : (assignEach es X.env).findIdx? (·.1) = none := by rfl) : PG X (.Tuple es kk pos) (gTup K n tg) := by
  subst hK
  exact pg_tup hc h hn hst
theorem ix_listK {K : PySem.W.Frag} (hK : X.K = K) : IxR X (rIxL K) := hK ▸ ix_list
theorem ix_tupK {K : PySem.W.Frag} (hK : X.K = K) : IxR X (rIxT K) := hK ▸ ix_tup
theorem sl_listK {K : PySem.W.Frag} (hK : X.K = K) : SlR X (rSlL K) := hK ▸ sl_list
theorem sl_tupK {K : PySem.W.Frag} (hK : X.K = K) : SlR X (rSlT K) := hK ▸ sl_tup
theorem in_seqK {K : PySem.W.Frag} (hK : X.K = K) : OpR X (compareOp .In) (rIn K false) := hK ▸ op_in_seq
theorem eqDK {K : PySem.W.Frag} (hK : X.K = K) (hu : X.A.units + 64 < cLine) : OpR X (compareOp .Eq) (rEqD K) := hK ▸ op_eqD hu
theorem neDK {K : PySem.W.Frag} (hK : X.K = K) (hu : X.A.units + 64 < cLine) : OpR X (compareOp .NotEq) (rNeD K) := hK ▸ op_neD hu
theorem pe_cal (c : Cal X.prog X.w X.K X.mg X.base CX k x ps sp) (hr : Room k X.A) (hg : Gl X x) (hx : Passes CX X E)
    (ha : PA X (e :: es) t) (hdb : (x == ("__debug__" : Str)) = false := by decide) (he : starEach (e :: es) X.env = (false, eval e X.env) :: starEach es X.env := by rfl) (hpl : (backTo pos (starEach es X.env)).any (·.1) = false := by rfl) :
    PE X (.Call (.Name x p) (e :: es) [] pos) (tCall sp [] E t) := by
  obtain ⟨f, fd, h1, h2, h3, h4⟩ := c
  exact pe_call h1 hr hg h2 h3 h4 .nil hx ha hdb he hpl
theorem pe_mt {pl : Sem Bool} (c : MCal X.prog X.w X.K X.mg X.base CX k C m ps sp) (he : PE X o ta) (hr : Room k X.A) (hx : Passes CX X E) (ha : PA X (e :: es) t)
    (hst : starEach (e :: es) X.env = (false, eval e X.env) :: starEach es X.env := by rfl) (hpl : (backTo pos (starEach es X.env)).any (·.1) = false := by rfl)
    (ht : eval (.Call (.Attribute o m apos) (e :: es) [] pos) X.env = (do
      let ov ← eval o X.env
      standAt apos.atName
      let (f, first) ← holding [ov] (getMethod ov m pl)
      callWith pos f first (backTo pos (starEach (e :: es) X.env)) (backToKw pos (keywordEach [] X.env))) := by rfl) :
    PE X (.Call (.Attribute o m apos) (e :: es) [] pos) (tMeth C m sp [] E ta t) := by
  obtain ⟨f, fd, h1, h2, h3, h4⟩ := c
  exact pe_meth he h3 h2 h1 hr h4 .nil hx ha hst hpl ht
theorem pe_mt0 {pl : Sem Bool} (c : MCal X.prog X.w X.K X.mg X.base CX k C m ps sp) (he : PE X o ta) (hr : Room k X.A) (hx : Passes CX X E)
    (ht : eval (.Call (.Attribute o m apos) [] [] pos) X.env = (do
      let ov ← eval o X.env
      standAt apos.atName
      let (f, first) ← holding [ov] (getMethod ov m pl)
      callWith pos f first (backTo pos (starEach [] X.env)) (backToKw pos (keywordEach [] X.env))) := by rfl) :
    PE X (.Call (.Attribute o m apos) [] [] pos) (tMeth C m sp [] E ta tNil) := by
  obtain ⟨f, fd, h1, h2, h3, h4⟩ := c
  exact pe_meth0 he h3 h2 h1 hr h4 .nil hx ht
theorem pe_mk (c : MkC X.prog X.w X.K X.mg X.base k C x ps sp) (hr : Room (k + 1) X.A) (hg : Gl X x) (hx : Passes CX0 X E)
    (ha : PA X (e :: es) t) (hdb : (x == ("__debug__" : Str)) = false := by decide) (he : starEach (e :: es) X.env = (false, eval e X.env) :: starEach es X.env := by rfl) (hpl : (backTo pos (starEach es X.env)).any (·.1) = false := by rfl) :
    PE X (.Call (.Name x p) (e :: es) [] pos) (tMake C sp [] E t) := by
  obtain ⟨f, fd, h1, h2, h3, h4⟩ := c
  exact pe_make h2 h1 hr hg h3 h4 .nil hx ha hdb he hpl
theorem pe_mk0 (c : MkC X.prog X.w X.K X.mg X.base k C x ps sp) (hr : Room (k + 1) X.A) (hg : Gl X x) (hx : Passes CX0 X E)
    (hdb : (x == ("__debug__" : Str)) = false := by decide) : PE X (.Call (.Name x p) [] [] pos) (tMake C sp [] E tNil) := by
  obtain ⟨f, fd, h1, h2, h3, h4⟩ := c
  exact pe_make0 h2 h1 hr hg h3 h4 .nil hx hdb
theorem pmk_ref {a : Ad} (T : Tx X.K X.mg a) (c : RIni X.prog X.w X.K X.mg X.base k a.ref ps sp) (hr : Room (k + 1) X.A) (hg : Gl X "Refused") (ha : PA X (e :: es) t)
    (he : starEach (e :: es) X.env = (false, eval e X.env) :: starEach es X.env := by rfl) (hpl : (backTo pos (starEach es X.env)).any (·.1) = false := by rfl) :
    PMk X (.Call (.Name "Refused" p) (e :: es) [] pos) (tMkO a.ref sp [] t) := by
  obtain ⟨f, fd, h1, h2, h3, h4⟩ := c
  exact pmk_oex T.xr h2 h3 h1 hr h4 .nil pass0 hg T.gR ha (by decide) he hpl
end
end Md

namespace Md
open PySem PySem.Spec PyProof.Rows L2
open Evl (Ex)
abbrev dPt (p : Int × Int) : Dt := .tuple [.int p.1, .int p.2]
abbrev dBx (c : Bx) : Dt := .tuple [.int c.l, .int c.b, .int c.r, .int c.t]
/-- small -/
def Sm (n i : Int) : Prop := -n ≤ i ∧ i ≤ n
def SmP (n : Int) (p : Int × Int) : Prop := Sm n p.1 ∧ Sm n p.2
theorem cm_l {i j : Int} (h : Sm 1000000000 i) : CMul i j := .inl (by unfold Sm at h; omega)
theorem sm_mul {A B x y : Int} (hx : Sm A x) (hy : Sm B y) : Sm (A * B) (x * y) := by
  unfold Sm at *
  obtain ⟨x1, x2⟩ := hx
  obtain ⟨y1, y2⟩ := hy
  have hA : 0 ≤ A := by omega
  have hB : 0 ≤ B := by omega
  have key : ∀ u v : Int, 0 ≤ u → u ≤ A → 0 ≤ v → v ≤ B → 0 ≤ u * v ∧ u * v ≤ A * B := fun u v h1 h2 h3 h4 => ⟨Int.mul_nonneg h1 h3, Int.mul_le_mul h2 h4 h3 hA⟩
  rcases Int.le_total 0 x with hx0 | hx0
  · rcases Int.le_total 0 y with hy0 | hy0
    · have := key x y hx0 x2 hy0 y2; omega
    · have := key x (-y) hx0 x2 (by omega) (by omega); rw [Int.mul_neg] at this; omega
  · rcases Int.le_total 0 y with hy0 | hy0
    · have := key (-x) y (by omega) (by omega) hy0 y2; rw [Int.neg_mul] at this; omega
    · have := key (-x) (-y) (by omega) (by omega) (by omega) (by omega); rw [Int.neg_mul_neg] at this; omega
theorem at_0 {α : Type} {x0 : α} {r : List α} : atI (x0 :: r) 0 = some x0 := atI_nat (j := 0) rfl
theorem at_1 {α : Type} {x0 x1 : α} {r : List α} : atI (x0 :: x1 :: r) 1 = some x1 := atI_nat (j := 1) rfl
theorem at_2 {α : Type} {x0 x1 x2 : α} {r : List α} : atI (x0 :: x1 :: x2 :: r) 2 = some x2 := atI_nat (j := 2) rfl
theorem at_3 {α : Type} {x0 x1 x2 x3 : α} {r : List α} : atI (x0 :: x1 :: x2 :: x3 :: r) 3 = some x3 := atI_nat (j := 3) rfl
theorem at_4 {α : Type} {x0 x1 x2 x3 x4 : α} {r : List α} : atI (x0 :: x1 :: x2 :: x3 :: x4 :: r) 4 = some x4 := atI_nat (j := 4) rfl
theorem dn1 {H : Hp} {vs : List V} {d1 : Dt} (h : DnAll H vs [d1]) : ∃ v1, vs = [v1] ∧ Dn H v1 d1 := by
  cases h with | cons h1 h => cases h; exact ⟨_, rfl, h1⟩
theorem dn2 {H : Hp} {vs : List V} {d1 d2 : Dt} (h : DnAll H vs [d1, d2]) : ∃ v1 v2, vs = [v1, v2] ∧ Dn H v1 d1 ∧ Dn H v2 d2 := by
  cases h with | cons h1 h => obtain ⟨_, rfl, h2⟩ := dn1 h; exact ⟨_, _, rfl, h1, h2⟩
theorem dn3 {H : Hp} {vs : List V} {d1 d2 d3 : Dt} (h : DnAll H vs [d1, d2, d3]) : ∃ v1 v2 v3, vs = [v1, v2, v3] ∧ Dn H v1 d1 ∧ Dn H v2 d2 ∧ Dn H v3 d3 := by
  cases h with | cons h1 h => obtain ⟨_, _, rfl, h2⟩ := dn2 h; exact ⟨_, _, _, rfl, h1, h2⟩
theorem dn4 {H : Hp} {vs : List V} {d1 d2 d3 d4 : Dt} (h : DnAll H vs [d1, d2, d3, d4]) : ∃ v1 v2 v3 v4, vs = [v1, v2, v3, v4] ∧ Dn H v1 d1 ∧ Dn H v2 d2 ∧ Dn H v3 d3 ∧ Dn H v4 d4 := by
  cases h with | cons h1 h => obtain ⟨_, _, _, rfl, h2⟩ := dn3 h; exact ⟨_, _, _, _, rfl, h1, h2⟩
theorem dn5 {H : Hp} {vs : List V} {d1 d2 d3 d4 d5 : Dt} (h : DnAll H vs [d1, d2, d3, d4, d5]) : ∃ v1 v2 v3 v4 v5, vs = [v1, v2, v3, v4, v5] ∧ Dn H v1 d1 ∧ Dn H v2 d2 ∧ Dn H v3 d3 ∧ Dn H v4 d4 ∧ Dn H v5 d5 := by
  cases h with | cons h1 h => obtain ⟨_, _, _, _, rfl, h2⟩ := dn4 h; exact ⟨_, _, _, _, _, rfl, h1, h2⟩
def dOp : Option ((Int × Int) × (Int × Int)) → Dt
  | none => .none
  | some q => .tuple [dPt q.1, dPt q.2]
theorem part_sm {b e lo hi : Int} {q : (Int × Int) × (Int × Int)} (h : partWithin b e lo hi = some q) (b1 : Sm 200 b) (b2 : Sm 200 e) (b3 : Sm 200 lo) (b4 : Sm 200 hi) : SmP 1000 q.1 ∧ SmP 1000 q.2 := by
  unfold SmP Sm at *
  unfold partWithin at h
  split at h
  · split at h
    · cases h; decide
    · cases h
  · split at h
    · cases h; refine ⟨⟨?_, ?_⟩, ?_, ?_⟩ <;> constructor <;> simp only [] <;> omega
    · cases h; refine ⟨⟨?_, ?_⟩, ?_, ?_⟩ <;> constructor <;> simp only [] <;> omega
theorem all_len {H : Hp} {vs : List V} {ds : List Dt} (h : DnAll H vs ds) : vs.length = ds.length := h.len
local macro_rules | `(tactic| walk_at "ed") => `(tactic| first
  | with_reducible exact ed_int | with_reducible exact ed_bl | with_reducible exact ed_non
  | ((with_reducible show ED (tVar _) _ _ _); refine ed_var rfl ?_; first | assumption | exact Dn.int _ | exact Dn.bl _)
  | with_reducible apply ed_add | with_reducible apply ed_sub | with_reducible apply ed_mul
  | with_reducible apply ed_lt | with_reducible apply ed_le | with_reducible apply ed_gt | with_reducible apply ed_ge
  | with_reducible apply ed_eq | with_reducible apply ed_ne | with_reducible apply ed_neg | with_reducible apply ed_isN | with_reducible apply ed_notN
  | with_reducible apply ed_ixT | with_reducible apply ed_ixL | with_reducible exact at_0 | with_reducible exact at_1 | with_reducible exact at_2 | with_reducible exact at_3 | with_reducible exact at_4
  | with_reducible apply ed_tup | with_reducible apply ed_lst | ((with_reducible show List.length _ ≤ 100000); exact Nat.le_of_ble_eq_true rfl)
  | with_reducible exact ea_nil | with_reducible apply ea_cons
  | with_reducible apply et_test | with_reducible apply et_B)
section
variable {P : Program} {w : World} {K : PySem.W.Frag} {mg : Str → Option Value} {base : Heap} {a : Ad}
def sp_square_of (_ : Ad) : Sp := Pur (fun (x : (Int × Int) × (Int × Int)) vs H => DnAll H vs [dPt x.1, dPt x.2] ∧ SmP 1000 x.1 ∧ SmP 1000 x.2) fun x v G => Dn G v (.int (squareOf x.1 x.2))
theorem len_square_of {vs : List V} {H : Hp} {Q : VK} {E : XK} (h : sp_square_of a vs H Q E) : vs.length = 2 := by obtain ⟨_, _, _, h, _⟩ := h; exact h.1.len
theorem ok_square_of {f : Addr} {fd : FuncData} (F : Fun K "square_of" "square_of" s_square_of f fd) (T : Tx K mg a)  : FnOk P w K mg base CX0 1 f fd ["one", "other"] (sp_square_of a) := by
  refine F.ok sc_square_of (fun vs H Q E h => ?_) (fun cdv A outer s H vs Q E hr h => ?_)
  · exact len_square_of h
  · refine ⟨_, (pss_cons (ps_set (i := 2) sc_square_of.nd rfl (Or.inl rfl) (pe_op op_sub (pe_ix (ix_tupK (K := K) rfl) (pv 1) pe_int (fun _ _ => rfl)) (pe_ix (ix_tupK (K := K) rfl) (pv 0) pe_int (fun _ _ => rfl)))) (pss_cons (ps_set (i := 3) sc_square_of.nd rfl (Or.inl rfl) (pe_op op_sub (pe_ix (ix_tupK (K := K) rfl) (pv 1) pe_int (fun _ _ => rfl)) (pe_ix (ix_tupK (K := K) rfl) (pv 0) pe_int (fun _ _ => rfl)))) (pss_one (ps_ret (pe_op op_add (pe_op op_mul (pv 2) (pv 2)) (pe_op op_mul (pv 3) (pv 3))))))), ?_⟩
    refine pur_body h fun x H0 hp => ?_
    obtain ⟨hv, b1, b2⟩ := hp
    cases hv with
    | cons h1 hv =>
      cases hv with
      | cons h2 hv =>
        cases hv
        unfold SmP Sm at b1 b2
        refine bk_asgI (n := x.2.1 - x.1.1) (by repeat' walk_at "ed") ?_
        refine bk_asgI (n := x.2.2 - x.1.2) (by repeat' walk_at "ed") ?_
        refine bk_ret (ed_is (d1 := .int ((x.2.1 - x.1.1) * (x.2.1 - x.1.1) + (x.2.2 - x.1.2) * (x.2.2 - x.1.2))) ?_ rfl)
        repeat' walk_at "ed"
        · exact cm_l (by unfold Sm; omega)
        · exact cm_l (by unfold Sm; omega)
def sp_is_farther (_ : Ad) : Sp := Pur (fun (x : (Int × Int) × (Int × Int) × (Int × Int) × Int) vs H => DnAll H vs [dPt x.1, dPt x.2.1, dPt x.2.2.1, .int x.2.2.2] ∧ SmP 1000 x.1 ∧ SmP 1000 x.2.1 ∧ SmP 1000 x.2.2.1 ∧ Sm 100000 x.2.2.2) fun x v G => Dn G v (.bool (isFarther x.1 x.2.1 x.2.2.1 x.2.2.2))
theorem len_is_farther {vs : List V} {H : Hp} {Q : VK} {E : XK} (h : sp_is_farther a vs H Q E) : vs.length = 4 := by obtain ⟨_, _, _, h, _⟩ := h; exact h.1.len
theorem ok_is_farther {f : Addr} {fd : FuncData} (F : Fun K "is_farther" "is_farther" s_is_farther f fd) (T : Tx K mg a) (c_square_of : Cal P w K mg base CX0 1 "square_of" ["one", "other"] (sp_square_of a)) : FnOk P w K mg base CX0 2 f fd ["place", "begin", "end", "square"] (sp_is_farther a) := by
  refine F.ok sc_is_farther (fun vs H Q E h => ?_) (fun cdv A outer s H vs Q E hr h => ?_)
  · exact len_is_farther h
  · refine ⟨_, (pss_cons (ps_set (i := 4) sc_is_farther.nd rfl (Or.inl rfl) (pe_op op_sub (pe_ix (ix_tupK (K := K) rfl) (pv 2) pe_int (fun _ _ => rfl)) (pe_ix (ix_tupK (K := K) rfl) (pv 1) pe_int (fun _ _ => rfl)))) (pss_cons (ps_set (i := 5) sc_is_farther.nd rfl (Or.inl rfl) (pe_op op_sub (pe_ix (ix_tupK (K := K) rfl) (pv 2) pe_int (fun _ _ => rfl)) (pe_ix (ix_tupK (K := K) rfl) (pv 1) pe_int (fun _ _ => rfl)))) (pss_cons (ps_set (i := 6) sc_is_farther.nd rfl (Or.inl rfl) (pe_op op_add (pe_op op_mul (pe_op op_sub (pe_ix (ix_tupK (K := K) rfl) (pv 0) pe_int (fun _ _ => rfl)) (pe_ix (ix_tupK (K := K) rfl) (pv 1) pe_int (fun _ _ => rfl))) (pv 4)) (pe_op op_mul (pe_op op_sub (pe_ix (ix_tupK (K := K) rfl) (pv 0) pe_int (fun _ _ => rfl)) (pe_ix (ix_tupK (K := K) rfl) (pv 1) pe_int (fun _ _ => rfl))) (pv 5)))) (pss_cons (ps_set (i := 7) sc_is_farther.nd rfl (Or.inl rfl) (pe_op op_add (pe_op op_mul (pv 4) (pv 4)) (pe_op op_mul (pv 5) (pv 5)))) (pss_cons (ps_if (pt_cmpR op_le (pv 6) pe_int (nomark _)) (pss_one (ps_ret (pe_cmpR op_gt (pe_cal c_square_of (hr.mono (by decide)) rfl pass0 (by exact (pa_cons (pv 0) (pa_cons (pv 1) pa_nil)))) (pv 3) (nomark _)))) pss_nil) (pss_cons (ps_if (pt_cmpR op_ge (pv 6) (pv 7) (nomark _)) (pss_one (ps_ret (pe_cmpR op_gt (pe_cal c_square_of (hr.mono (by decide)) rfl pass0 (by exact (pa_cons (pv 0) (pa_cons (pv 2) pa_nil)))) (pv 3) (nomark _)))) pss_nil) (pss_cons (ps_set (i := 8) sc_is_farther.nd rfl (Or.inl rfl) (pe_op op_sub (pe_op op_mul (pe_op op_sub (pe_ix (ix_tupK (K := K) rfl) (pv 0) pe_int (fun _ _ => rfl)) (pe_ix (ix_tupK (K := K) rfl) (pv 1) pe_int (fun _ _ => rfl))) (pv 5)) (pe_op op_mul (pe_op op_sub (pe_ix (ix_tupK (K := K) rfl) (pv 0) pe_int (fun _ _ => rfl)) (pe_ix (ix_tupK (K := K) rfl) (pv 1) pe_int (fun _ _ => rfl))) (pv 4)))) (pss_one (ps_ret (pe_cmpR op_gt (pe_op op_mul (pv 8) (pv 8)) (pe_op op_mul (pv 3) (pv 7)) (nomark _))))))))))), ?_⟩
    refine pur_body h fun x H0 hp => ?_
    obtain ⟨p, b, e, sq⟩ := x
    obtain ⟨hv, b1, b2, b3, b4⟩ := hp
    obtain ⟨v1, v2, v3, v4, rfl, h1, h2, h3, h4⟩ := dn4 hv
    have b1' := b1
    have b2' := b2
    have b3' := b3
    unfold SmP Sm at b1 b2 b3
    unfold Sm at b4
    simp only [] at b1 b2 b3 b4 h1 h2 h3 h4
    have m1 : Sm (2000 * 2000) ((p.1 - b.1) * (e.2 - b.2)) := sm_mul (by unfold Sm; omega) (by unfold Sm; omega)
    have m2 : Sm (2000 * 2000) ((p.2 - b.2) * (e.1 - b.1)) := sm_mul (by unfold Sm; omega) (by unfold Sm; omega)
    unfold Sm at m1 m2
    refine bk_asgI (n := e.1 - b.1) (by repeat' walk_at "ed") ?_
    refine bk_asgI (n := e.2 - b.2) (by repeat' walk_at "ed") ?_
    refine bk_asgI (n := (p.1 - b.1) * (e.1 - b.1) + (p.2 - b.2) * (e.2 - b.2)) (by
      repeat' walk_at "ed"
      · exact cm_l (by unfold Sm; omega)
      · exact cm_l (by unfold Sm; omega)) ?_
    refine bk_asgI (n := (e.1 - b.1) * (e.1 - b.1) + (e.2 - b.2) * (e.2 - b.2)) (by
      repeat' walk_at "ed"
      · exact cm_l (by unfold Sm; omega)
      · exact cm_l (by unfold Sm; omega)) ?_
    refine bk_when (b := decide ((p.1 - b.1) * (e.1 - b.1) + (p.2 - b.2) * (e.2 - b.2) ≤ 0)) (by repeat' walk_at "ed") (fun c => ?_) (fun c => ?_)
    · refine bk_ret (ed_is (d1 := .bool (decide (sq < squareOf p b))) ?_ (by
        unfold isFarther; rw [if_pos (of_decide_eq_true c)]))
      refine ed_gt (cp_call (x := (p, b)) (ea_cons (by walk_at "ed") (ea_cons (by walk_at "ed") ea_nil)) fun vs G _ q => ⟨q, b1', b2'⟩) (by walk_at "ed")
    have c1 := of_decide_eq_false c
    refine bk_when (b := decide ((e.1 - b.1) * (e.1 - b.1) + (e.2 - b.2) * (e.2 - b.2) ≤ (p.1 - b.1) * (e.1 - b.1) + (p.2 - b.2) * (e.2 - b.2))) (by repeat' walk_at "ed") (fun c => ?_) (fun c => ?_)
    · refine bk_ret (ed_is (d1 := .bool (decide (sq < squareOf p e))) ?_ (by
        unfold isFarther; rw [if_neg c1, if_pos (of_decide_eq_true c)]))
      refine ed_gt (cp_call (x := (p, e)) (ea_cons (by walk_at "ed") (ea_cons (by walk_at "ed") ea_nil)) fun vs G _ q => ⟨q, b1', b3'⟩) (by walk_at "ed")
    have c2 := of_decide_eq_false c
    refine bk_asgI (n := (p.1 - b.1) * (e.2 - b.2) - (p.2 - b.2) * (e.1 - b.1)) (by
      repeat' walk_at "ed"
      · exact cm_l (by unfold Sm; omega)
      · exact cm_l (by unfold Sm; omega)) ?_
    refine bk_ret (ed_is (d1 := .bool (decide (sq * ((e.1 - b.1) * (e.1 - b.1) + (e.2 - b.2) * (e.2 - b.2)) < ((p.1 - b.1) * (e.2 - b.2) - (p.2 - b.2) * (e.1 - b.1)) * ((p.1 - b.1) * (e.2 - b.2) - (p.2 - b.2) * (e.1 - b.1))))) ?_ (by
        unfold isFarther; rw [if_neg c1, if_neg c2]))
    repeat' walk_at "ed"
    · exact cm_l (by unfold Sm; omega)
    · exact cm_l (by unfold Sm; omega)
def sp_is_less (_ : Ad) : Sp := Pur (fun (x : (Int × Int) × (Int × Int)) vs H => DnAll H vs [dPt x.1, dPt x.2] ∧ SmP 1000 x.1 ∧ SmP 1000 x.2) fun x v G => Dn G v (.bool (isLess x.1 x.2))
theorem len_is_less {vs : List V} {H : Hp} {Q : VK} {E : XK} (h : sp_is_less a vs H Q E) : vs.length = 2 := by obtain ⟨_, _, _, h, _⟩ := h; exact h.1.len
theorem ok_is_less {f : Addr} {fd : FuncData} (F : Fun K "is_less" "is_less" s_is_less f fd) (T : Tx K mg a)  : FnOk P w K mg base CX0 1 f fd ["one", "other"] (sp_is_less a) := by
  refine F.ok sc_is_less (fun vs H Q E h => ?_) (fun cdv A outer s H vs Q E hr h => ?_)
  · exact len_is_less h
  · refine ⟨_, (pss_one (ps_ret (pe_cmpR op_lt (pe_op op_mul (pe_ix (ix_tupK (K := K) rfl) (pv 0) pe_int (fun _ _ => rfl)) (pe_ix (ix_tupK (K := K) rfl) (pv 1) pe_int (fun _ _ => rfl))) (pe_op op_mul (pe_ix (ix_tupK (K := K) rfl) (pv 1) pe_int (fun _ _ => rfl)) (pe_ix (ix_tupK (K := K) rfl) (pv 0) pe_int (fun _ _ => rfl))) (nomark _)))), ?_⟩
    refine pur_body h fun x H0 hp => ?_
    obtain ⟨hv, b1, b2⟩ := hp
    cases hv with
    | cons h1 hv =>
      cases hv with
      | cons h2 hv =>
        cases hv
        unfold SmP Sm at b1 b2
        refine bk_ret (ed_is (d1 := .bool (decide (x.1.1 * x.2.2 < x.2.1 * x.1.2))) ?_ rfl)
        repeat' walk_at "ed"
        · exact cm_l (by unfold Sm; omega)
        · exact cm_l (by unfold Sm; omega)
def sp_part_within (_ : Ad) : Sp := Pur (fun (x : Int × Int × Int × Int) vs H => DnAll H vs [.int x.1, .int x.2.1, .int x.2.2.1, .int x.2.2.2]) fun x v G => Dn G v (dOp (partWithin x.1 x.2.1 x.2.2.1 x.2.2.2))
theorem len_part_within {vs : List V} {H : Hp} {Q : VK} {E : XK} (h : sp_part_within a vs H Q E) : vs.length = 4 := by obtain ⟨_, _, _, h, _⟩ := h; exact h.len
theorem ok_part_within {f : Addr} {fd : FuncData} (F : Fun K "part_within" "part_within" s_part_within f fd) (T : Tx K mg a)  : FnOk P w K mg base CX0 1 f fd ["begin", "end", "low", "high"] (sp_part_within a) := by
  refine F.ok sc_part_within (fun vs H Q E h => ?_) (fun cdv A outer s H vs Q E hr h => ?_)
  · exact len_part_within h
  · refine ⟨_, (pss_cons (ps_set (i := 4) sc_part_within.nd rfl (Or.inl rfl) (pe_op op_sub (pv 1) (pv 0))) (pss_cons (ps_if (pt_cmpR op_eq (pv 4) pe_int (nomark _)) (pss_one (ps_ret (pe_ifExp (PW.pt (pw_and (pt_cmpR op_lt (pv 2) (pv 0) (nomark _)) (pw_and1 (pt_cmpR op_lt (pv 0) (pv 3) (nomark _))))) (pe_tup (pa_cons (pe_tup (pa_cons (pe_un un_neg pe_int) (pa_cons pe_int pa_nil))) (pa_cons (pe_tup (pa_cons pe_int (pa_cons pe_int pa_nil))) pa_nil))) pe_non))) pss_nil) (pss_cons (ps_if (pt_cmpR op_gt (pv 4) pe_int (nomark _)) (pss_one (ps_ret (pe_tup (pa_cons (pe_tup (pa_cons (pe_op op_sub (pv 2) (pv 0)) (pa_cons (pv 4) pa_nil))) (pa_cons (pe_tup (pa_cons (pe_op op_sub (pv 3) (pv 0)) (pa_cons (pv 4) pa_nil))) pa_nil))))) pss_nil) (pss_one (ps_ret (pe_tup (pa_cons (pe_tup (pa_cons (pe_op op_sub (pv 0) (pv 3)) (pa_cons (pe_op op_sub pe_int (pv 4)) pa_nil))) (pa_cons (pe_tup (pa_cons (pe_op op_sub (pv 0) (pv 2)) (pa_cons (pe_op op_sub pe_int (pv 4)) pa_nil))) pa_nil)))))))), ?_⟩
    refine pur_body h fun x H0 hv => ?_
    obtain ⟨b, e, lo, hi⟩ := x
    obtain ⟨v1, v2, v3, v4, rfl, h1, h2, h3, h4⟩ := dn4 hv
    refine bk_asgI (n := e - b) (by repeat' walk_at "ed") ?_
    refine bk_when (b := decide (e - b = 0)) (by repeat' walk_at "ed") (fun c => ?_) (fun c => ?_)
    · have c1 := of_decide_eq_true c
      refine bk_ret (ed_if (b := decide (lo < b) && decide (b < hi)) (et_and (by repeat' walk_at "ed") fun _ => (by repeat' walk_at "ed")) (fun q => ?_) (fun q => ?_))
      · refine ed_is (d1 := .tuple [.tuple [.int (-1), .int 1], .tuple [.int 2, .int 1]]) (by repeat' walk_at "ed") ?_
        show _ = dOp (partWithin b e lo hi)
        rw [part_zero c1 (by simp at q; omega)]
        rfl
      · refine ed_is (d1 := .none) (by repeat' walk_at "ed") ?_
        show _ = dOp (partWithin b e lo hi)
        rw [part_none c1 (by simp at q; omega)]
        rfl
    have c1 := of_decide_eq_false c
    refine bk_when (b := decide (0 < e - b)) (by repeat' walk_at "ed") (fun c => ?_) (fun c => ?_)
    · refine bk_ret (ed_is (d1 := .tuple [.tuple [.int (lo - b), .int (e - b)], .tuple [.int (hi - b), .int (e - b)]]) (by repeat' walk_at "ed") ?_)
      show _ = dOp (partWithin b e lo hi)
      rw [part_pos (of_decide_eq_true c)]
      rfl
    have c2 := of_decide_eq_false c
    refine bk_ret (ed_is (d1 := .tuple [.tuple [.int (b - hi), .int (0 - (e - b))], .tuple [.int (b - lo), .int (0 - (e - b))]]) (by repeat' walk_at "ed") ?_)
    show _ = dOp (partWithin b e lo hi)
    unfold partWithin
    rw [if_neg c1, if_neg c2]
    rfl
def SmB (c : Bx) : Prop := Sm 200 c.l ∧ Sm 200 c.b ∧ Sm 200 c.r ∧ Sm 200 c.t
def sp_goes_within (_ : Ad) : Sp := Pur (fun (x : (Int × Int) × (Int × Int) × Bx) vs H => DnAll H vs [dPt x.1, dPt x.2.1, dBx x.2.2] ∧ SmP 200 x.1 ∧ SmP 200 x.2.1 ∧ SmB x.2.2) fun x v G => Dn G v (.bool (goesWithin x.1 x.2.1 x.2.2))
theorem len_goes_within {vs : List V} {H : Hp} {Q : VK} {E : XK} (h : sp_goes_within a vs H Q E) : vs.length = 3 := by obtain ⟨_, _, _, h, _⟩ := h; exact h.1.len
theorem dop_none : ∀ o : Option ((Int × Int) × (Int × Int)), isNone (dOp o) = o.isNone
  | none => rfl
  | some _ => rfl
theorem sm11 : SmP 1000 (1, 1) := by unfold SmP Sm; decide
theorem sm01 : SmP 1000 (0, 1) := by unfold SmP Sm; decide
theorem ok_goes_within {f : Addr} {fd : FuncData} (F : Fun K "goes_within" "goes_within" s_goes_within f fd) (T : Tx K mg a) (c_part_within : Cal P w K mg base CX0 1 "part_within" ["begin", "end", "low", "high"] (sp_part_within a)) (c_is_less : Cal P w K mg base CX0 1 "is_less" ["one", "other"] (sp_is_less a)) : FnOk P w K mg base CX0 2 f fd ["begin", "end", "box"] (sp_goes_within a) := by
  refine F.ok sc_goes_within (fun vs H Q E h => ?_) (fun cdv A outer s H vs Q E hr h => ?_)
  · exact len_goes_within h
  · refine ⟨_, (pss_cons (ps_set (i := 3) sc_goes_within.nd rfl (Or.inl rfl) (pe_cal c_part_within (hr.mono (by decide)) rfl pass0 (by exact (pa_cons (pe_ix (ix_tupK (K := K) rfl) (pv 0) pe_int (fun _ _ => rfl)) (pa_cons (pe_ix (ix_tupK (K := K) rfl) (pv 1) pe_int (fun _ _ => rfl)) (pa_cons (pe_ix (ix_tupK (K := K) rfl) (pv 2) pe_int (fun _ _ => rfl)) (pa_cons (pe_ix (ix_tupK (K := K) rfl) (pv 2) pe_int (fun _ _ => rfl)) pa_nil))))))) (pss_cons (ps_set (i := 4) sc_goes_within.nd rfl (Or.inl rfl) (pe_cal c_part_within (hr.mono (by decide)) rfl pass0 (by exact (pa_cons (pe_ix (ix_tupK (K := K) rfl) (pv 0) pe_int (fun _ _ => rfl)) (pa_cons (pe_ix (ix_tupK (K := K) rfl) (pv 1) pe_int (fun _ _ => rfl)) (pa_cons (pe_ix (ix_tupK (K := K) rfl) (pv 2) pe_int (fun _ _ => rfl)) (pa_cons (pe_ix (ix_tupK (K := K) rfl) (pv 2) pe_int (fun _ _ => rfl)) pa_nil))))))) (pss_cons (ps_if (PW.pt (pw_or (pt_cmpR op_isN (pv 3) pe_non (nomark _)) (pw_or1 (pt_cmpR op_isN (pv 4) pe_non (nomark _))))) (pss_one (ps_ret pe_bl)) pss_nil) (pss_cons (ps_set (i := 5) sc_goes_within.nd rfl (Or.inl rfl) (pe_ifExp (pt_val (pe_cal c_is_less (hr.mono (by decide)) rfl pass0 (by exact (pa_cons (pe_ix (ix_tupK (K := K) rfl) (pv 3) pe_int (fun _ _ => rfl)) (pa_cons (pe_ix (ix_tupK (K := K) rfl) (pv 4) pe_int (fun _ _ => rfl)) pa_nil))))) (pe_ix (ix_tupK (K := K) rfl) (pv 4) pe_int (fun _ _ => rfl)) (pe_ix (ix_tupK (K := K) rfl) (pv 3) pe_int (fun _ _ => rfl)))) (pss_cons (ps_set (i := 6) sc_goes_within.nd rfl (Or.inl rfl) (pe_ifExp (pt_val (pe_cal c_is_less (hr.mono (by decide)) rfl pass0 (by exact (pa_cons (pe_ix (ix_tupK (K := K) rfl) (pv 3) pe_int (fun _ _ => rfl)) (pa_cons (pe_ix (ix_tupK (K := K) rfl) (pv 4) pe_int (fun _ _ => rfl)) pa_nil))))) (pe_ix (ix_tupK (K := K) rfl) (pv 3) pe_int (fun _ _ => rfl)) (pe_ix (ix_tupK (K := K) rfl) (pv 4) pe_int (fun _ _ => rfl)))) (pss_one (ps_ret (pe_and (pe_cal c_is_less (hr.mono (by decide)) rfl pass0 (by exact (pa_cons (pv 5) (pa_cons (pv 6) pa_nil)))) (pe_and (pe_cal c_is_less (hr.mono (by decide)) rfl pass0 (by exact (pa_cons (pv 5) (pa_cons (pe_tup (pa_cons pe_int (pa_cons pe_int pa_nil))) pa_nil)))) (pe_one (pe_cal c_is_less (hr.mono (by decide)) rfl pass0 (by exact (pa_cons (pe_tup (pa_cons pe_int (pa_cons pe_int pa_nil))) (pa_cons (pv 6) pa_nil)))))))))))))), ?_⟩
    refine pur_body h fun x H0 hp => ?_
    obtain ⟨p, q, c⟩ := x
    obtain ⟨hv, b1, b2, b3⟩ := hp
    obtain ⟨v1, v2, v3, rfl, h1, h2, h3⟩ := dn3 hv
    simp only [] at b1 b2 b3 h1 h2 h3
    refine bk_asg (R := fun v G => Dn G v (dOp (partWithin p.1 q.1 c.l c.r))) (cp_call (x := (p.1, q.1, c.l, c.r)) (A := fun vs G => DnAll G vs [.int p.1, .int q.1, .int c.l, .int c.r]) (by repeat' walk_at "ed") fun vs G _ z => z) fun w1 G1 e1 k1 => ?_
    replace h1 := h1.mono e1
    replace h2 := h2.mono e1
    replace h3 := h3.mono e1
    refine bk_asg (R := fun v G => Dn G v (dOp (partWithin p.2 q.2 c.b c.t))) (cp_call (x := (p.2, q.2, c.b, c.t)) (A := fun vs G => DnAll G vs [.int p.2, .int q.2, .int c.b, .int c.t]) (by repeat' walk_at "ed") fun vs G _ z => z) fun w2 G2 e2 k2 => ?_
    replace k1 := k1.mono e2
    refine bk_when (b := (partWithin p.1 q.1 c.l c.r).isNone || (partWithin p.2 q.2 c.b c.t).isNone) (et_or (et_is (by repeat' walk_at "ed") (dop_none _)) fun _ => et_is (by repeat' walk_at "ed") (dop_none _)) (fun z => ?_) (fun z => ?_)
    · refine bk_ret (ed_is ed_bl ?_)
      show PyData.bool false = .bool (goesWithin p q c)
      unfold goesWithin
      cases e1 : partWithin p.1 q.1 c.l c.r with
      | none => rfl
      | some o1 =>
        cases e2 : partWithin p.2 q.2 c.b c.t with
        | none => rfl
        | some o2 => rw [e1, e2] at z; cases z
    cases e1 : partWithin p.1 q.1 c.l c.r with
    | none => rw [e1] at z; cases z
    | some o1 =>
      cases e2 : partWithin p.2 q.2 c.b c.t with
      | none => rw [e1, e2] at z; cases z
      | some o2 =>
        rw [e1] at k1
        rw [e2] at k2
        obtain ⟨s1, s2⟩ := part_sm e1 b1.1 b2.1 b3.1 b3.2.2.1
        obtain ⟨s3, s4⟩ := part_sm e2 b1.2 b2.2 b3.2.1 b3.2.2.2
        have g1 : Dn G2 w1 (.tuple [dPt o1.1, dPt o1.2]) := k1
        have g2 : Dn G2 w2 (.tuple [dPt o2.1, dPt o2.2]) := k2
        have L : ∀ {σ H ta tb} {f g : Int × Int}, ED ta σ H (dPt f) → ED tb σ H (dPt g) → SmP 1000 f → SmP 1000 g → ED (tCall (sp_is_less a) [] E0 (tCons ta (tCons tb tNil))) σ H (.bool (isLess f g)) := fun h1 h2 h3 h4 => cp_call (x := (_, _)) (ea_cons h1 (ea_cons h2 ea_nil)) fun vs G _ q => ⟨q, h3, h4⟩
        refine bk_asg (R := fun v G => Dn G v (dPt (first o1 o2))) (ed_if (b := isLess o1.1 o2.1) (et_B (L (by repeat' walk_at "ed") (by repeat' walk_at "ed") s1 s3)) (fun z => ed_is (d1 := dPt o2.1) (by repeat' walk_at "ed") (by unfold first; rw [if_pos z])) (fun z => ed_is (d1 := dPt o1.1) (by repeat' walk_at "ed") (by unfold first; rw [z]; rfl))) fun w3 G3 e3 k3 => ?_
        replace g1 := g1.mono e3
        replace g2 := g2.mono e3
        refine bk_asg (R := fun v G => Dn G v (dPt (last o1 o2))) (ed_if (b := isLess o1.2 o2.2) (et_B (L (by repeat' walk_at "ed") (by repeat' walk_at "ed") s2 s4)) (fun z => ed_is (d1 := dPt o1.2) (by repeat' walk_at "ed") (by unfold last; rw [if_pos z])) (fun z => ed_is (d1 := dPt o2.2) (by repeat' walk_at "ed") (by unfold last; rw [z]; rfl))) fun w4 G4 e4 k4 => ?_
        replace k3 := k3.mono e4
        have s5 : SmP 1000 (first o1 o2) := by unfold first; split <;> assumption
        have s6 : SmP 1000 (last o1 o2) := by unfold last; split <;> assumption
        refine bk_ret (ed_is (d1 := .bool (isLess (first o1 o2) (last o1 o2) && (isLess (first o1 o2) (1, 1) && isLess (0, 1) (last o1 o2)))) (ed_and (L (by walk_at "ed") (by walk_at "ed") s5 s6) fun _ => ed_and (L (by walk_at "ed") (by repeat' walk_at "ed") s5 sm11) fun _ => L (by repeat' walk_at "ed") (by walk_at "ed") sm01 s6) ?_)
        show _ = PyData.bool (goesWithin p q c)
        unfold goesWithin
        rw [e1, e2]
        rfl
def isWithin (p : Int × Int) (c : Bx) : Bool := decide (c.l < p.1) && (decide (p.1 < c.r) && (decide (c.b < p.2) && decide (p.2 < c.t)))
def sp_is_within (_ : Ad) : Sp := Pur (fun (x : (Int × Int) × Bx) vs H => DnAll H vs [dPt x.1, dBx x.2]) fun x v G => Dn G v (.bool (isWithin x.1 x.2))
theorem len_is_within {vs : List V} {H : Hp} {Q : VK} {E : XK} (h : sp_is_within a vs H Q E) : vs.length = 2 := by obtain ⟨_, _, _, h, _⟩ := h; exact h.len
theorem ok_is_within {f : Addr} {fd : FuncData} (F : Fun K "is_within" "is_within" s_is_within f fd) (T : Tx K mg a)  : FnOk P w K mg base CX0 1 f fd ["place", "box"] (sp_is_within a) := by
  refine F.ok sc_is_within (fun vs H Q E h => ?_) (fun cdv A outer s H vs Q E hr h => ?_)
  · exact len_is_within h
  · refine ⟨_, (pss_one (ps_ret (pe_and (pe_cmpR op_lt (pe_ix (ix_tupK (K := K) rfl) (pv 1) pe_int (fun _ _ => rfl)) (pe_ix (ix_tupK (K := K) rfl) (pv 0) pe_int (fun _ _ => rfl)) (nomark _)) (pe_and (pe_cmpR op_lt (pe_ix (ix_tupK (K := K) rfl) (pv 0) pe_int (fun _ _ => rfl)) (pe_ix (ix_tupK (K := K) rfl) (pv 1) pe_int (fun _ _ => rfl)) (nomark _)) (pe_and (pe_cmpR op_lt (pe_ix (ix_tupK (K := K) rfl) (pv 1) pe_int (fun _ _ => rfl)) (pe_ix (ix_tupK (K := K) rfl) (pv 0) pe_int (fun _ _ => rfl)) (nomark _)) (pe_one (pe_cmpR op_lt (pe_ix (ix_tupK (K := K) rfl) (pv 0) pe_int (fun _ _ => rfl)) (pe_ix (ix_tupK (K := K) rfl) (pv 1) pe_int (fun _ _ => rfl)) (nomark _)))))))), ?_⟩
    refine pur_body h fun x H0 hv => ?_
    obtain ⟨v1, v2, rfl, h1, h2⟩ := dn2 hv
    exact bk_ret (ed_and (by repeat' walk_at "ed") fun _ => ed_and (by repeat' walk_at "ed") fun _ => ed_and (by repeat' walk_at "ed") fun _ => (by repeat' walk_at "ed"))
def overlaps (c d : Bx) : Bool := !(decide (c.r ≤ d.l) || decide (d.r ≤ c.l)) && (decide (c.b < d.t) && decide (d.b < c.t))
def sp_overlap (_ : Ad) : Sp := Pur (fun (x : Bx × Bx) vs H => DnAll H vs [dBx x.1, dBx x.2]) fun x v G => Dn G v (.bool (overlaps x.1 x.2))
theorem len_overlap {vs : List V} {H : Hp} {Q : VK} {E : XK} (h : sp_overlap a vs H Q E) : vs.length = 2 := by obtain ⟨_, _, _, h, _⟩ := h; exact h.len
theorem ok_overlap {f : Addr} {fd : FuncData} (F : Fun K "overlap" "overlap" s_overlap f fd) (T : Tx K mg a)  : FnOk P w K mg base CX0 1 f fd ["one", "other"] (sp_overlap a) := by
  refine F.ok sc_overlap (fun vs H Q E h => ?_) (fun cdv A outer s H vs Q E hr h => ?_)
  · exact len_overlap h
  · refine ⟨_, (pss_cons (ps_if (PW.pt (pw_or (pt_cmpR op_le (pe_ix (ix_tupK (K := K) rfl) (pv 0) pe_int (fun _ _ => rfl)) (pe_ix (ix_tupK (K := K) rfl) (pv 1) pe_int (fun _ _ => rfl)) (nomark _)) (pw_or1 (pt_cmpR op_le (pe_ix (ix_tupK (K := K) rfl) (pv 1) pe_int (fun _ _ => rfl)) (pe_ix (ix_tupK (K := K) rfl) (pv 0) pe_int (fun _ _ => rfl)) (nomark _))))) (pss_one (ps_ret pe_bl)) pss_nil) (pss_one (ps_ret (pe_and (pe_cmpR op_lt (pe_ix (ix_tupK (K := K) rfl) (pv 0) pe_int (fun _ _ => rfl)) (pe_ix (ix_tupK (K := K) rfl) (pv 1) pe_int (fun _ _ => rfl)) (nomark _)) (pe_one (pe_cmpR op_lt (pe_ix (ix_tupK (K := K) rfl) (pv 1) pe_int (fun _ _ => rfl)) (pe_ix (ix_tupK (K := K) rfl) (pv 0) pe_int (fun _ _ => rfl)) (nomark _))))))), ?_⟩
    refine pur_body h fun x H0 hv => ?_
    obtain ⟨v1, v2, rfl, h1, h2⟩ := dn2 hv
    refine bk_when (b := decide (x.1.r ≤ x.2.l) || decide (x.2.r ≤ x.1.l)) (et_or (by repeat' walk_at "ed") fun _ => (by repeat' walk_at "ed")) (fun c => ?_) (fun c => ?_)
    · refine bk_ret (ed_is ed_bl ?_)
      unfold overlaps
      rw [c]
      rfl
    refine bk_ret (ed_is (ed_and (by repeat' walk_at "ed") fun _ => (by repeat' walk_at "ed")) ?_)
    unfold overlaps
    rw [c]
    rfl
end
end Md

/-! towns and sheets in the heap -/
namespace Md
open PySem PySem.Spec PyProof.Rows L2
open Evl (Ex)
theorem lk_here {k : Str} {v : V} {r : List (Str × V)} : List.lookup k ((k, v) :: r) = some v := by
  have e : (k == k) = true := beq_self_eq_true k
  simp only [List.lookup, e]
theorem lk_past {k g : Str} {v : V} {r : List (Str × V)} (h : (k == g) = false) : List.lookup k ((g, v) :: r) = List.lookup k r := by
  simp only [List.lookup, h]
theorem put_here {f : Str} {v x : V} {r : List (Str × V)} : putF f v ((f, x) :: r) = (f, v) :: r := if_pos rfl
theorem put_past {f g : Str} {v x : V} {r : List (Str × V)} (h : ¬ g = f) : putF f v ((g, x) :: r) = (g, x) :: putF f v r := if_neg h
/-- the fields of a town, a sheet, a desk -/
def tF (p : V) (T : Uw49.Town) : List (Str × V) := [("place", p), ("wide", .int T.wide), ("high", .int T.high), ("worth", .int T.worth)]
def sF (S : Uw49.Sheet) (p t : V) : List (Str × V) := [("wide", .int S.wide), ("high", .int S.high), ("off", .int S.off), ("points", p), ("towns", t)]
def kF (s : V) : List (Str × V) := [("sheet", s)]
section
variable {p t s : V} {T : Uw49.Town} {S : Uw49.Sheet}
theorem tF_place : (tF p T).lookup ("place" : Str) = some p := lk_here
theorem tF_wide : (tF p T).lookup ("wide" : Str) = some (.int T.wide) := (lk_past (by decide +kernel)).trans lk_here
theorem tF_high : (tF p T).lookup ("high" : Str) = some (.int T.high) := (lk_past (by decide +kernel)).trans ((lk_past (by decide +kernel)).trans lk_here)
theorem tF_worth : (tF p T).lookup ("worth" : Str) = some (.int T.worth) := (lk_past (by decide +kernel)).trans ((lk_past (by decide +kernel)).trans ((lk_past (by decide +kernel)).trans lk_here))
theorem tF_box : (tF p T).lookup ("box" : Str) = none := (lk_past (by decide +kernel)).trans ((lk_past (by decide +kernel)).trans ((lk_past (by decide +kernel)).trans ((lk_past (by decide +kernel)).trans rfl)))
theorem sF_wide : (sF S p t).lookup ("wide" : Str) = some (.int S.wide) := lk_here
theorem sF_high : (sF S p t).lookup ("high" : Str) = some (.int S.high) := (lk_past (by decide +kernel)).trans lk_here
theorem sF_off : (sF S p t).lookup ("off" : Str) = some (.int S.off) := (lk_past (by decide +kernel)).trans ((lk_past (by decide +kernel)).trans lk_here)
theorem sF_points : (sF S p t).lookup ("points" : Str) = some p := (lk_past (by decide +kernel)).trans ((lk_past (by decide +kernel)).trans ((lk_past (by decide +kernel)).trans lk_here))
theorem sF_towns : (sF S p t).lookup ("towns" : Str) = some t := (lk_past (by decide +kernel)).trans ((lk_past (by decide +kernel)).trans ((lk_past (by decide +kernel)).trans ((lk_past (by decide +kernel)).trans lk_here)))
theorem sF_has : (sF S p t).lookup ("has" : Str) = none := (lk_past (by decide +kernel)).trans ((lk_past (by decide +kernel)).trans ((lk_past (by decide +kernel)).trans ((lk_past (by decide +kernel)).trans ((lk_past (by decide +kernel)).trans rfl))))
theorem kF_sheet : (kF s).lookup ("sheet" : Str) = some s := lk_here
end
def TownAt (a : Ad) (T : Uw49.Town) (v : V) (H : Hp) : Prop := ∃ q dx pv, v = .ref q ∧ H q = some (.ins a.town dx (tF pv T)) ∧ Dn H pv (dPt ((T.x : Int), (T.y : Int)))
abbrev dPts (ps : List (Nat × Nat)) : Dt := .list (ps.map fun p => dPt ((p.1 : Int), (p.2 : Int)))
def SheetAt (a : Ad) (S : Uw49.Sheet) (v : V) (H : Hp) : Prop := ∃ q dx pv tv, v = .ref q ∧ H q = some (.ins a.sheet dx (sF S pv tv)) ∧ Dn H pv (dPts S.points) ∧ Ls (TownAt a) S.towns tv H
theorem mono_town {a : Ad} (T : Uw49.Town) : Mono (TownAt a T) := fun v G G' e ⟨q, dx, pv, h1, h2, h3⟩ => ⟨q, dx, pv, h1, e _ _ h2, h3.mono e⟩
theorem mono_sheet {a : Ad} (S : Uw49.Sheet) : Mono (SheetAt a S) := fun v G G' e ⟨q, dx, pv, tv, h1, h2, h3, h4⟩ => ⟨q, dx, pv, tv, h1, e _ _ h2, h3.mono e, mono_ls mono_town _ _ _ e h4⟩
/-- what the sheets of this program are -/
structure Wf (S : Uw49.Sheet) : Prop where
  w1 : 1 ≤ S.wide
  w2 : S.wide ≤ 60
  h1 : 1 ≤ S.high
  h2 : S.high ≤ 60
  o : S.off ≤ 10000
  p1 : 2 ≤ S.points.length
  p2 : S.points.length ≤ 7
  pts : ∀ p ∈ S.points, p.1 ≤ S.wide ∧ p.2 ≤ S.high
  t : S.towns.length ≤ 4
  tw : ∀ T ∈ S.towns, T.x ≤ S.wide ∧ T.y ≤ S.high ∧ 1 ≤ T.wide ∧ T.wide ≤ 60 ∧ 1 ≤ T.high ∧ T.high ≤ 60 ∧ T.worth ≤ 1000
section
variable {K : PySem.W.Frag} {σ : L2.St} {H : Hp} {to ta tb : TE} {a : Ad}
theorem cp_fld {O R : V → Hp → Prop} {f : Str} {C : Addr} (c : Cls K C) (n : NoAttr K C f) (h : CP (to σ) H O) (hf : ∀ v G, O v G → ∃ q dx fs w, v = .ref q ∧ G q = some (.ins C dx fs) ∧ fs.lookup f = some w ∧ R w G) : CP (tFld K to f σ) H R :=
  CP.bind (k := fun (x : V) (H1 : Hp) (Q : VK) => ∃ a C dx fs v, x = .ref a ∧ H1 a = some (.ins C dx fs) ∧ Cls K C ∧ NoAttr K C f ∧ fs.lookup f = some v ∧ Q v H1) h fun v G _ hv H1 e Q q => by
    obtain ⟨p, dx, fs, w, rfl, h1, h2, h3⟩ := hf v G hv
    exact ⟨p, C, dx, fs, w, rfl, e _ _ h1, c, n, h2, q _ _ _ (Ext.refl e) h3⟩
theorem cp_ixLs {β : Type} {D : β → V → Hp → Prop} {bs : List β} {b : β} {k : Nat} (mD : ∀ b, Mono (D b)) (ha : CP (ta σ) H (Ls D bs)) (hb : ED tb σ H (.int (k : Int))) (h : bs[k]? = some b) : CP (tOp (rIxL K) ta tb σ) H (D b) :=
  CP.bind2 (k := fun x y => rIxL K x y) (R := fun v G => Dn G v (.int (k : Int))) (mono_ls mD) mono_dn ha hb fun x y G _ hx hy => by
    obtain ⟨p, xs, rfl, h1, h2⟩ := hx
    obtain ⟨v, h3, h4⟩ := h2.at h
    rw [dn_int hy]
    exact fun H1 e Q q => ⟨p, xs, k, v, rfl, rfl, SqL.of (e _ _ h1), atI_nat h3, q _ _ _ (Ext.refl e) h4⟩
theorem ed_lenLs {β : Type} {D : β → V → Hp → Prop} {bs : List β} (mD : ∀ b, Mono (D b)) (h : CP (ta σ) H (Ls D bs)) : ED (tCB (fun xs H Q => ∃ p ys, xs = [.ref p] ∧ (SqL K H p ys ∨ SqT K H p ys) ∧ Q (.int ys.length) H) (tCons ta tNil)) σ H (.int (bs.length : Int)) :=
  CP.bind (k := fun (x : V) (H1 : Hp) (Q : VK) => ∃ p ys, [x] = [.ref p] ∧ (SqL K H1 p ys ∨ SqT K H1 p ys) ∧ Q (.int ys.length) H1) h fun v G _ hv H1 e Q q => by
    obtain ⟨p, xs, rfl, h1, h2⟩ := hv
    refine ⟨p, xs, rfl, .inl (SqL.of (e _ _ h1)), q _ _ _ (Ext.refl e) ?_⟩
    rw [h2.len]
    exact .int _
variable {mg : Str → Option Value} {S : Uw49.Sheet} {T : Uw49.Town}
theorem ed_twide (X : Tx K mg a) (h : CP (to σ) H (TownAt a T)) : ED (tFld K to "wide") σ H (.int T.wide) := cp_fld X.cT X.nT_wide h fun v G ⟨q, dx, pv, h1, h2, h3⟩ => ⟨q, dx, _, _, h1, h2, tF_wide, .int _⟩
theorem ed_thigh (X : Tx K mg a) (h : CP (to σ) H (TownAt a T)) : ED (tFld K to "high") σ H (.int T.high) := cp_fld X.cT X.nT_high h fun v G ⟨q, dx, pv, h1, h2, h3⟩ => ⟨q, dx, _, _, h1, h2, tF_high, .int _⟩
theorem ed_tworth (X : Tx K mg a) (h : CP (to σ) H (TownAt a T)) : ED (tFld K to "worth") σ H (.int T.worth) := cp_fld X.cT X.nT_worth h fun v G ⟨q, dx, pv, h1, h2, h3⟩ => ⟨q, dx, _, _, h1, h2, tF_worth, .int _⟩
theorem ed_tplace (X : Tx K mg a) (h : CP (to σ) H (TownAt a T)) : ED (tFld K to "place") σ H (dPt ((T.x : Int), (T.y : Int))) := cp_fld X.cT X.nT_place h fun v G ⟨q, dx, pv, h1, h2, h3⟩ => ⟨q, dx, _, _, h1, h2, tF_place, h3⟩
theorem ed_swide (X : Tx K mg a) (h : CP (to σ) H (SheetAt a S)) : ED (tFld K to "wide") σ H (.int S.wide) := cp_fld X.cS X.nS_wide h fun v G ⟨q, dx, pv, tv, h1, h2, h3, h4⟩ => ⟨q, dx, _, _, h1, h2, sF_wide, .int _⟩
theorem ed_shigh (X : Tx K mg a) (h : CP (to σ) H (SheetAt a S)) : ED (tFld K to "high") σ H (.int S.high) := cp_fld X.cS X.nS_high h fun v G ⟨q, dx, pv, tv, h1, h2, h3, h4⟩ => ⟨q, dx, _, _, h1, h2, sF_high, .int _⟩
theorem ed_soff (X : Tx K mg a) (h : CP (to σ) H (SheetAt a S)) : ED (tFld K to "off") σ H (.int S.off) := cp_fld X.cS X.nS_off h fun v G ⟨q, dx, pv, tv, h1, h2, h3, h4⟩ => ⟨q, dx, _, _, h1, h2, sF_off, .int _⟩
theorem ed_spoints (X : Tx K mg a) (h : CP (to σ) H (SheetAt a S)) : ED (tFld K to "points") σ H (dPts S.points) := cp_fld X.cS X.nS_points h fun v G ⟨q, dx, pv, tv, h1, h2, h3, h4⟩ => ⟨q, dx, _, _, h1, h2, sF_points, h3⟩
theorem cp_stowns (X : Tx K mg a) (h : CP (to σ) H (SheetAt a S)) : CP (tFld K to "towns" σ) H (Ls (TownAt a) S.towns) := cp_fld X.cS X.nS_towns h fun v G ⟨q, dx, pv, tv, h1, h2, h3, h4⟩ => ⟨q, dx, _, _, h1, h2, sF_towns, h4⟩
theorem cp_town {tk : TE} {k : Nat} (X : Tx K mg a) (h : CP (to σ) H (SheetAt a S)) (hk : ED tk σ H (.int (k : Int))) (hl : k < S.towns.length) : CP (tOp (rIxL K) (tFld K to "towns") tk σ) H (TownAt a (S.town k)) :=
  cp_ixLs mono_town (cp_stowns X h) hk (by
    unfold Uw49.Sheet.town
    rw [List.getD_eq_getElem?_getD, List.getElem?_eq_getElem hl]
    rfl)
theorem town_mem {k : Nat} (hl : k < S.towns.length) : S.town k ∈ S.towns := by
  unfold Uw49.Sheet.town
  rw [List.getD_eq_getElem?_getD, List.getElem?_eq_getElem hl]
  exact List.getElem_mem hl
theorem ed_spt {tk : TE} {k : Nat} (X : Tx K mg a) (h : CP (to σ) H (SheetAt a S)) (hk : ED tk σ H (.int (k : Int))) (hl : k < S.points.length) : ED (tOp (rIxL K) (tFld K to "points") tk) σ H (dPt (S.pt k)) :=
  ed_ixL (ed_spoints X h) hk (atI_nat (by
    rw [List.getElem?_map, List.getElem?_eq_getElem hl]
    unfold Uw49.Sheet.pt
    rw [List.getD_eq_getElem?_getD, List.getElem?_eq_getElem hl]
    rfl))
end
/-- the box of a name, in the program's order -/
def bxOf (T : Uw49.Town) (k : Nat) : Bx := ⟨(Uw49.boxOf T k).l, (Uw49.boxOf T k).b, (Uw49.boxOf T k).r, (Uw49.boxOf T k).t⟩
theorem bxOf_eq (T : Uw49.Town) {k : Nat} (hk : k < 4) : bxOf T k = (let left : Int := if (k : Int) ∈ [0, 3] then (T.x : Int) else (T.x : Int) - T.wide
  let low : Int := if (k : Int) ∈ [0, 1] then (T.y : Int) else (T.y : Int) - T.high
  ⟨left, low, left + T.wide, low + T.high⟩) := by
  have h4 : k = 0 ∨ k = 1 ∨ k = 2 ∨ k = 3 := by omega
  rcases h4 with rfl | rfl | rfl | rfl <;> simp [bxOf, Uw49.boxOf] <;> omega
theorem bxOf_sm {S : Uw49.Sheet} (w : Wf S) {T : Uw49.Town} (hT : T ∈ S.towns) (k : Nat) : SmB (bxOf T k) := by
  obtain ⟨h1, h2, h3, h4, h5, h6, _⟩ := w.tw T hT
  have := w.w2
  have := w.h2
  unfold SmB Sm bxOf Uw49.boxOf
  simp only []
  refine ⟨?_, ?_, ?_, ?_⟩ <;> split <;> omega
theorem bxOf_lt {S : Uw49.Sheet} (w : Wf S) {T : Uw49.Town} (hT : T ∈ S.towns) (k : Nat) : (bxOf T k).l < (bxOf T k).r ∧ (bxOf T k).b < (bxOf T k).t := by
  obtain ⟨h1, h2, h3, h4, h5, h6, _⟩ := w.tw T hT
  unfold bxOf Uw49.boxOf
  simp only []
  refine ⟨?_, ?_⟩ <;> split <;> omega
theorem over_eq (c d : Uw49.Box) : overlaps ⟨c.l, c.b, c.r, c.t⟩ ⟨d.l, d.b, d.r, d.t⟩ = Uw49.over c d := by
  unfold overlaps Uw49.over
  rw [Bool.eq_iff_iff]
  simp only [Bool.and_eq_true, Bool.not_eq_true', Bool.or_eq_false_iff, decide_eq_false_iff_not, decide_eq_true_eq]
  omega
theorem pt_sm {S : Uw49.Sheet} (w : Wf S) (k : Nat) : SmP 200 (S.pt k) := by
  have w2 := w.w2
  have h2 := w.h2
  unfold SmP Sm Uw49.Sheet.pt
  simp only []
  by_cases hk : k < S.points.length
  · have hm : S.points.getD k (0, 0) ∈ S.points := by
      rw [List.getD_eq_getElem?_getD, List.getElem?_eq_getElem hk]
      exact List.getElem_mem hk
    have := w.pts _ hm
    omega
  · have : S.points.getD k (0, 0) = (0, 0) := by rw [List.getD_eq_getElem?_getD, List.getElem?_eq_none (by omega)]; rfl
    rw [this]
    simp
theorem sm_up {p : Int × Int} (h : SmP 200 p) : SmP 1000 p := by unfold SmP Sm at *; omega
end Md

namespace Md
open PySem PySem.Spec PyProof.Rows L2
open Evl (Ex)
local macro_rules | `(tactic| walk_at "ed") => `(tactic| first
  | with_reducible exact ed_int | with_reducible exact ed_bl | with_reducible exact ed_non
  | ((with_reducible show ED (tVar _) _ _ _); refine ed_var rfl ?_; first | assumption | exact Dn.int _ | exact Dn.bl _)
  | ((with_reducible show CP (tVar _ _) _ _); refine cp_var rfl ?_; assumption)
  | with_reducible apply ed_add | with_reducible apply ed_sub | with_reducible apply ed_mul
  | with_reducible apply ed_lt | with_reducible apply ed_le | with_reducible apply ed_gt | with_reducible apply ed_ge
  | with_reducible apply ed_eq | with_reducible apply ed_ne | with_reducible apply ed_neg | with_reducible apply ed_isN | with_reducible apply ed_notN
  | ((with_reducible apply ed_swide); assumption) | ((with_reducible apply ed_shigh); assumption) | ((with_reducible apply ed_soff); assumption) | ((with_reducible apply ed_spoints); assumption)
  | ((with_reducible apply ed_twide); assumption) | ((with_reducible apply ed_thigh); assumption) | ((with_reducible apply ed_tworth); assumption) | ((with_reducible apply ed_tplace); assumption)
  | ((with_reducible apply cp_stowns); assumption)
  | with_reducible apply ed_ixT | with_reducible apply ed_ixL | with_reducible exact at_0 | with_reducible exact at_1 | with_reducible exact at_2 | with_reducible exact at_3 | with_reducible exact at_4
  | with_reducible apply ed_tup | with_reducible apply ed_lst | ((with_reducible show List.length _ ≤ 100000); exact Nat.le_of_ble_eq_true rfl)
  | with_reducible exact ea_nil | with_reducible apply ea_cons
  | with_reducible apply et_test | with_reducible apply et_B)
theorem cp_pairD {K : PySem.W.Frag} {σ : L2.St} {H : Hp} {i j : Nat} {v : V} {d1 d2 : Dt} {P : L2.St → Hp → Prop} (hv : Dn H v (.tuple [d1, d2])) (h : ∀ x1 x2, Dn H x1 d1 → Dn H x2 d2 → P ((σ.set i (some x1)).set j (some x2)) H) : CP (gTup K 2 (gCons (gName i) (gCons (gName j) gNil)) v σ) H P := by
  obtain ⟨T, xs, rfl, h1, h2⟩ := dn_tup hv
  obtain ⟨x1, x2, rfl, h3, h4⟩ := dn2 h2
  exact cp_pair h1 (h x1 x2 h3 h4)
abbrev dNs (l : List Nat) : Dt := .list (l.map fun (n : Nat) => PyData.int (n : Int))
def dOpt : Option Nat → Dt
  | none => .none
  | some k => .int (k : Int)
theorem et_yes {σ : L2.St} {H : Hp} : ET tYes σ H true := CP.ret rfl
theorem map_bools {β : Type} (l : List β) (f : β → Bool) : ((l.filter fun _ => true).map fun b => PyData.bool (f b)) = (l.map f).map PyData.bool := by
  rw [List.filter_eq_self.mpr (fun _ _ => rfl), List.map_map]
  rfl
theorem any_id {β : Type} (l : List β) (f : β → Bool) : (l.map f).any id = l.any f := by rw [List.any_map]; rfl
theorem all_id {β : Type} (l : List β) (f : β → Bool) : (l.map f).all id = l.all f := by rw [List.all_map]; rfl
theorem not_four (n : Nat) : (!decide ((n : Int) = 4)) = (n != 4) := by
  by_cases h : n = 4
  · subst h; rfl
  · have : ¬ (n : Int) = 4 := by omega
    simp [h, this]
section
variable {P : Program} {w : World} {K : PySem.W.Frag} {mg : Str → Option Value} {base : Heap} {a : Ad}
def sp_Town_init (a : Ad) : Sp := fun vs H Q _ => ∃ q dx pv T, vs = [.ref q, pv, .int (T : Uw49.Town).wide, .int T.high, .int T.worth] ∧ H q = some (.ins a.town dx []) ∧
  ∀ H' : Hp, H' q = some (.ins a.town dx (tF pv T)) → (∀ b o, H b = some o → b ≠ q → H' b = some o) → Q .non H'
theorem len_Town_init {vs : List V} {H : Hp} {Q : VK} {E : XK} (h : sp_Town_init a vs H Q E) : vs.length = 5 := by obtain ⟨_, _, _, _, h, _⟩ := h; rw [h]; rfl
theorem ok_Town_init {f : Addr} {fd : FuncData} (F : Fun K "__init__" "Town.__init__" s_Town_init f fd) (T : Tx K mg a)  : FnOk P w K mg base CX0 1 f fd ["self", "place", "wide", "high", "worth"] (sp_Town_init a) := by
  refine F.ok sc_Town_init (fun vs H Q E h => ?_) (fun cdv A outer s H vs Q E hr h => ?_)
  · exact len_Town_init h
  · refine ⟨_, (pss_cons (ps_fld (pv 0) (pv 1) rfl) (pss_cons (ps_fld (pv 0) (pv 2) rfl) (pss_cons (ps_fld (pv 0) (pv 3) rfl) (pss_one (ps_fld (pv 0) (pv 4) rfl))))), ?_⟩
    obtain ⟨q, dx, pv, t, rfl, hq, k⟩ := h
    refine ⟨_, rfl, _, rfl, q, _, dx, [], rfl, hq, T.cT, T.nT_place, (by show 0 < 1000; decide), ?_⟩
    refine ⟨_, rfl, _, rfl, q, _, dx, _, rfl, upd_same, T.cT, T.nT_wide, (by show 1 < 1000; decide), ?_⟩
    refine ⟨_, rfl, _, rfl, q, _, dx, _, rfl, upd_same, T.cT, T.nT_high, (by show 2 < 1000; decide), ?_⟩
    refine ⟨_, rfl, _, rfl, q, _, dx, _, rfl, upd_same, T.cT, T.nT_worth, (by show 3 < 1000; decide), ?_⟩
    refine k _ (Eq.trans upd_same (congrArg (fun z => some (HO.ins a.town dx z)) ?_)) fun b o e hb => ?_
    · refine Eq.trans (put_past (by decide +kernel)) ?_
      refine congrArg _ (Eq.trans (put_past (by decide +kernel)) ?_)
      refine congrArg _ (Eq.trans (put_past (by decide +kernel)) ?_)
      rfl
    · rw [upd_ne hb, upd_ne hb, upd_ne hb, upd_ne hb]
      exact e
def sp_Town_box (a : Ad) : Sp := Pur (fun (x : Uw49.Town × Nat) vs H => ∃ v, vs = [v, .int (x.2 : Int)] ∧ TownAt a x.1 v H ∧ x.2 < 4) fun x v G => Dn G v (dBx (bxOf x.1 x.2))
theorem len_Town_box {vs : List V} {H : Hp} {Q : VK} {E : XK} (h : sp_Town_box a vs H Q E) : vs.length = 2 := by obtain ⟨_, _, _, ⟨_, h, _⟩, _⟩ := h; rw [h]; rfl
theorem ok_Town_box {f : Addr} {fd : FuncData} (F : Fun K "box" "Town.box" s_Town_box f fd) (T : Tx K mg a)  : FnOk P w K mg base CX0 1 f fd ["self", "corner"] (sp_Town_box a) := by
  refine F.ok sc_Town_box (fun vs H Q E h => ?_) (fun cdv A outer s H vs Q E hr h => ?_)
  · exact len_Town_box h
  · refine ⟨_, (pss_cons (ps_asg (pe_fldK (K := K) rfl (pv 0) rfl) (pg_tupK (K := K) rfl rfl (pgs_cons (pg_name (i := 2) sc_Town_box.nd rfl (Or.inl rfl)) (pgs_cons (pg_name (i := 3) sc_Town_box.nd rfl (Or.inl rfl)) pgs_nil)))) (pss_cons (ps_set (i := 4) sc_Town_box.nd rfl (Or.inl rfl) (pe_ifExp (pt_cmpR (in_seqK (K := K) rfl) (pv 1) (pe_tup (pa_cons pe_int (pa_cons pe_int pa_nil))) (by rfl)) (pv 2) (pe_op op_sub (pv 2) (pe_fldK (K := K) rfl (pv 0) rfl)))) (pss_cons (ps_set (i := 5) sc_Town_box.nd rfl (Or.inl rfl) (pe_ifExp (pt_cmpR (in_seqK (K := K) rfl) (pv 1) (pe_tup (pa_cons pe_int (pa_cons pe_int pa_nil))) (by rfl)) (pv 3) (pe_op op_sub (pv 3) (pe_fldK (K := K) rfl (pv 0) rfl)))) (pss_one (ps_ret (pe_tup (pa_cons (pv 4) (pa_cons (pv 5) (pa_cons (pe_op op_add (pv 4) (pe_fldK (K := K) rfl (pv 0) rfl)) (pa_cons (pe_op op_add (pv 5) (pe_fldK (K := K) rfl (pv 0) rfl)) pa_nil)))))))))), ?_⟩
    refine pur_body h fun x H0 hp => ?_
    obtain ⟨t, n⟩ := x
    obtain ⟨v, rfl, ht, hn⟩ := hp
    simp only [] at ht hn
    refine bk_seq (M := fun σ' G => σ' = [some v, some (.int (n : Int)), some (.int (t.x : Int)), some (.int (t.y : Int)), none, none]) (bk_asgG (R := fun v G => Dn G v (dPt ((t.x : Int), (t.y : Int)))) (by repeat' walk_at "ed") fun w G _ hw => cp_pairD hw fun x1 x2 h1 h2 => by
      rw [dn_int h1, dn_int h2]; rfl) fun σ' G e hσ => ?_
    subst hσ
    replace ht := mono_town _ _ _ _ e ht
    refine bk_asgI (n := if (n : Int) ∈ [0, 3] then (t.x : Int) else (t.x : Int) - t.wide) (ed_if (b := decide ((n : Int) ∈ ([0, 3] : List Int))) (et_test (ed_inT (by walk_at "ed") (show ED _ _ _ (.tuple [.int 0, .int 3]) from by repeat' walk_at "ed"))) (fun c => ed_is (d1 := .int (t.x : Int)) (by walk_at "ed") (by rw [if_pos (of_decide_eq_true c)])) (fun c => ed_is (d1 := .int ((t.x : Int) - t.wide)) (by repeat' walk_at "ed") (by rw [if_neg (of_decide_eq_false c)]))) ?_
    refine bk_asgI (n := if (n : Int) ∈ [0, 1] then (t.y : Int) else (t.y : Int) - t.high) (ed_if (b := decide ((n : Int) ∈ ([0, 1] : List Int))) (et_test (ed_inT (by walk_at "ed") (show ED _ _ _ (.tuple [.int 0, .int 1]) from by repeat' walk_at "ed"))) (fun c => ed_is (d1 := .int (t.y : Int)) (by walk_at "ed") (by rw [if_pos (of_decide_eq_true c)])) (fun c => ed_is (d1 := .int ((t.y : Int) - t.high)) (by repeat' walk_at "ed") (by rw [if_neg (of_decide_eq_false c)]))) ?_
    refine bk_ret (?_ : ED _ _ _ (dBx (bxOf t n)))
    rw [bxOf_eq t hn]
    exact ed_tup (ea_cons (by walk_at "ed") (ea_cons (by walk_at "ed") (ea_cons (by repeat' walk_at "ed") (ea_cons (by repeat' walk_at "ed") ea_nil)))) (Nat.le_of_ble_eq_true rfl)
def sp_fits (a : Ad) : Sp := Pur (fun (x : Uw49.Sheet × Nat × Nat) vs H => ∃ v, vs = [v, .int (x.2.1 : Int), .int (x.2.2 : Int)] ∧ SheetAt a x.1 v H ∧ Wf x.1 ∧ x.2.1 < x.1.towns.length ∧ x.2.2 < 4) fun x v G => Dn G v (.bool (x.1.fits x.2.1 x.2.2))
theorem len_fits {vs : List V} {H : Hp} {Q : VK} {E : XK} (h : sp_fits a vs H Q E) : vs.length = 3 := by obtain ⟨_, _, _, ⟨_, h, _⟩, _⟩ := h; rw [h]; rfl
theorem cp_box {σ : L2.St} {H : Hp} {to tk : TE} {t : Uw49.Town} {n : Nat} (ho : CP (to σ) H (TownAt a t)) (hk : ED tk σ H (.int (n : Int))) (hn : n < 4) : ED (tMeth a.town "box" (sp_Town_box a) [] E0 to (tCons tk tNil)) σ H (dBx (bxOf t n)) :=
  cp_meth (x := (t, n)) (A := fun vs G => DnAll G vs [.int (n : Int)]) (mono_town t) mono_all ho (fun v G ⟨q, dx, pv, h1, h2, h3⟩ => ⟨q, dx, _, h1, h2, tF_box⟩) (ea_cons hk ea_nil) fun v vs G _ hO hA => by
    obtain ⟨v1, rfl, h1⟩ := dn1 hA
    rw [dn_int h1]
    exact ⟨v, rfl, hO, hn⟩
theorem ok_fits {f : Addr} {fd : FuncData} (F : Fun K "fits" "fits" s_fits f fd) (T : Tx K mg a) (c_Town_box : MCal P w K mg base CX0 1 a.town "box" ["self", "corner"] (sp_Town_box a)) (c_is_within : Cal P w K mg base CX0 1 "is_within" ["place", "box"] (sp_is_within a)) : FnOk P w K mg base CX0 2 f fd ["sheet", "k", "corner"] (sp_fits a) := by
  refine F.ok sc_fits (fun vs H Q E h => ?_) (fun cdv A outer s H vs Q E hr h => ?_)
  · exact len_fits h
  · refine ⟨_, (pss_cons (ps_set (i := 3) sc_fits.nd rfl (Or.inr rfl) (pe_mt c_Town_box (by exact (pe_ix (ix_listK (K := K) rfl) (pe_fldK (K := K) rfl (pv 0) rfl) (pv 1) (fun _ _ => rfl))) (hr.mono (by decide)) pass0 (by exact (pa_cons (pv 2) pa_nil)))) (pss_cons (ps_if (PW.pt (pw_or (pt_cmpR op_lt (pe_ix (ix_tupK (K := K) rfl) (pv 3) pe_int (fun _ _ => rfl)) pe_int (nomark _)) (pw_or (pt_cmpR op_lt (pe_ix (ix_tupK (K := K) rfl) (pv 3) pe_int (fun _ _ => rfl)) pe_int (nomark _)) (pw_or (pt_cmpR op_gt (pe_ix (ix_tupK (K := K) rfl) (pv 3) pe_int (fun _ _ => rfl)) (pe_fldK (K := K) rfl (pv 0) rfl) (nomark _)) (pw_or1 (pt_cmpR op_gt (pe_ix (ix_tupK (K := K) rfl) (pv 3) pe_int (fun _ _ => rfl)) (pe_fldK (K := K) rfl (pv 0) rfl) (nomark _))))))) (pss_one (ps_ret pe_bl)) pss_nil) (pss_one (ps_ret (pe_not (pe_callB (cr_any rfl) rfl T.b_any (by decide +kernel) (pa_cons (pe_lc (own := [("town", 4)]) rfl sc_fits.nd (pi_list (pe_fldK (K := K) rfl (pv 0) rfl)) (blkOk_by (own := [("town", 4)]) (N := ["sheet", "k", "corner", "box", "town"]) (sc := defScope s_fits) (by decide +kernel)) (by intros; exact (pg_name (i := 4) sc_fits.nd rfl (Or.inl rfl))) (by intros; exact pts_nil) (by intros; exact (pe_cal c_is_within (hr.mono (by decide)) rfl pass0 (by exact (pa_cons (pe_fldK (K := K) rfl (pv 4) rfl) (pa_cons (pv 3) pa_nil)))))) pa_nil))))))), ?_⟩
    refine pur_body h fun x H0 hp => ?_
    obtain ⟨S, n, c⟩ := x
    obtain ⟨v, rfl, hS, wf, hn, hc⟩ := hp
    simp only [] at hS wf hn hc
    refine bk_asg (R := fun v G => Dn G v (dBx (bxOf (S.town n) c))) (cp_box (cp_town T (by walk_at "ed") (by walk_at "ed") hn) (by walk_at "ed") hc) fun w G e hw => ?_
    replace hS := mono_sheet _ _ _ _ e hS
    refine bk_when (b := decide ((bxOf (S.town n) c).l < 0) || (decide ((bxOf (S.town n) c).b < 0) || (decide ((S.wide : Int) < (bxOf (S.town n) c).r) || decide ((S.high : Int) < (bxOf (S.town n) c).t)))) (et_or (by repeat' walk_at "ed") fun _ => et_or (by repeat' walk_at "ed") fun _ => et_or (by repeat' walk_at "ed") fun _ => (by repeat' walk_at "ed")) (fun q => ?_) (fun q => ?_)
    · refine bk_ret (ed_is ed_bl ?_)
      show PyData.bool false = .bool (S.fits n c)
      refine congrArg PyData.bool ?_
      unfold Uw49.Sheet.fits Uw49.Sheet.inside
      simp only [Bool.or_eq_true, decide_eq_true_eq] at q
      unfold bxOf at q
      simp only [] at q
      cases hz : (decide (0 ≤ (Uw49.boxOf (S.town n) c).l) && (decide ((Uw49.boxOf (S.town n) c).r ≤ (S.wide : Int)) && (decide (0 ≤ (Uw49.boxOf (S.town n) c).b) && decide ((Uw49.boxOf (S.town n) c).t ≤ (S.high : Int))))) with
      | false => simp
      | true =>
        simp only [Bool.and_eq_true, decide_eq_true_eq] at hz
        omega
    · refine bk_ret (ed_is (ed_not (ed_any (bs := S.towns.map fun (t : Uw49.Town) => isWithin ((t.x : Int), (t.y : Int)) (bxOf (S.town n) c)) (ed_is (ed_lc (D := TownAt a) (items := S.towns) (fun _ => true) (fun t => .bool (isWithin ((t.x : Int), (t.y : Int)) (bxOf (S.town n) c))) (src_ls mono_town (by repeat' walk_at "ed")) (by have := wf.t; omega) fun t x G1 _ e1 ht => cp_name ⟨rfl, et_yes, fun _ => ?_⟩) (congrArg PyData.list (map_bools _ _))))) ?_)
      · have hw1 := hw.mono e1
        exact cp_call (x := (((t.x : Int), (t.y : Int)), bxOf (S.town n) c)) (A := fun vs G => DnAll G vs [dPt ((t.x : Int), (t.y : Int)), dBx (bxOf (S.town n) c)]) (by repeat' walk_at "ed") fun vs G _ z => z
      · show _ = PyData.bool (S.fits n c)
        refine congrArg PyData.bool ?_
        rw [any_id]
        unfold Uw49.Sheet.fits Uw49.Sheet.inside
        simp only [Bool.or_eq_false_iff, decide_eq_false_iff_not] at q
        unfold bxOf at q ⊢
        simp only [] at q
        have e1 : decide (c < 4) = true := decide_eq_true hc
        have e2 : (decide (0 ≤ (Uw49.boxOf (S.town n) c).l) && (decide ((Uw49.boxOf (S.town n) c).r ≤ (S.wide : Int)) && (decide (0 ≤ (Uw49.boxOf (S.town n) c).b) && decide ((Uw49.boxOf (S.town n) c).t ≤ (S.high : Int))))) = true := by
          simp only [Bool.and_eq_true, decide_eq_true_eq]; omega
        rw [e1, e2, Bool.true_and, Bool.true_and]
        rw [List.not_any_eq_all_not]
        rfl
def sp_clash (a : Ad) : Sp := Pur (fun (x : Uw49.Sheet × Nat × Nat × Nat × Nat) vs H => ∃ v, vs = [v, .int (x.2.1 : Int), .int (x.2.2.1 : Int), .int (x.2.2.2.1 : Int), .int (x.2.2.2.2 : Int)] ∧ SheetAt a x.1 v H ∧ x.2.1 < x.1.towns.length ∧ x.2.2.1 < 4 ∧ x.2.2.2.1 < x.1.towns.length ∧ x.2.2.2.2 < 4) fun x v G => Dn G v (.bool (x.1.clash x.2.1 x.2.2.1 x.2.2.2.1 x.2.2.2.2))
theorem len_clash {vs : List V} {H : Hp} {Q : VK} {E : XK} (h : sp_clash a vs H Q E) : vs.length = 5 := by obtain ⟨_, _, _, ⟨_, h, _⟩, _⟩ := h; rw [h]; rfl
theorem ok_clash {f : Addr} {fd : FuncData} (F : Fun K "clash" "clash" s_clash f fd) (T : Tx K mg a) (c_overlap : Cal P w K mg base CX0 1 "overlap" ["one", "other"] (sp_overlap a)) (c_Town_box : MCal P w K mg base CX0 1 a.town "box" ["self", "corner"] (sp_Town_box a)) : FnOk P w K mg base CX0 2 f fd ["sheet", "k", "corner", "other", "other_corner"] (sp_clash a) := by
  refine F.ok sc_clash (fun vs H Q E h => ?_) (fun cdv A outer s H vs Q E hr h => ?_)
  · exact len_clash h
  · refine ⟨_, (pss_one (ps_ret (pe_cal c_overlap (hr.mono (by decide)) rfl pass0 (by exact (pa_cons (pe_mt c_Town_box (by exact (pe_ix (ix_listK (K := K) rfl) (pe_fldK (K := K) rfl (pv 0) rfl) (pv 1) (fun _ _ => rfl))) (hr.mono (by decide)) pass0 (by exact (pa_cons (pv 2) pa_nil))) (pa_cons (pe_mt c_Town_box (by exact (pe_ix (ix_listK (K := K) rfl) (pe_fldK (K := K) rfl (pv 0) rfl) (pv 3) (fun _ _ => rfl))) (hr.mono (by decide)) pass0 (by exact (pa_cons (pv 4) pa_nil))) pa_nil)))))), ?_⟩
    refine pur_body h fun x H0 hp => ?_
    obtain ⟨S, i, k, j, m⟩ := x
    obtain ⟨v, rfl, hS, h1, h2, h3, h4⟩ := hp
    simp only [] at hS h1 h2 h3 h4
    refine bk_ret (CP.imp (cp_call (x := (bxOf (S.town i) k, bxOf (S.town j) m)) (A := fun vs G => DnAll G vs [dBx (bxOf (S.town i) k), dBx (bxOf (S.town j) m)]) (ea_cons (cp_box (cp_town T (by walk_at "ed") (by walk_at "ed") h1) (by walk_at "ed") h2) (ea_cons (cp_box (cp_town T (by walk_at "ed") (by walk_at "ed") h3) (by walk_at "ed") h4) ea_nil)) fun vs G _ z => z) fun v G _ z => ?_)
    have e := over_eq (Uw49.boxOf (S.town i) k) (Uw49.boxOf (S.town j) m)
    have z' : Dn G v (.bool (overlaps (bxOf (S.town i) k) (bxOf (S.town j) m))) := z
    unfold bxOf at z'
    rw [e] at z'
    exact z'
end
end Md

/-! more sources, loops whose state lies in the heap -/
namespace Md
open PySem PySem.Spec PyProof.Rows L2
open Evl (Ex)
theorem src_map {β γ : Type} {wi : TI} {σ : L2.St} {H : Hp} {l : List β} {f : β → γ} {D : γ → V → Hp → Prop} (h : Src wi σ H (l.map f) D) : Src wi σ H l fun b => D (f b) := h.imp fun J G _ hw => by
  obtain ⟨Gp, Y, w, h1, h2⟩ := hw
  rw [List.length_map] at w h2
  refine ⟨Gp, Y, w, h1, fun i x H' H'' hi e y => ?_⟩
  obtain ⟨b, G', hb, hx, hd⟩ := h2 i x H' H'' hi e y
  rw [List.getElem?_map] at hb
  cases q : l[i]? with
  | none => rw [q] at hb; cases hb
  | some c => rw [q] at hb; cases hb; exact ⟨c, G', rfl, hx, hd⟩
theorem src_imp {β : Type} {wi : TI} {σ : L2.St} {H : Hp} {l : List β} {D D' : β → V → Hp → Prop} (h : Src wi σ H l D) (f : ∀ b x G, D b x G → D' b x G) : Src wi σ H l D' := h.imp fun J G _ hw => by
  obtain ⟨Gp, Y, w, h1, h2⟩ := hw
  refine ⟨Gp, Y, w, h1, fun i x H' H'' hi e y => ?_⟩
  obtain ⟨b, G', hb, hx, hd⟩ := h2 i x H' H'' hi e y
  exact ⟨b, G', hb, hx, f _ _ _ hd⟩
/-- a number -/
def Nt : Nat → V → Hp → Prop := fun n x _ => x = .int (n : Int)
theorem mono_nt (n : Nat) : Mono (Nt n) := fun _ _ _ _ h => h
abbrev dNss (ls : List (List Nat)) : Dt := .list (ls.map dNs)
/-- numbers, as a list -/
def Nl : List Nat → V → Hp → Prop := fun l x G => Dn G x (dNs l)
theorem mono_nl (l : List Nat) : Mono (Nl l) := mono_dn
section
variable {K : PySem.W.Frag} {σ : L2.St} {H : Hp} {tl : TE} {ta : TA}
theorem src_nats {l : List Nat} (h : ED tl σ H (dNs l)) : Src (iList K tl) σ H l Nt := src_imp (src_map (f := fun (n : Nat) => PyData.int (n : Int)) (src_list h)) fun b x G q => dn_int q
theorem src_natss {ls : List (List Nat)} (h : ED tl σ H (dNss ls)) : Src (iList K tl) σ H ls Nl := src_map (f := dNs) (src_list h)
theorem ls_nats {l : List Nat} {v : V} {G : Hp} (h : Dn G v (dNs l)) : Ls Nt l v G := by
  obtain ⟨a, xs, h1, h2, h3⟩ := dn_lst h
  refine ⟨a, xs, h1, h2, ?_⟩
  have gen : ∀ (xs : List V) (l : List Nat), DnAll G xs (l.map fun (n : Nat) => PyData.int (n : Int)) → All2 (fun b x => Nt b x G) xs l := by
    intro xs l
    induction l generalizing xs with
    | nil => intro q; cases q; exact .nil
    | cons n l ih => intro q; cases q with | cons q1 q2 => exact .cons (dn_int q1) (ih _ q2)
  exact gen xs l h3
theorem ls_natss {ls : List (List Nat)} {v : V} {G : Hp} (h : Dn G v (dNss ls)) : Ls Nl ls v G := by
  obtain ⟨a, xs, h1, h2, h3⟩ := dn_lst h
  refine ⟨a, xs, h1, h2, ?_⟩
  have gen : ∀ (xs : List V) (l : List (List Nat)), DnAll G xs (l.map dNs) → All2 (fun b x => Nl b x G) xs l := by
    intro xs l
    induction l generalizing xs with
    | nil => intro q; cases q; exact .nil
    | cons n l ih => intro q; cases q with | cons q1 q2 => exact .cons q1 (ih _ q2)
  exact gen xs ls h3
/-- enumerate(l) -/
theorem src_enumN {l : List Nat} (h : EA ta σ H [dNs l]) : Src (iEnum K ta) σ H ((List.range l.length).zip l) (Pr Nt Nt) := by
  have q := src_enum (K := K) h
  rw [List.length_map] at q
  have e : (List.range l.length).zip (l.map fun (n : Nat) => PyData.int (n : Int)) = ((List.range l.length).zip l).map fun b => (b.1, PyData.int (b.2 : Int)) := by
    rw [List.zip_map_right]; rfl
  rw [e] at q
  refine src_imp (src_map q) fun b x G z => ?_
  obtain ⟨T, x1, x2, h1, h2, h3, h4⟩ := z
  exact ⟨T, x1, x2, h1, h2, h3, dn_int h4⟩
/-- one item of a list of numbers -/
theorem ed_ixN {ta tb : TE} {l : List Nat} {k : Nat} (d : Nat) (ha : ED ta σ H (dNs l)) (hb : ED tb σ H (.int (k : Int))) (hk : k < l.length) : ED (tOp (rIxL K) ta tb) σ H (.int ((l.getD k d : Nat) : Int)) :=
  ed_ixL ha hb (atI_nat (by
    rw [List.getElem?_map, List.getElem?_eq_getElem hk, List.getD_eq_getElem?_getD, List.getElem?_eq_getElem hk]
    rfl))
theorem ed_lenN {ta : TE} {l : List Nat} (h : ED ta σ H (dNs l)) : ED (tCB (fun xs H Q => ∃ p ys, xs = [.ref p] ∧ (SqL K H p ys ∨ SqT K H p ys) ∧ Q (.int ys.length) H) (tCons ta tNil)) σ H (.int (l.length : Int)) := ed_is (ed_len h) (by rw [List.length_map])
end
theorem zip_range {α : Type} (l : List α) (d : α) : (List.range l.length).zip l = (List.range l.length).map fun i => (i, l.getD i d) := by
  apply List.ext_getElem?
  intro i
  rw [List.getElem?_map]
  by_cases h : i < l.length
  · rw [List.getElem?_range h]
    rw [(List.getElem?_zip_eq_some (z := (i, l[i]))).mpr ⟨List.getElem?_range h, List.getElem?_eq_getElem h⟩]
    show some (i, l[i]) = some (i, l.getD i d)
    rw [List.getD_eq_getElem?_getD, List.getElem?_eq_getElem h]
    rfl
  · rw [List.getElem?_eq_none (by rw [List.length_zip, List.length_range]; omega), List.getElem?_eq_none (by rw [List.length_range]; omega)]
    rfl
theorem enum_at {α : Type} {l : List α} {i : Nat} {b : Nat × α} (h : ((List.range l.length).zip l)[i]? = some b) : b.1 = i ∧ l[i]? = some b.2 ∧ i < l.length := by
  obtain ⟨h1, h2⟩ := List.getElem?_zip_eq_some.mp h
  have hi := (List.getElem?_eq_some_iff.mp h2).1
  rw [List.getElem?_range hi] at h1
  exact ⟨(Option.some.inj h1).symm, h2, hi⟩
section
variable {K : PySem.W.Frag} {σ : L2.St} {H : Hp} {t : TS} {P : V → Hp → Prop} {N : L2.St → Hp → Prop} {g : TG}
theorem bk_forH {β : Type} {D : β → V → Hp → Prop} {items : List β} {wi : TI} (mD : ∀ b, Mono (D b)) (hsrc : Src wi σ H items D) (J : Nat → L2.St → Hp → Prop) (mJ : ∀ i σ G G', Ex G G' → J i σ G → J i σ G') (h0 : J 0 σ H)
    (hs : ∀ i b x G σ', items[i]? = some b → Ex H G → D b x G → J i σ' G → CP (g x σ') G fun σ2 G' => Bk t σ2 G' P fun σ3 G3 => J (i + 1) σ3 G3) (hd : ∀ σ' G, Ex H G → J items.length σ' G → N σ' G) : Bk (tFor wi g t) σ H P N := fun H1 e D' r n => hsrc H1 e _ fun It G H2 x hw => by
  obtain ⟨Gp, Y, w, hGp, hY⟩ := hw
  refine for_it w (fun i σ' H' => ∃ G', Ext G H2 G' H' ∧ J i σ' G') ⟨G, Ext.refl x.gb, mJ _ _ _ _ x.hg h0⟩ (fun i σ' H' _ ⟨G', y, _⟩ => hGp H' y.at) (fun i v σ' H' H'' hi ⟨G', y, j1⟩ hy => ?_) (fun σ' H' ⟨G', y, j1⟩ => n σ' G' H' (x.trans y) (hd σ' G' (x.hg.trans y.hg) j1))
  obtain ⟨b, G1, hb, x1, hdb⟩ := hY i v H' H'' hi y.at hy
  obtain ⟨z1, z2⟩ := Ext.wider y.hg y.gb x1
  have e0 : Ex H (uni G1 G') := (x.hg.trans y.hg).trans z1.hg
  refine hs i b v _ σ' hb e0 (mD b _ _ _ z2 hdb) (mJ _ _ _ _ z1.hg j1) H'' z1.gb _ fun σ2 G2 H3 x2 hb2 => ?_
  have y2 := (y.trans z1).trans x2
  exact hb2 H3 x2.gb _ (fun v G3 H4 x3 p => r v G3 H4 ((x.trans y2).trans x3) p) fun σ3 G3 H4 x3 p => ⟨G3, y2.trans x3, p⟩
end
end Md

namespace Md
open PySem PySem.Spec PyProof.Rows L2
open Evl (Ex)
local macro_rules | `(tactic| walk_at "ed") => `(tactic| first
  | with_reducible exact ed_int | with_reducible exact ed_bl | with_reducible exact ed_non
  | ((with_reducible show ED (tVar _) _ _ _); refine ed_var rfl ?_; first | assumption | exact Dn.int _ | exact Dn.bl _)
  | ((with_reducible show CP (tVar _ _) _ _); refine cp_var rfl ?_; assumption)
  | with_reducible apply ed_add | with_reducible apply ed_sub | with_reducible apply ed_mul
  | with_reducible apply ed_lt | with_reducible apply ed_le | with_reducible apply ed_gt | with_reducible apply ed_ge
  | with_reducible apply ed_eq | with_reducible apply ed_ne | with_reducible apply ed_neg | with_reducible apply ed_isN | with_reducible apply ed_notN
  | ((with_reducible apply ed_swide); assumption) | ((with_reducible apply ed_shigh); assumption) | ((with_reducible apply ed_soff); assumption) | ((with_reducible apply ed_spoints); assumption)
  | ((with_reducible apply ed_twide); assumption) | ((with_reducible apply ed_thigh); assumption) | ((with_reducible apply ed_tworth); assumption) | ((with_reducible apply ed_tplace); assumption)
  | ((with_reducible apply cp_stowns); assumption)
  | with_reducible apply ed_ixT | with_reducible apply ed_ixL | with_reducible exact at_0 | with_reducible exact at_1 | with_reducible exact at_2 | with_reducible exact at_3 | with_reducible exact at_4
  | with_reducible apply ed_tup | with_reducible apply ed_lst | ((with_reducible show List.length _ ≤ 100000); exact Nat.le_of_ble_eq_true rfl)
  | with_reducible exact ea_nil | with_reducible apply ea_cons
  | with_reducible apply et_test | with_reducible apply et_B)
/-- a plan in hand -/
structure PlanOk (S : Uw49.Sheet) (l : List Nat) : Prop where
  len : l.length = S.towns.length
  le : ∀ c ∈ l, c ≤ 4
theorem PlanOk.at {S : Uw49.Sheet} {l : List Nat} (h : PlanOk S l) (i : Nat) : l.getD i 4 ≤ 4 := by
  by_cases hi : i < l.length
  · rw [List.getD_eq_getElem?_getD, List.getElem?_eq_getElem hi]
    exact h.le _ (List.getElem_mem hi)
  · rw [List.getD_eq_getElem?_getD, List.getElem?_eq_none (by omega)]
    exact Nat.le_refl 4
theorem getD_of {l : List Nat} {i c : Nat} (h : l[i]? = some c) (d : Nat) : l.getD i d = c := by rw [List.getD_eq_getElem?_getD, h]; rfl
theorem find_range_some {p : Nat → Bool} {n i : Nat} (hi : i < n) (hp : p i = true) (h : ∀ j, j < i → p j = false) : (List.range n).find? p = some i := by
  rw [List.find?_range_eq_some]
  exact ⟨hp, List.mem_range.mpr hi, fun j hj => by rw [h j hj]; rfl⟩
theorem find_range_none {p : Nat → Bool} {n : Nat} (h : ∀ j, j < n → p j = false) : (List.range n).find? p = none := by
  rw [List.find?_eq_none]
  intro x hx
  rw [h x (List.mem_range.mp hx)]
  exact Bool.false_ne_true
/-- the pair of towns -/
def dPr : Option (Nat × Nat) → Dt
  | none => .none
  | some x => .tuple [.int (x.1 : Int), .int (x.2 : Int)]
theorem find_pair_some {T : List Nat} {h : Nat → Nat → Bool} {i j k o : Nat} (hi : T[i]? = some k) (hj : T[j]? = some o) (h1 : ∀ k' ∈ T.take i, ∀ o' ∈ T, h k' o' = false) (h2 : ∀ o' ∈ T.take j, h k o' = false) (h3 : h k o = true) :
    (T.flatMap fun k => T.map fun o => (k, o)).find? (fun x => h x.1 x.2) = some (k, o) := by
  have sp : ∀ {l : List Nat} {i k : Nat}, l[i]? = some k → l = l.take i ++ k :: l.drop (i + 1) := fun {l i k} q => by
    obtain ⟨q1, q2⟩ := List.getElem?_eq_some_iff.mp q
    rw [← q2, List.getElem_cons_drop, List.take_append_drop]
  rw [sp hi, List.flatMap_append, List.flatMap_cons, ← sp hi, List.find?_append]
  have n1 : ((T.take i).flatMap fun k => T.map fun o => (k, o)).find? (fun x => h x.1 x.2) = none := by
    rw [List.find?_eq_none]
    intro x hx
    obtain ⟨k', hk, hx⟩ := List.mem_flatMap.mp hx
    obtain ⟨o', ho, rfl⟩ := List.mem_map.mp hx
    rw [h1 k' hk o' ho]
    exact Bool.false_ne_true
  rw [n1, Option.none_or, List.find?_append]
  have n2 : (T.map fun o => (k, o)).find? (fun x => h x.1 x.2) = some (k, o) := by
    have n3 : ((T.take j).map fun o => (k, o)).find? (fun x => h x.1 x.2) = none := by
      rw [List.find?_eq_none]
      intro x hx
      obtain ⟨o', ho, rfl⟩ := List.mem_map.mp hx
      rw [h2 o' ho]
      exact Bool.false_ne_true
    rw [sp hj, List.map_append, List.find?_append, n3, Option.none_or, List.map_cons, List.find?_cons]
    simp only [h3]
  rw [n2]
  rfl
theorem find_pair_none {T : List Nat} {h : Nat → Nat → Bool} (h1 : ∀ k' ∈ T, ∀ o' ∈ T, h k' o' = false) : (T.flatMap fun k => T.map fun o => (k, o)).find? (fun x => h x.1 x.2) = none := by
  rw [List.find?_eq_none]
  intro x hx
  obtain ⟨k', hk, hx⟩ := List.mem_flatMap.mp hx
  obtain ⟨o', ho, rfl⟩ := List.mem_map.mp hx
  rw [h1 k' hk o' ho]
  exact Bool.false_ne_true
/-- the towns whose names stand -/
def toldL (l : List Nat) : List Nat := (List.range l.length).filter (Uw49.stands l)
theorem find_flat {α β : Type} (f : α → List β) (p : β → Bool) : ∀ l : List α, (l.flatMap f).find? p = l.findSome? fun a => (f a).find? p
  | [] => rfl
  | a :: l => by
    rw [List.flatMap_cons, List.find?_append, List.findSome?_cons, find_flat f p l]
    cases (f a).find? p <;> rfl
theorem find_filter {α : Type} (q p : α → Bool) : ∀ l : List α, (l.filter q).find? p = l.find? fun a => q a && p a
  | [] => rfl
  | a :: l => by
    rw [List.filter_cons]
    by_cases h : q a = true
    · rw [if_pos h, List.find?_cons, List.find?_cons, h, Bool.true_and, find_filter q p l]
    · have h' : q a = false := by simpa using h
      rw [if_neg h, List.find?_cons, h', Bool.false_and, find_filter q p l]
theorem findSome_filter {α β : Type} (q : α → Bool) (g : α → Option β) : ∀ l : List α, (l.filter q).findSome? g = l.findSome? fun a => if q a = true then g a else none
  | [] => rfl
  | a :: l => by
    rw [List.filter_cons]
    by_cases h : q a = true
    · rw [if_pos h, List.findSome?_cons, List.findSome?_cons, if_pos h, findSome_filter q g l]
    · rw [if_neg h, List.findSome?_cons, if_neg h, findSome_filter q g l]
theorem findSome_congr {α β : Type} {g g' : α → Option β} : ∀ {l : List α}, (∀ a ∈ l, g a = g' a) → l.findSome? g = l.findSome? g'
  | [], _ => rfl
  | a :: l, h => by
    rw [List.findSome?_cons, List.findSome?_cons, h a List.mem_cons_self, findSome_congr fun b hb => h b (List.mem_cons_of_mem _ hb)]
theorem clashes_eq (S : Uw49.Sheet) (l : List Nat) (hl : l.length = S.towns.length) : S.clashes l = ((toldL l).flatMap fun k => (toldL l).map fun o => (k, o)).find? fun x => decide (x.1 < x.2) && S.clash x.1 (l.getD x.1 4) x.2 (l.getD x.2 4) := by
  unfold Uw49.Sheet.clashes Uw49.Sheet.pairs Uw49.Sheet.count toldL
  rw [find_flat, find_flat, findSome_filter, hl]
  refine findSome_congr fun i _ => ?_
  rw [List.find?_map, List.find?_map, find_filter, find_filter]
  by_cases hs : Uw49.stands l i = true
  · rw [if_pos hs]
    refine congrArg _ (congrFun (congrArg List.find? (funext fun j => ?_)) _)
    simp only [Function.comp, hs, Bool.true_and]
    cases decide (i < j) <;> cases Uw49.stands l j <;> rfl
  · rw [if_neg hs]
    have hf : Uw49.stands l i = false := by simpa using hs
    have : (List.range S.towns.length).find? (fun a => decide (i < a) && ((fun x : Nat × Nat => Uw49.stands l x.1 && (Uw49.stands l x.2 && S.clash x.1 (l.getD x.1 4) x.2 (l.getD x.2 4))) ∘ fun j => (i, j)) a) = none := by
      rw [List.find?_eq_none]
      intro x _
      simp only [Function.comp, hf, Bool.false_and, Bool.and_false]
      exact Bool.false_ne_true
    rw [this]
    rfl
theorem stands_lt {S : Uw49.Sheet} {l : List Nat} (h : PlanOk S l) {i : Nat} (hs : Uw49.stands l i = true) : l.getD i 4 < 4 := by
  have := h.at i
  unfold Uw49.stands at hs
  have : l.getD i 4 ≠ 4 := by simpa using hs
  omega
section
variable {P : Program} {w : World} {K : PySem.W.Frag} {mg : Str → Option Value} {base : Heap} {a : Ad}
def sp_first_unfit (a : Ad) : Sp := Pur (fun (x : Uw49.Sheet × List Nat) vs H => ∃ v w, vs = [v, w] ∧ SheetAt a x.1 v H ∧ Wf x.1 ∧ Dn H w (dNs x.2) ∧ PlanOk x.1 x.2) fun x v G => Dn G v (dOpt (x.1.badName x.2))
theorem len_first_unfit {vs : List V} {H : Hp} {Q : VK} {E : XK} (h : sp_first_unfit a vs H Q E) : vs.length = 2 := by obtain ⟨_, _, _, ⟨_, _, h, _⟩, _⟩ := h; rw [h]; rfl
theorem cp_fits {σ : L2.St} {H : Hp} {t1 t2 t3 : TE} {S : Uw49.Sheet} {i c : Nat} (wf : Wf S) (h1 : CP (t1 σ) H (SheetAt a S)) (h2 : ED t2 σ H (.int (i : Int))) (h3 : ED t3 σ H (.int (c : Int))) (hi : i < S.towns.length) (hc : c < 4) : ED (tCall (sp_fits a) [] E0 (tCons t1 (tCons t2 (tCons t3 tNil)))) σ H (.bool (S.fits i c)) :=
  cp_call (x := (S, i, c)) (ca_cons (mono_sheet S) mono_all h1 (ea_cons h2 (ea_cons h3 ea_nil))) fun vs G _ ⟨x, xs, e, p, q⟩ => by
    obtain ⟨y, z, rfl, q1, q2⟩ := dn2 q
    rw [dn_int q1, dn_int q2] at e
    exact ⟨x, e, p, wf, hi, hc⟩
theorem ok_first_unfit {f : Addr} {fd : FuncData} (F : Fun K "first_unfit" "first_unfit" s_first_unfit f fd) (T : Tx K mg a) (c_fits : Cal P w K mg base CX0 2 "fits" ["sheet", "k", "corner"] (sp_fits a)) : FnOk P w K mg base CX0 3 f fd ["sheet", "plan"] (sp_first_unfit a) := by
  obtain ⟨t_LEFT_OUT, h_LEFT_OUT⟩ := T.g_LEFT_OUT
  refine F.ok sc_first_unfit (fun vs H Q E h => ?_) (fun cdv A outer s H vs Q E hr h => ?_)
  · exact len_first_unfit h
  · refine ⟨_, (pss_cons (ps_for PassesOwn.never rfl (pi_enum rfl T.b_enumerate (pa_cons (pv 1) pa_nil)) (pg_tupK (K := K) (n := 2) rfl rfl (pgs_cons (pg_name (i := 2) sc_first_unfit.nd rfl (Or.inl rfl)) (pgs_cons (pg_name (i := 3) sc_first_unfit.nd rfl (Or.inl rfl)) pgs_nil))) (pss_one (ps_if (PW.pt (pw_and (pt_cmpR op_ne (pv 3) (pe_glob (v := .int (4)) rfl h_LEFT_OUT ⟨_, rfl⟩) (nomark _)) (pw_and1 (pt_not (pt_val (pe_cal c_fits (hr.mono (by decide)) rfl pass0 (by exact (pa_cons (pv 0) (pa_cons (pv 2) (pa_cons (pv 3) pa_nil)))))))))) (pss_one (ps_ret (pv 2))) pss_nil))) (pss_one (ps_ret pe_non))), ?_⟩
    refine pur_body h fun x H0 hp => ?_
    obtain ⟨S, l⟩ := x
    obtain ⟨v, w, rfl, hS, wf, hw, pl⟩ := hp
    simp only [] at hS wf hw pl
    refine bk_seq (M := fun _ _ => ∀ j, j < l.length → (Uw49.stands l j && !S.fits j (l.getD j 4)) = false) (bk_for (D := Pr Nt Nt) (items := (List.range l.length).zip l) (src_enumN (by repeat' walk_at "ed")) (fun i σ' => (∃ x2 x3, σ' = [some v, some w, x2, x3]) ∧ ∀ j, j < i → (Uw49.stands l j && !S.fits j (l.getD j 4)) = false) ⟨⟨none, none, rfl⟩, fun j hj => absurd hj (Nat.not_lt_zero j)⟩ (fun i b x G σ' hb e hx hJ => ?_) (fun σ' G e hJ => by rw [List.length_zip, List.length_range, Nat.min_self] at hJ; exact hJ.2)) fun σ' G e hM => ?_
    · obtain ⟨⟨x2, x3, rfl⟩, hJ⟩ := hJ
      obtain ⟨b1, b2⟩ := b
      obtain ⟨rfl, hc, hi⟩ := enum_at hb
      obtain ⟨T1, y1, y2, rfl, hT, rfl, rfl⟩ := hx
      have hS1 := mono_sheet _ _ _ _ e hS
      simp only [] at hc hi
      have hd : l.getD b1 4 = b2 := getD_of hc 4
      have hst : Uw49.stands l b1 = (b2 != 4) := by unfold Uw49.stands; rw [hd]
      refine cp_pair hT ?_
      refine bk_if (b := (b2 != 4) && !S.fits b1 b2) (et_and (et_is (by repeat' walk_at "ed") (not_four b2)) fun q => et_not (et_B (cp_fits wf (by walk_at "ed") (by walk_at "ed") (by walk_at "ed") (by have := pl.len; omega) (by
        have h4 := pl.le b2 (List.mem_of_getElem? hc)
        have : b2 ≠ 4 := by simpa using q
        omega)))) (fun q => bk_ret (ed_is (d1 := .int (b1 : Int)) (by walk_at "ed") ?_)) (fun q => bk_next ⟨⟨_, _, rfl⟩, fun j hj => ?_⟩)
      · have : S.badName l = some b1 := find_range_some (by unfold Uw49.Sheet.count; have := pl.len; omega) (by rw [hst, hd]; exact q) hJ
        show _ = dOpt (S.badName l)
        rw [this]
        rfl
      · by_cases e1 : j = b1
        · subst e1; rw [hst, hd]; exact q
        · exact hJ j (by simp only [] at hj; omega)
    · refine bk_ret (ed_is ed_non ?_)
      have : S.badName l = none := find_range_none fun j hj => hM j (by unfold Uw49.Sheet.count at hj; have := pl.len; omega)
      show _ = dOpt (S.badName l)
      rw [this]
      rfl
def sp_first_clash (a : Ad) : Sp := Pur (fun (x : Uw49.Sheet × List Nat) vs H => ∃ v w, vs = [v, w] ∧ SheetAt a x.1 v H ∧ Wf x.1 ∧ Dn H w (dNs x.2) ∧ PlanOk x.1 x.2) fun x v G => Dn G v (dPr (x.1.clashes x.2))
theorem len_first_clash {vs : List V} {H : Hp} {Q : VK} {E : XK} (h : sp_first_clash a vs H Q E) : vs.length = 2 := by obtain ⟨_, _, _, ⟨_, _, h, _⟩, _⟩ := h; rw [h]; rfl
theorem cp_clash {σ : L2.St} {H : Hp} {t1 t2 t3 t4 t5 : TE} {S : Uw49.Sheet} {i c j m : Nat} (h1 : CP (t1 σ) H (SheetAt a S)) (h2 : ED t2 σ H (.int (i : Int))) (h3 : ED t3 σ H (.int (c : Int))) (h4 : ED t4 σ H (.int (j : Int))) (h5 : ED t5 σ H (.int (m : Int))) (hi : i < S.towns.length) (hc : c < 4) (hj : j < S.towns.length) (hm : m < 4) : ED (tCall (sp_clash a) [] E0 (tCons t1 (tCons t2 (tCons t3 (tCons t4 (tCons t5 tNil)))))) σ H (.bool (S.clash i c j m)) :=
  cp_call (x := (S, i, c, j, m)) (ca_cons (mono_sheet S) mono_all h1 (ea_cons h2 (ea_cons h3 (ea_cons h4 (ea_cons h5 ea_nil))))) fun vs G _ ⟨x, xs, e, p, q⟩ => by
    obtain ⟨y1, y2, y3, y4, rfl, q1, q2, q3, q4⟩ := dn4 q
    rw [dn_int q1, dn_int q2, dn_int q3, dn_int q4] at e
    exact ⟨x, e, p, hi, hc, hj, hm⟩
theorem told_eq (l : List Nat) : (((List.range l.length).zip l).filter fun b => b.2 != 4).map (fun b => PyData.int (b.1 : Int)) = (toldL l).map fun (n : Nat) => PyData.int (n : Int) := by
  rw [zip_range l 4, List.filter_map, List.map_map]
  rfl
theorem told_mem {l : List Nat} {k : Nat} (h : k ∈ toldL l) : k < l.length ∧ Uw49.stands l k = true := by
  obtain ⟨h1, h2⟩ := List.mem_filter.mp h
  exact ⟨List.mem_range.mp h1, h2⟩
theorem ok_first_clash {f : Addr} {fd : FuncData} (F : Fun K "first_clash" "first_clash" s_first_clash f fd) (T : Tx K mg a) (c_clash : Cal P w K mg base CX0 2 "clash" ["sheet", "k", "corner", "other", "other_corner"] (sp_clash a)) : FnOk P w K mg base CX0 3 f fd ["sheet", "plan"] (sp_first_clash a) := by
  obtain ⟨t_LEFT_OUT, h_LEFT_OUT⟩ := T.g_LEFT_OUT
  refine F.ok sc_first_clash (fun vs H Q E h => ?_) (fun cdv A outer s H vs Q E hr h => ?_)
  · exact len_first_clash h
  · refine ⟨_, (pss_cons (ps_setLc (i := 2) (own := [("k", 3), ("corner", 5)]) rfl sc_first_clash.nd rfl rfl (sw_true rfl rfl rfl (by decide +kernel)) (pi_enum rfl T.b_enumerate (pa_cons (pv 1) pa_nil)) (blkOk_by (own := [("k", 3), ("corner", 5)]) (N := ["sheet", "plan", "told", "k", "other", "corner"]) (sc := defScope s_first_clash) (by decide +kernel)) (by intros; exact (pg_tupK (K := K) (n := 2) rfl rfl (pgs_cons (pg_name (i := 3) sc_first_clash.nd rfl (Or.inl rfl)) (pgs_cons (pg_name (i := 5) sc_first_clash.nd rfl (Or.inl rfl)) pgs_nil)))) (by intros; exact (pts_one (pt_cmpR op_ne (pv 5) (pe_glob (v := .int (4)) rfl h_LEFT_OUT ⟨_, rfl⟩) (nomark _)))) (by intros; exact (pv 3))) (pss_cons (ps_for PassesOwn.never rfl (pi_list (pv 2)) (pg_name (i := 3) sc_first_clash.nd rfl (Or.inl rfl)) (pss_one (ps_for PassesOwn.never rfl (pi_list (pv 2)) (pg_name (i := 4) sc_first_clash.nd rfl (Or.inl rfl)) (pss_one (ps_if (PW.pt (pw_and (pt_cmpR op_lt (pv 3) (pv 4) (nomark _)) (pw_and1 (pt_val (pe_cal c_clash (hr.mono (by decide)) rfl pass0 (by exact (pa_cons (pv 0) (pa_cons (pv 3) (pa_cons (pe_ix (ix_listK (K := K) rfl) (pv 1) (pv 3) (fun _ _ => rfl)) (pa_cons (pv 4) (pa_cons (pe_ix (ix_listK (K := K) rfl) (pv 1) (pv 4) (fun _ _ => rfl)) pa_nil))))))))))) (pss_one (ps_ret (pe_tup (pa_cons (pv 3) (pa_cons (pv 4) pa_nil))))) pss_nil))))) (pss_one (ps_ret pe_non)))), ?_⟩
    refine pur_body h fun x H0 hp => ?_
    obtain ⟨S, l⟩ := x
    obtain ⟨v, w, rfl, hS, wf, hw, pl⟩ := hp
    simp only [] at hS wf hw pl
    refine bk_asg (R := fun v G => Dn G v (dNs (toldL l))) (ed_is (ed_lc (D := Pr Nt Nt) (items := (List.range l.length).zip l) (fun b => b.2 != 4) (fun b => .int (b.1 : Int)) (src_enumN (by repeat' walk_at "ed")) (by rw [List.length_zip, List.length_range, Nat.min_self, pl.len]; have := wf.t; omega) fun b x G hb e hx => ?_) (congrArg PyData.list (told_eq l))) fun t G e ht => ?_
    · obtain ⟨T1, y1, y2, rfl, hT, rfl, rfl⟩ := hx
      exact cp_pair hT ⟨rfl, et_is (by repeat' walk_at "ed") (not_four b.2), fun _ => by walk_at "ed"⟩
    replace hS := mono_sheet _ _ _ _ e hS
    replace hw := hw.mono e
    have L := pl.len
    refine bk_seq (M := fun _ _ => ∀ k ∈ toldL l, ∀ o ∈ toldL l, (decide (k < o) && S.clash k (l.getD k 4) o (l.getD o 4)) = false) (bk_for (D := Nt) (items := toldL l) (src_nats (by walk_at "ed")) (fun i σ' => (∃ x3 x4 x5, σ' = [some v, some w, some t, x3, x4, x5]) ∧ ∀ k ∈ (toldL l).take i, ∀ o ∈ toldL l, (decide (k < o) && S.clash k (l.getD k 4) o (l.getD o 4)) = false) ⟨⟨none, none, none, rfl⟩, fun k hk => by cases hk⟩ (fun i k x G1 σ' hk e1 hx hJ => ?_) (fun σ' G e hJ => by rw [List.take_length] at hJ; exact hJ.2)) fun σ' G1 e1 hM => ?_
    · obtain ⟨⟨x3, x4, x5, rfl⟩, hJ⟩ := hJ
      obtain rfl := hx
      have hS1 := mono_sheet _ _ _ _ e1 hS
      have hw1 := hw.mono e1
      have ht1 := ht.mono e1
      obtain ⟨kl, ks⟩ := told_mem (List.mem_of_getElem? hk)
      refine cp_name ?_
      refine Bk.imp (N := fun σ3 _ => (∃ x4, σ3 = [some v, some w, some t, some (.int (k : Int)), x4, x5]) ∧ ∀ o ∈ (toldL l).take (toldL l).length, (decide (k < o) && S.clash k (l.getD k 4) o (l.getD o 4)) = false) (bk_for (D := Nt) (items := toldL l) (src_nats (by walk_at "ed")) (fun j σ' => (∃ x4, σ' = [some v, some w, some t, some (.int (k : Int)), x4, x5]) ∧ ∀ o ∈ (toldL l).take j, (decide (k < o) && S.clash k (l.getD k 4) o (l.getD o 4)) = false) ⟨⟨_, rfl⟩, fun o ho => by cases ho⟩ (fun j o x G2 σ'' ho e2 hx hJ2 => ?_) (fun σ' G e hJ => hJ)) (fun _ _ _ p => p) fun σ3 G3 e3 hN => ?_
      · obtain ⟨⟨x4, rfl⟩, hJ2⟩ := hJ2
        obtain rfl := hx
        have hS2 := mono_sheet _ _ _ _ e2 hS1
        have hw2 := hw1.mono e2
        obtain ⟨ol, os⟩ := told_mem (List.mem_of_getElem? ho)
        refine cp_name ?_
        refine bk_if (b := decide (k < o) && S.clash k (l.getD k 4) o (l.getD o 4)) (et_and (et_is (a := decide ((k : Int) < (o : Int))) (by repeat' walk_at "ed") (by simp only [Int.ofNat_lt])) fun q => et_B (cp_clash (by walk_at "ed") (by walk_at "ed") (ed_ixN 4 (by walk_at "ed") (by walk_at "ed") kl) (by walk_at "ed") (ed_ixN 4 (by walk_at "ed") (by walk_at "ed") ol) (by omega) (stands_lt pl ks) (by omega) (stands_lt pl os))) (fun q => bk_ret (ed_is (d1 := .tuple [.int (k : Int), .int (o : Int)]) (by repeat' walk_at "ed") ?_)) (fun q => bk_next ⟨⟨_, rfl⟩, fun o' ho' => ?_⟩)
        · show _ = dPr (S.clashes l)
          rw [clashes_eq S l L, find_pair_some (h := fun k o => decide (k < o) && S.clash k (l.getD k 4) o (l.getD o 4)) hk ho hJ hJ2 q]
          rfl
        · rw [List.take_add_one, ho] at ho'
          rcases List.mem_append.mp ho' with z | z
          · exact hJ2 o' z
          · obtain rfl : o' = o := by simpa using z
            exact q
      · obtain ⟨⟨x4, rfl⟩, hN⟩ := hN
        rw [List.take_length] at hN
        refine ⟨⟨_, _, _, rfl⟩, fun k' hk' => ?_⟩
        rw [List.take_add_one, hk] at hk'
        rcases List.mem_append.mp hk' with z | z
        · exact hJ k' z
        · obtain rfl : k' = k := by simpa using z
          exact hN
    · refine bk_ret (ed_is ed_non ?_)
      show _ = dPr (S.clashes l)
      rw [clashes_eq S l L, find_pair_none (h := fun k o => decide (k < o) && S.clash k (l.getD k 4) o (l.getD o 4)) hM]
      rfl
end
end Md

namespace Md
open PySem PySem.Spec PyProof.Rows L2
open Evl (Ex)
local macro_rules | `(tactic| walk_at "ed") => `(tactic| first
  | with_reducible exact ed_int | with_reducible exact ed_bl | with_reducible exact ed_non
  | ((with_reducible show ED (tVar _) _ _ _); refine ed_var rfl ?_; first | assumption | exact Dn.int _ | exact Dn.bl _)
  | ((with_reducible show CP (tVar _ _) _ _); refine cp_var rfl ?_; assumption)
  | with_reducible apply ed_add | with_reducible apply ed_sub | with_reducible apply ed_mul
  | with_reducible apply ed_lt | with_reducible apply ed_le | with_reducible apply ed_gt | with_reducible apply ed_ge
  | with_reducible apply ed_eq | with_reducible apply ed_ne | with_reducible apply ed_neg | with_reducible apply ed_isN | with_reducible apply ed_notN
  | ((with_reducible apply ed_swide); assumption) | ((with_reducible apply ed_shigh); assumption) | ((with_reducible apply ed_soff); assumption) | ((with_reducible apply ed_spoints); assumption)
  | ((with_reducible apply ed_twide); assumption) | ((with_reducible apply ed_thigh); assumption) | ((with_reducible apply ed_tworth); assumption) | ((with_reducible apply ed_tplace); assumption)
  | ((with_reducible apply cp_stowns); assumption)
  | with_reducible apply ed_ixT | with_reducible apply ed_ixL | with_reducible exact at_0 | with_reducible exact at_1 | with_reducible exact at_2 | with_reducible exact at_3 | with_reducible exact at_4
  | with_reducible apply ed_tup | with_reducible apply ed_lst | ((with_reducible show List.length _ ≤ 100000); exact Nat.le_of_ble_eq_true rfl)
  | with_reducible exact ea_nil | with_reducible apply ea_cons
  | with_reducible apply et_test | with_reducible apply et_B)
theorem total_go (l : List Nat) : ∀ a : Nat, l.foldl (fun a b => a + b) a = a + l.sum := by
  induction l with
  | nil => intro a; simp
  | cons x l ih => intro a; rw [List.foldl_cons, ih, List.sum_cons]; omega
theorem total_eq (l : List Nat) : Uw49.total l = l.sum := by unfold Uw49.total; rw [total_go]; omega
theorem sum_filter {β : Type} (p : β → Bool) (f : β → Nat) : ∀ l : List β, ((l.filter p).map fun b => (f b : Int)).sum = (((l.map fun b => if p b = true then f b else 0).sum : Nat) : Int)
  | [] => rfl
  | b :: l => by
    have ih := sum_filter p f l
    rw [List.filter_cons, List.map_cons, List.sum_cons]
    by_cases h : p b = true
    · rw [if_pos h, if_pos h, List.map_cons, List.sum_cons, ih]; omega
    · rw [if_neg h, if_neg h, ih]; omega
theorem rank_eq (l : List Nat) : ((l.filter fun n => n != 4).map fun (n : Nat) => (n : Int)).sum = (Uw49.rank l : Int) := by
  rw [sum_filter]
  unfold Uw49.rank
  rw [total_eq]
  refine congrArg (fun z : List Nat => ((z.sum : Nat) : Int)) (List.map_congr_left fun n _ => ?_)
  by_cases h : n = 4 <;> simp [h]
theorem zip_towns (S : Uw49.Sheet) (l : List Nat) (h : l.length = S.towns.length) : S.towns.zip l = (List.range S.towns.length).map fun i => (S.town i, l.getD i 4) := by
  apply List.ext_getElem?
  intro i
  rw [List.getElem?_map]
  by_cases hi : i < S.towns.length
  · rw [List.getElem?_range hi]
    rw [(List.getElem?_zip_eq_some (z := (S.towns[i], l[i]))).mpr ⟨List.getElem?_eq_getElem hi, List.getElem?_eq_getElem (by omega)⟩]
    show some (S.towns[i], l[i]) = some (S.town i, l.getD i 4)
    unfold Uw49.Sheet.town
    rw [List.getD_eq_getElem?_getD, List.getD_eq_getElem?_getD, List.getElem?_eq_getElem hi, List.getElem?_eq_getElem (show i < l.length by omega)]
    rfl
  · rw [List.getElem?_eq_none (by rw [List.length_zip]; omega), List.getElem?_eq_none (by rw [List.length_range]; omega)]
    rfl
theorem worth_eq (S : Uw49.Sheet) (l : List Nat) (h : l.length = S.towns.length) : (((S.towns.zip l).filter fun b => b.2 != 4).map fun b => (b.1.worth : Int)).sum = (S.worth l : Int) := by
  rw [sum_filter, zip_towns S l h, List.map_map]
  unfold Uw49.Sheet.worth Uw49.Sheet.count
  rw [total_eq]
  rfl
theorem map_ints {β : Type} (l : List β) (f : β → Int) : (l.map fun b => PyData.int (f b)) = (l.map f).map PyData.int := by rw [List.map_map]; rfl
def goesWith (S : Uw49.Sheet) (l : List Nat) (c : Nat) : Bool := c == 4 || !((toldL l).any fun j => S.clash j (l.getD j 4) l.length c)
def cornersOf (S : Uw49.Sheet) (k : Nat) : List Nat := (List.range 4).filter (S.fits k) ++ [4]
def planStep (S : Uw49.Sheet) (found : List (List Nat)) (k : Nat) : List (List Nat) := found.flatMap fun l => ((cornersOf S k).filter (goesWith S l)).map fun c => l ++ [c]
def plansTo (S : Uw49.Sheet) (k : Nat) : List (List Nat) := (List.range k).foldl (planStep S) [[]]
def goodPlans (S : Uw49.Sheet) : List (List Nat) := plansTo S S.towns.length
theorem plansTo_succ (S : Uw49.Sheet) (k : Nat) : plansTo S (k + 1) = planStep S (plansTo S k) k := by
  unfold plansTo
  rw [List.range_succ, List.foldl_append]
  rfl
theorem corners_mem {S : Uw49.Sheet} {k c : Nat} (h : c ∈ cornersOf S k) : c ≤ 4 := by
  unfold cornersOf at h
  rcases List.mem_append.mp h with h | h
  · have := List.mem_range.mp (List.mem_filter.mp h).1; omega
  · have : c = 4 := by simpa using h
    omega
theorem corners_len (S : Uw49.Sheet) (k : Nat) : (cornersOf S k).length ≤ 5 := by
  unfold cornersOf
  rw [List.length_append]
  have := List.length_filter_le (S.fits k) (List.range 4)
  rw [List.length_range] at this
  simp
  omega
theorem plans_ok (S : Uw49.Sheet) : ∀ k, ∀ l ∈ plansTo S k, l.length = k ∧ ∀ c ∈ l, c ≤ 4
  | 0, l, h => by
    have : l = [] := by simpa [plansTo] using h
    subst this
    exact ⟨rfl, fun c hc => by cases hc⟩
  | k + 1, l, h => by
    rw [plansTo_succ] at h
    obtain ⟨m, hm, h⟩ := List.mem_flatMap.mp h
    obtain ⟨c, hc, rfl⟩ := List.mem_map.mp h
    obtain ⟨h1, h2⟩ := plans_ok S k m hm
    refine ⟨by rw [List.length_append, h1]; rfl, fun d hd => ?_⟩
    rcases List.mem_append.mp hd with q | q
    · exact h2 d q
    · have : d = c := by simpa using q
      rw [this]
      exact corners_mem (List.mem_filter.mp hc).1
theorem flat_len {α β : Type} (f : α → List β) (b : Nat) : ∀ l : List α, (∀ a ∈ l, (f a).length ≤ b) → (l.flatMap f).length ≤ l.length * b
  | [], _ => by simp
  | a :: l, h => by
    have ih := flat_len f b l fun x hx => h x (List.mem_cons_of_mem _ hx)
    have := h a List.mem_cons_self
    rw [List.flatMap_cons, List.length_append, List.length_cons, Nat.add_mul]
    omega
theorem plans_len (S : Uw49.Sheet) : ∀ k, (plansTo S k).length ≤ 5 ^ k
  | 0 => by simp [plansTo]
  | k + 1 => by
    have ih := plans_len S k
    rw [plansTo_succ]
    have := flat_len (fun l => ((cornersOf S k).filter (goesWith S l)).map fun c => l ++ [c]) 5 (plansTo S k) fun l _ => by
      rw [List.length_map]
      exact Nat.le_trans (List.length_filter_le _ _) (corners_len S k)
    unfold planStep
    rw [Nat.pow_succ]
    omega
theorem plans_few {S : Uw49.Sheet} (wf : Wf S) {k : Nat} (hk : k ≤ S.towns.length) : (plansTo S k).length ≤ 625 := by
  have h1 := plans_len S k
  have h2 : 5 ^ k ≤ 5 ^ 4 := Nat.pow_le_pow_right (by decide) (by have := wf.t; omega)
  have h3 : 5 ^ 4 = 625 := by decide
  omega
section
variable {P : Program} {w : World} {K : PySem.W.Frag} {mg : Str → Option Value} {base : Heap} {a : Ad}
def sp_rank_of (_ : Ad) : Sp := Pur (fun (x : List Nat) vs H => ∃ w, vs = [w] ∧ Dn H w (dNs x) ∧ x.length ≤ 100) fun x v G => Dn G v (.int (Uw49.rank x : Int))
theorem len_rank_of {vs : List V} {H : Hp} {Q : VK} {E : XK} (h : sp_rank_of a vs H Q E) : vs.length = 1 := by obtain ⟨_, _, _, ⟨_, h, _⟩, _⟩ := h; rw [h]; rfl
theorem ok_rank_of {f : Addr} {fd : FuncData} (F : Fun K "rank_of" "rank_of" s_rank_of f fd) (T : Tx K mg a)  : FnOk P w K mg base CX0 1 f fd ["plan"] (sp_rank_of a) := by
  obtain ⟨t_LEFT_OUT, h_LEFT_OUT⟩ := T.g_LEFT_OUT
  refine F.ok sc_rank_of (fun vs H Q E h => ?_) (fun cdv A outer s H vs Q E hr h => ?_)
  · exact len_rank_of h
  · refine ⟨_, (pss_one (ps_ret (pe_callB (cr_sum rfl) rfl T.b_sum (by decide +kernel) (pa_cons (pe_lc (own := [("corner", 1)]) rfl sc_rank_of.nd (pi_list (pv 0)) (blkOk_by (own := [("corner", 1)]) (N := ["plan", "corner"]) (sc := defScope s_rank_of) (by decide +kernel)) (by intros; exact (pg_name (i := 1) sc_rank_of.nd rfl (Or.inl rfl))) (by intros; exact (pts_one (pt_cmpR op_ne (pv 1) (pe_glob (v := .int (4)) rfl h_LEFT_OUT ⟨_, rfl⟩) (nomark _)))) (by intros; exact (pv 1))) pa_nil)))), ?_⟩
    refine pur_body h fun l H0 hp => ?_
    obtain ⟨w, rfl, hw, hl⟩ := hp
    refine bk_ret (ed_is (ed_sum (ns := (l.filter fun n => n != 4).map fun (n : Nat) => (n : Int)) (ed_is (ed_lc (D := Nt) (items := l) (fun n => n != 4) (fun n => .int (n : Int)) (src_nats (by walk_at "ed")) (by omega) fun n x G _ e hx => ?_) (congrArg PyData.list (map_ints _ _)))) (by rw [rank_eq]))
    obtain rfl := hx
    exact cp_name ⟨rfl, et_is (by repeat' walk_at "ed") (not_four n), fun _ => by walk_at "ed"⟩
def sp_worth_of (a : Ad) : Sp := Pur (fun (x : Uw49.Sheet × List Nat) vs H => ∃ v w, vs = [v, w] ∧ SheetAt a x.1 v H ∧ Wf x.1 ∧ Dn H w (dNs x.2) ∧ x.2.length = x.1.towns.length) fun x v G => Dn G v (.int (x.1.worth x.2 : Int))
theorem len_worth_of {vs : List V} {H : Hp} {Q : VK} {E : XK} (h : sp_worth_of a vs H Q E) : vs.length = 2 := by obtain ⟨_, _, _, ⟨_, _, h, _⟩, _⟩ := h; rw [h]; rfl
theorem ok_worth_of {f : Addr} {fd : FuncData} (F : Fun K "worth_of" "worth_of" s_worth_of f fd) (T : Tx K mg a)  : FnOk P w K mg base CX0 1 f fd ["sheet", "plan"] (sp_worth_of a) := by
  obtain ⟨t_LEFT_OUT, h_LEFT_OUT⟩ := T.g_LEFT_OUT
  refine F.ok sc_worth_of (fun vs H Q E h => ?_) (fun cdv A outer s H vs Q E hr h => ?_)
  · exact len_worth_of h
  · refine ⟨_, (pss_one (ps_ret (pe_callB (cr_sum rfl) rfl T.b_sum (by decide +kernel) (pa_cons (pe_lc (own := [("town", 2), ("corner", 3)]) rfl sc_worth_of.nd (pi_zip rfl T.b_zip (pa_cons (pe_fldK (K := K) rfl (pv 0) rfl) (pa_cons (pv 1) pa_nil))) (blkOk_by (own := [("town", 2), ("corner", 3)]) (N := ["sheet", "plan", "town", "corner"]) (sc := defScope s_worth_of) (by decide +kernel)) (by intros; exact (pg_tupK (K := K) (n := 2) rfl rfl (pgs_cons (pg_name (i := 2) sc_worth_of.nd rfl (Or.inl rfl)) (pgs_cons (pg_name (i := 3) sc_worth_of.nd rfl (Or.inl rfl)) pgs_nil)))) (by intros; exact (pts_one (pt_cmpR op_ne (pv 3) (pe_glob (v := .int (4)) rfl h_LEFT_OUT ⟨_, rfl⟩) (nomark _)))) (by intros; exact (pe_fldK (K := K) rfl (pv 2) rfl))) pa_nil)))), ?_⟩
    refine pur_body h fun x H0 hp => ?_
    obtain ⟨S, l⟩ := x
    obtain ⟨v, w, rfl, hS, wf, hw, hl⟩ := hp
    simp only [] at hS wf hw hl
    refine bk_ret (ed_is (ed_sum (ns := ((S.towns.zip l).filter fun b => b.2 != 4).map fun (b : Uw49.Town × Nat) => (b.1.worth : Int)) (ed_is (ed_lc (D := Pr (TownAt a) Nt) (items := S.towns.zip l) (fun b => b.2 != 4) (fun b => .int (b.1.worth : Int)) (src_zip mono_town mono_nt ((ca_cons (mono_ls mono_town) (R := fun vs G => ∃ w, vs = [w] ∧ Ls Nt l w G) (fun vs G G' e ⟨w, h1, h2⟩ => ⟨w, h1, mono_ls mono_nt _ _ _ e h2⟩) (by repeat' walk_at "ed") ((ea_cons (by walk_at "ed") ea_nil).imp fun vs G _ hv => ?_)).imp fun vs G _ ⟨x, xs, h1, h2, w', h3, h4⟩ => ⟨x, w', by rw [h1, h3], h2, h4⟩)) (by rw [List.length_zip]; have := wf.t; omega) fun b x G _ e hx => ?_) (congrArg PyData.list (map_ints _ _)))) (by rw [worth_eq S l hl]))
    · obtain ⟨w', rfl, h1⟩ := dn1 hv
      exact ⟨w', rfl, ls_nats h1⟩
    · obtain ⟨T1, y1, y2, rfl, hT, h1, rfl⟩ := hx
      exact cp_pair hT ⟨rfl, et_is (by repeat' walk_at "ed") (not_four b.2), fun _ => by repeat' walk_at "ed"⟩
structure GwOk (S : Uw49.Sheet) (l : List Nat) (c : Nat) : Prop where
  len : l.length < S.towns.length
  le : ∀ c ∈ l, c ≤ 4
  c4 : c ≤ 4
def sp_goes_with (a : Ad) : Sp := Pur (fun (x : Uw49.Sheet × List Nat × Nat) vs H => ∃ v w, vs = [v, w, .int (x.2.2 : Int)] ∧ SheetAt a x.1 v H ∧ Wf x.1 ∧ Dn H w (dNs x.2.1) ∧ GwOk x.1 x.2.1 x.2.2) fun x v G => Dn G v (.bool (goesWith x.1 x.2.1 x.2.2))
theorem len_goes_with {vs : List V} {H : Hp} {Q : VK} {E : XK} (h : sp_goes_with a vs H Q E) : vs.length = 3 := by obtain ⟨_, _, _, ⟨_, _, h, _⟩, _⟩ := h; rw [h]; rfl
theorem stands_le {l : List Nat} (h : ∀ c ∈ l, c ≤ 4) {i : Nat} (hi : i < l.length) (hs : Uw49.stands l i = true) : l.getD i 4 < 4 := by
  have h1 : l.getD i 4 ≤ 4 := by
    rw [List.getD_eq_getElem?_getD, List.getElem?_eq_getElem hi]
    exact h _ (List.getElem_mem hi)
  unfold Uw49.stands at hs
  have : l.getD i 4 ≠ 4 := by simpa using hs
  omega
theorem told_eq2 (l : List Nat) : ((List.range l.length).filter fun j => l.getD j 4 != 4).map (fun (j : Nat) => PyData.int (j : Int)) = (toldL l).map fun (n : Nat) => PyData.int (n : Int) := rfl
theorem ok_goes_with {f : Addr} {fd : FuncData} (F : Fun K "goes_with" "goes_with" s_goes_with f fd) (T : Tx K mg a) (c_clash : Cal P w K mg base CX0 2 "clash" ["sheet", "k", "corner", "other", "other_corner"] (sp_clash a)) : FnOk P w K mg base CX0 3 f fd ["sheet", "plan", "corner"] (sp_goes_with a) := by
  obtain ⟨t_LEFT_OUT, h_LEFT_OUT⟩ := T.g_LEFT_OUT
  refine F.ok sc_goes_with (fun vs H Q E h => ?_) (fun cdv A outer s H vs Q E hr h => ?_)
  · exact len_goes_with h
  · refine ⟨_, (pss_cons (ps_if (pt_cmpR op_eq (pv 2) (pe_glob (v := .int (4)) rfl h_LEFT_OUT ⟨_, rfl⟩) (nomark _)) (pss_one (ps_ret pe_bl)) pss_nil) (pss_cons (ps_set (i := 3) sc_goes_with.nd rfl (Or.inr rfl) (pe_callB call_len_seq rfl T.b_len PySem.boot_len (pa_cons (pv 1) pa_nil))) (pss_cons (ps_setLc (i := 4) (own := [("j", 5)]) rfl sc_goes_with.nd rfl rfl (sw_true rfl rfl rfl (by decide +kernel)) (pi_range1 rfl T.b_range (pa_cons (pv 3) pa_nil)) (blkOk_by (own := [("j", 5)]) (N := ["sheet", "plan", "corner", "k", "told", "j"]) (sc := defScope s_goes_with) (by decide +kernel)) (by intros; exact (pg_name (i := 5) sc_goes_with.nd rfl (Or.inl rfl))) (by intros; exact (pts_one (pt_cmpR op_ne (pe_ix (ix_listK (K := K) rfl) (pv 1) (pv 5) (fun _ _ => rfl)) (pe_glob (v := .int (4)) rfl h_LEFT_OUT ⟨_, rfl⟩) (nomark _)))) (by intros; exact (pv 5))) (pss_one (ps_ret (pe_not (pe_callB (cr_any rfl) rfl T.b_any (by decide +kernel) (pa_cons (pe_lc (own := [("j", 5)]) rfl sc_goes_with.nd (pi_list (pv 4)) (blkOk_by (own := [("j", 5)]) (N := ["sheet", "plan", "corner", "k", "told", "j"]) (sc := defScope s_goes_with) (by decide +kernel)) (by intros; exact (pg_name (i := 5) sc_goes_with.nd rfl (Or.inl rfl))) (by intros; exact pts_nil) (by intros; exact (pe_cal c_clash (hr.mono (by decide)) rfl pass0 (by exact (pa_cons (pv 0) (pa_cons (pv 5) (pa_cons (pe_ix (ix_listK (K := K) rfl) (pv 1) (pv 5) (fun _ _ => rfl)) (pa_cons (pv 3) (pa_cons (pv 2) pa_nil))))))))) pa_nil)))))))), ?_⟩
    refine pur_body h fun x H0 hp => ?_
    obtain ⟨S, l, c⟩ := x
    obtain ⟨v, w, rfl, hS, wf, hw, gw⟩ := hp
    simp only [] at hS wf hw gw
    have hlt := gw.len
    have ht4 := wf.t
    refine bk_when (b := decide ((c : Int) = 4)) (by repeat' walk_at "ed") (fun q => bk_ret (ed_is ed_bl ?_)) (fun q => ?_)
    · have : c = 4 := by have := of_decide_eq_true q; omega
      subst this
      rfl
    have hc : c < 4 := by have := of_decide_eq_false q; have := gw.c4; omega
    refine bk_asgI (n := (l.length : Int)) (ed_lenN (by walk_at "ed")) ?_
    refine bk_asg (R := fun v G => Dn G v (dNs (toldL l))) (ed_is (ed_lc (D := Nt) (items := List.range l.length) (fun j => l.getD j 4 != 4) (fun j => .int (j : Int)) (src_range (by repeat' walk_at "ed") (by omega)) (by rw [List.length_range]; omega) fun j x G hj e hx => ?_) (congrArg PyData.list (told_eq2 l))) fun t G e ht => ?_
    · obtain rfl := hx
      have hw1 := hw.mono e
      exact cp_name ⟨rfl, et_is (et_test (ed_ne (ed_ixN 4 (by walk_at "ed") (by walk_at "ed") (List.mem_range.mp hj)) (by walk_at "ed"))) (not_four _), fun _ => by walk_at "ed"⟩
    replace hS := mono_sheet _ _ _ _ e hS
    replace hw := hw.mono e
    refine bk_ret (ed_is (ed_not (ed_any (bs := (toldL l).map fun (j : Nat) => S.clash j (l.getD j 4) l.length c) (ed_is (ed_lc (D := Nt) (items := toldL l) (fun _ => true) (fun j => .bool (S.clash j (l.getD j 4) l.length c)) (src_nats (by walk_at "ed")) (by
      have := List.length_filter_le (Uw49.stands l) (List.range l.length)
      rw [List.length_range] at this
      unfold toldL
      omega) fun j x G1 hj e1 hx => ?_) (congrArg PyData.list (map_bools _ _))))) ?_)
    · obtain rfl := hx
      obtain ⟨jl, js⟩ := told_mem hj
      have hS1 := mono_sheet _ _ _ _ e1 hS
      have hw1 := hw.mono e1
      exact cp_name ⟨rfl, et_yes, fun _ => cp_clash (by walk_at "ed") (by walk_at "ed") (ed_ixN 4 (by walk_at "ed") (by walk_at "ed") jl) (by walk_at "ed") (by walk_at "ed") (by omega) (stands_le gw.le jl js) hlt hc⟩
    · show _ = PyData.bool (goesWith S l c)
      rw [any_id]
      unfold goesWith
      have : (c == 4) = false := by simp; omega
      rw [this]
      rfl
def sp_good_plans (a : Ad) : Sp := Pur (fun (x : Uw49.Sheet) vs H => ∃ v, vs = [v] ∧ SheetAt a x v H ∧ Wf x) fun x v G => Dn G v (dNss (goodPlans x))
theorem len_good_plans {vs : List V} {H : Hp} {Q : VK} {E : XK} (h : sp_good_plans a vs H Q E) : vs.length = 1 := by obtain ⟨_, _, _, ⟨_, h, _⟩, _⟩ := h; rw [h]; rfl
theorem cp_gw {σ : L2.St} {H : Hp} {t1 t2 t3 : TE} {S : Uw49.Sheet} {l : List Nat} {c : Nat} (wf : Wf S) (h1 : CP (t1 σ) H (SheetAt a S)) (h2 : ED t2 σ H (dNs l)) (h3 : ED t3 σ H (.int (c : Int))) (g : GwOk S l c) : ED (tCall (sp_goes_with a) [] E0 (tCons t1 (tCons t2 (tCons t3 tNil)))) σ H (.bool (goesWith S l c)) :=
  cp_call (x := (S, l, c)) (ca_cons (mono_sheet S) mono_all h1 (ea_cons h2 (ea_cons h3 ea_nil))) fun vs G _ ⟨x, xs, e, p, q⟩ => by
    obtain ⟨y, z, rfl, q1, q2⟩ := dn2 q
    rw [dn_int q2] at e
    exact ⟨x, y, e, p, wf, q1, g⟩
theorem snoc_eq (l : List Nat) (c : Nat) : (l.map fun (n : Nat) => PyData.int (n : Int)) ++ [PyData.int (c : Int)] = (l ++ [c]).map fun (n : Nat) => PyData.int (n : Int) := by rw [List.map_append]; rfl
theorem ed_snoc {σ : L2.St} {H : Hp} {ta tb : TE} {l : List Nat} {c : Nat} (ha : ED ta σ H (dNs l)) (hb : ED tb σ H (.int (c : Int))) (hl : l.length ≤ 1000) : ED (tOp rCat ta (tLst (tCons tb tNil))) σ H (dNs (l ++ [c])) :=
  ed_is (ed_cat ha (ed_lst (ea_cons hb ea_nil) (Nat.le_of_ble_eq_true rfl)) (by rw [List.length_map]; show l.length + 1 ≤ 100000; omega)) (congrArg PyData.list (snoc_eq l c))
theorem cor_eq (l m : List Nat) : (l.map fun (n : Nat) => PyData.int (n : Int)) ++ (m.map fun (n : Nat) => PyData.int (n : Int)) = (l ++ m).map fun (n : Nat) => PyData.int (n : Int) := by rw [List.map_append]
theorem step_eq (S : Uw49.Sheet) (found : List (List Nat)) (k : Nat) : (found.flatMap fun l => (((cornersOf S k).filter (goesWith S l)).map fun c => dNs (l ++ [c]))) = (planStep S found k).map dNs := by
  unfold planStep
  rw [List.map_flatMap]
  refine congrArg (fun f => List.flatMap f found) (funext fun l => ?_)
  rw [List.map_map]
  rfl
theorem ok_good_plans {f : Addr} {fd : FuncData} (F : Fun K "good_plans" "good_plans" s_good_plans f fd) (T : Tx K mg a) (c_fits : Cal P w K mg base CX0 2 "fits" ["sheet", "k", "corner"] (sp_fits a)) (c_goes_with : Cal P w K mg base CX0 3 "goes_with" ["sheet", "plan", "corner"] (sp_goes_with a)) : FnOk P w K mg base CX0 4 f fd ["sheet"] (sp_good_plans a) := by
  obtain ⟨t_CORNERS, h_CORNERS⟩ := T.g_CORNERS
  obtain ⟨t_LEFT_OUT, h_LEFT_OUT⟩ := T.g_LEFT_OUT
  refine F.ok sc_good_plans (fun vs H Q E h => ?_) (fun cdv A outer s H vs Q E hr h => ?_)
  · exact len_good_plans h
  · refine ⟨_, (pss_cons (ps_set (i := 1) sc_good_plans.nd rfl (Or.inl rfl) (pe_lst (pa_cons (pe_lst pa_nil) pa_nil))) (pss_cons (ps_for PassesOwn.never rfl (pi_range1 rfl T.b_range (pa_cons (pe_callB call_len_seq rfl T.b_len PySem.boot_len (pa_cons (pe_fldK (K := K) rfl (pv 0) rfl) pa_nil)) pa_nil)) (pg_name (i := 2) sc_good_plans.nd rfl (Or.inr rfl)) (pss_cons (ps_set (i := 3) sc_good_plans.nd rfl (Or.inl rfl) (pe_op op_cat (pe_lc (own := [("corner", 6)]) rfl sc_good_plans.nd (pi_range1 rfl T.b_range (pa_cons (pe_glob (v := .int (4)) rfl h_CORNERS ⟨_, rfl⟩) pa_nil)) (blkOk_by (own := [("corner", 6)]) (N := ["sheet", "found", "k", "corners", "longer", "plan", "corner"]) (sc := defScope s_good_plans) (by decide +kernel)) (by intros; exact (pg_name (i := 6) sc_good_plans.nd rfl (Or.inl rfl))) (by intros; exact (pts_one (pt_val (pe_cal c_fits (hr.mono (by decide)) rfl pass0 (by exact (pa_cons (pv 0) (pa_cons (pv 2) (pa_cons (pv 6) pa_nil)))))))) (by intros; exact (pv 6))) (pe_lst (pa_cons (pe_glob (v := .int (4)) rfl h_LEFT_OUT ⟨_, rfl⟩) pa_nil)))) (pss_cons (ps_set (i := 4) sc_good_plans.nd rfl (Or.inl rfl) (pe_lst pa_nil)) (pss_cons (ps_for PassesOwn.never rfl (pi_list (pv 1)) (pg_name (i := 5) sc_good_plans.nd rfl (Or.inr rfl)) (pss_one (ps_expr (pe_bm PySem.F.plainAttrs_list PySem.F.slot_list_extend PySem.F.type_list_extend mt_extend (pv 4) (pa_cons (pe_lc (own := [("corner", 6)]) rfl sc_good_plans.nd (pi_list (pv 3)) (blkOk_by (own := [("corner", 6)]) (N := ["sheet", "found", "k", "corners", "longer", "plan", "corner"]) (sc := defScope s_good_plans) (by decide +kernel)) (by intros; exact (pg_name (i := 6) sc_good_plans.nd rfl (Or.inl rfl))) (by intros; exact (pts_one (pt_val (pe_cal c_goes_with (hr.mono (by decide)) rfl pass0 (by exact (pa_cons (pv 0) (pa_cons (pv 5) (pa_cons (pv 6) pa_nil)))))))) (by intros; exact (pe_op op_cat (pv 5) (pe_lst (pa_cons (pv 6) pa_nil))))) pa_nil))))) (pss_one (ps_set (i := 1) sc_good_plans.nd rfl (Or.inl rfl) (pv 4))))))) (pss_one (ps_ret (pv 1))))), ?_⟩
    refine pur_body h fun S H0 hp => ?_
    obtain ⟨v, rfl, hS, wf⟩ := hp
    have ht4 := wf.t
    refine bk_asg (R := fun v G => Dn G v (dNss (plansTo S 0))) (show ED _ _ _ (.list [.list []]) from by repeat' walk_at "ed") fun f0 G0 e0 hf0 => ?_
    replace hS := mono_sheet _ _ _ _ e0 hS
    refine bk_seq (M := fun σ' G => ∃ f x2 x3 x4 x5 x6, σ' = [some v, some f, x2, x3, x4, x5, x6] ∧ Dn G f (dNss (goodPlans S))) (bk_forH (D := Nt) (items := List.range S.towns.length) mono_nt (src_range (ea_cons (ed_lenLs mono_town (by repeat' walk_at "ed")) ea_nil) (by omega)) (fun i σ' G => ∃ f x2 x3 x4 x5 x6, σ' = [some v, some f, x2, x3, x4, x5, x6] ∧ Dn G f (dNss (plansTo S i)) ∧ SheetAt a S v G) (fun i σ G G' e ⟨f, x2, x3, x4, x5, x6, h1, h2, h3⟩ => ⟨f, x2, x3, x4, x5, x6, h1, h2.mono e, mono_sheet _ _ _ _ e h3⟩) ⟨f0, none, none, none, none, none, rfl, hf0, hS⟩ (fun i k x G σ' hk e hx hJ => ?_) (fun σ' G e ⟨f, x2, x3, x4, x5, x6, h1, h2, h3⟩ => ⟨f, x2, x3, x4, x5, x6, h1, by rw [List.length_range] at h2; exact h2⟩)) fun σ' G e hM => ?_
    · obtain ⟨f, x2, x3, x4, x5, x6, rfl, hf, hS1⟩ := hJ
      obtain rfl := hx
      have hi : i < S.towns.length := by have := (List.getElem?_eq_some_iff.mp hk).1; rw [List.length_range] at this; exact this
      obtain rfl : k = i := by rw [List.getElem?_range hi] at hk; exact (Option.some.inj hk).symm
      refine cp_name ?_
      refine bk_asg (R := fun v G => Dn G v (dNs (cornersOf S k))) (ed_is (ed_cat (ds := ((List.range 4).filter (S.fits k)).map fun (n : Nat) => PyData.int (n : Int)) (es := [.int 4]) (ed_lc (D := Nt) (items := List.range 4) (S.fits k) (fun c => .int (c : Int)) (src_range (n := 4) (show EA _ _ _ [.int 4] from by repeat' walk_at "ed") (by decide)) (by decide) fun c x G1 hc e1 hx => ?_) (by repeat' walk_at "ed") (by
        rw [List.length_map]
        have := List.length_filter_le (S.fits k) (List.range 4)
        rw [List.length_range] at this
        show _ + 1 ≤ 100000
        omega)) (congrArg PyData.list (cor_eq _ [4]))) fun cs G1 e1 hcs => ?_
      · obtain rfl := hx
        have hS2 := mono_sheet _ _ _ _ e1 hS1
        exact cp_name ⟨rfl, et_B (cp_fits wf (by walk_at "ed") (by walk_at "ed") (by walk_at "ed") hi (List.mem_range.mp hc)), fun _ => by walk_at "ed"⟩
      replace hS1 := mono_sheet _ _ _ _ e1 hS1
      replace hf := hf.mono e1
      have few := plans_few wf (Nat.le_of_lt hi)
      refine bk_build (k := 4) (D := Nl) (items := plansTo S k) (fun l => ((cornersOf S k).filter (goesWith S l)).map fun c => dNs (l ++ [c])) (fun p => src_natss (by walk_at "ed")) (by
        refine Nat.le_trans (flat_len _ 5 _ fun l _ => ?_) (by omega)
        rw [List.length_map]
        exact Nat.le_trans (List.length_filter_le _ _) (corners_len S k)) (fun p i σ' => ∃ x5 x6, σ' = [some v, some f, some (.int (k : Int)), some cs, some (.ref p), x5, x6]) (fun p => ⟨_, _, rfl⟩) (fun p i l x G2 σ' hl e2 hx hJ => ?_) (fun p σ' G2 e2 hp hJ => ?_)
      · obtain ⟨x5, x6, rfl⟩ := hJ
        have hcs2 := hcs.mono e2
        have hS2 := mono_sheet _ _ _ _ e2 hS1
        have hx' : Dn G2 x (dNs l) := hx
        obtain ⟨pl1, pl2⟩ := plans_ok S k l (List.mem_of_getElem? hl)
        refine cp_name (ac_ext rfl (ed_lc (D := Nt) (items := cornersOf S k) (goesWith S l) (fun c => dNs (l ++ [c])) (src_nats (by walk_at "ed")) (by have := corners_len S k; omega) fun c y G3 hc e3 hy => ?_) ⟨_, _, rfl⟩)
        obtain rfl := hy
        have hS3 := mono_sheet _ _ _ _ e3 hS2
        have hx3 := hx'.mono e3
        exact cp_name ⟨rfl, et_B (cp_gw wf (by walk_at "ed") (by walk_at "ed") (by walk_at "ed") ⟨by omega, pl2, corners_mem hc⟩), fun _ => ed_snoc (by walk_at "ed") (by walk_at "ed") (by omega)⟩
      · obtain ⟨x5, x6, rfl⟩ := hJ
        rw [step_eq, ← plansTo_succ] at hp
        refine bk_asgG (R := fun v G => Dn G v (dNss (plansTo S (k + 1)))) (by walk_at "ed") fun w G3 e3 hw => CP.ret ⟨w, _, _, _, _, _, rfl, hw, mono_sheet _ _ _ _ (e2.trans e3) hS1⟩
    · obtain ⟨f, x2, x3, x4, x5, x6, rfl, hf⟩ := hM
      exact bk_ret (by walk_at "ed")
end
end Md

namespace Md
open PySem PySem.Spec PyProof.Rows L2
open Evl (Ex)
local macro_rules | `(tactic| walk_at "ed") => `(tactic| first
  | with_reducible exact ed_int | with_reducible exact ed_bl | with_reducible exact ed_non
  | ((with_reducible show ED (tVar _) _ _ _); refine ed_var rfl ?_; first | assumption | exact Dn.int _ | exact Dn.bl _)
  | ((with_reducible show CP (tVar _ _) _ _); refine cp_var rfl ?_; assumption)
  | with_reducible apply ed_add | with_reducible apply ed_sub | with_reducible apply ed_mul
  | with_reducible apply ed_lt | with_reducible apply ed_le | with_reducible apply ed_gt | with_reducible apply ed_ge
  | with_reducible apply ed_eq | with_reducible apply ed_ne | with_reducible apply ed_neg | with_reducible apply ed_isN | with_reducible apply ed_notN
  | ((with_reducible apply ed_swide); assumption) | ((with_reducible apply ed_shigh); assumption) | ((with_reducible apply ed_soff); assumption) | ((with_reducible apply ed_spoints); assumption)
  | ((with_reducible apply ed_twide); assumption) | ((with_reducible apply ed_thigh); assumption) | ((with_reducible apply ed_tworth); assumption) | ((with_reducible apply ed_tplace); assumption)
  | ((with_reducible apply cp_stowns); assumption)
  | with_reducible apply ed_ixT | with_reducible apply ed_ixL | with_reducible exact at_0 | with_reducible exact at_1 | with_reducible exact at_2 | with_reducible exact at_3 | with_reducible exact at_4
  | with_reducible apply ed_tup | with_reducible apply ed_lst | ((with_reducible show List.length _ ≤ 100000); exact Nat.le_of_ble_eq_true rfl)
  | with_reducible exact ea_nil | with_reducible apply ea_cons
  | with_reducible apply et_test | with_reducible apply et_B)
theorem cut_nat (ds : List Dt) (i k : Nat) : cutD ds (some (i : Int)) (some (k : Int)) = (ds.drop i).take (k - i) := by
  unfold cutD
  rw [HT.sIx_nat, HT.sIx_nat]
  by_cases h : i ≤ ds.length
  · rw [Nat.min_eq_left h]
    by_cases h2 : k ≤ ds.length
    · rw [Nat.min_eq_left h2]
    · rw [Nat.min_eq_right (by omega), List.take_of_length_le (by rw [List.length_drop]; omega), List.take_of_length_le (by rw [List.length_drop]; omega)]
  · rw [Nat.min_eq_right (show ds.length ≤ i by omega), List.drop_eq_nil_of_le (Nat.le_refl _), List.drop_eq_nil_of_le (show ds.length ≤ i by omega)]
    simp
theorem cut_from (ds : List Dt) (i : Nat) : cutD ds (some (i : Int)) none = ds.drop i := by
  unfold cutD
  rw [HT.sIx_nat, HT.sIx_none]
  by_cases h : i ≤ ds.length
  · rw [Nat.min_eq_left h, List.take_of_length_le (by rw [List.length_drop]; omega)]
  · rw [Nat.min_eq_right (by omega), List.drop_eq_nil_of_le (Nat.le_refl _), List.drop_eq_nil_of_le (by omega)]
    simp
/-- a point in the heap -/
def Pp : Nat × Nat → V → Hp → Prop := fun p x G => Dn G x (dPt ((p.1 : Int), (p.2 : Int)))
theorem mono_pp (p : Nat × Nat) : Mono (Pp p) := mono_dn
theorem any_cut (S : Uw49.Sheet) (i k : Nat) (f : Int × Int → Bool) : (((S.points.drop (i + 1)).take (k - (i + 1))).any fun p => f ((p.1 : Int), (p.2 : Int))) = (List.range S.points.length).any fun j => (decide (i < j) && decide (j < k)) && f (S.pt j) := by
  have pt : ∀ j p, S.points[j]? = some p → S.pt j = ((p.1 : Int), (p.2 : Int)) := fun j p h => by
    unfold Uw49.Sheet.pt
    rw [List.getD_eq_getElem?_getD, h]
    rfl
  rw [Bool.eq_iff_iff, List.any_eq_true, List.any_eq_true]
  constructor
  · rintro ⟨p, hp, hf⟩
    obtain ⟨m, hm⟩ := List.mem_iff_getElem?.mp hp
    rw [List.getElem?_take] at hm
    split at hm
    · rename_i hlt
      rw [List.getElem?_drop] at hm
      refine ⟨i + 1 + m, List.mem_range.mpr (List.getElem?_eq_some_iff.mp hm).1, ?_⟩
      rw [pt _ _ hm, hf]
      simp
      omega
    · cases hm
  · rintro ⟨j, hj, hf⟩
    simp only [Bool.and_eq_true, decide_eq_true_eq] at hf
    have hjl := List.mem_range.mp hj
    have he : S.points[j]? = some S.points[j] := List.getElem?_eq_getElem hjl
    refine ⟨S.points[j], List.mem_iff_getElem?.mpr ⟨j - (i + 1), ?_⟩, ?_⟩
    · rw [List.getElem?_take, if_pos (by omega), List.getElem?_drop]
      have : i + 1 + (j - (i + 1)) = j := by omega
      rw [this, he]
    · rw [← pt _ _ he]; exact hf.2
theorem may_eq (S : Uw49.Sheet) (i k : Nat) : (!((S.points.drop (i + 1)).take (k - (i + 1))).any fun p => isFarther ((p.1 : Int), (p.2 : Int)) (S.pt i) (S.pt k) (S.off : Int)) = S.may i k := by
  rw [any_cut S i k fun p => isFarther p (S.pt i) (S.pt k) (S.off : Int), List.not_any_eq_all_not]
  unfold Uw49.Sheet.may
  refine congrArg (fun f => List.all (List.range S.points.length) f) (funext fun j => ?_)
  rw [within_dist, Bool.not_and]
theorem steps_zip : ∀ l : List Nat, Uw49.steps l = l.zip (l.drop 1)
  | [] => rfl
  | [_] => rfl
  | a :: b :: r => by
    show (a, b) :: Uw49.steps (b :: r) = (a, b) :: (b :: r).zip r
    rw [steps_zip (b :: r)]
    rfl
abbrev dSteps (l : List Nat) : Dt := .list ((Uw49.steps l).map fun q => dPt ((q.1 : Int), (q.2 : Int)))
theorem steps_in {l : List Nat} {n : Nat} (h : ∀ x ∈ l, x < n) {q : Nat × Nat} (hq : q ∈ Uw49.steps l) : q.1 < n ∧ q.2 < n := by
  rw [steps_zip] at hq
  obtain ⟨h1, h2⟩ := List.of_mem_zip (a := q.1) (b := q.2) hq
  exact ⟨h _ h1, h _ (List.mem_of_mem_drop h2)⟩
theorem steps_len (l : List Nat) : (Uw49.steps l).length ≤ l.length := by rw [steps_zip, List.length_zip, List.length_drop]; omega
/-- the first of a list -/
theorem find_at_some {α : Type} {l : List α} {p : α → Bool} {i : Nat} {x : α} (hi : l[i]? = some x) (hp : p x = true) (h : ∀ y ∈ l.take i, p y = false) : l.find? p = some x := by
  obtain ⟨q1, q2⟩ := List.getElem?_eq_some_iff.mp hi
  have e : l = l.take i ++ x :: l.drop (i + 1) := by rw [← q2, List.getElem_cons_drop, List.take_append_drop]
  rw [e, List.find?_append]
  have n1 : (l.take i).find? p = none := by
    rw [List.find?_eq_none]
    intro y hy
    rw [h y hy]
    exact Bool.false_ne_true
  rw [n1, Option.none_or, List.find?_cons]
  simp only [hp]
theorem take_more {α : Type} {l : List α} {i : Nat} {x : α} (hi : l[i]? = some x) {p : α → Bool} (h : ∀ y ∈ l.take i, p y = false) (hx : p x = false) : ∀ y ∈ l.take (i + 1), p y = false := by
  intro y hy
  rw [List.take_add_one, hi] at hy
  rcases List.mem_append.mp hy with z | z
  · exact h y z
  · have : y = x := by simpa using z
    rw [this]; exact hx
/-- a stretch of the choice through a name -/
def thrP (S : Uw49.Sheet) (k m : Nat) (q : Nat × Nat) : Bool := Uw49.through (S.pt q.1) (S.pt q.2) (Uw49.boxOf (S.town k) m)
def thr (S : Uw49.Sheet) (c : List Nat) (k m : Nat) : Option Nat := ((Uw49.steps c).find? (thrP S k m)).map fun x => x.1
def chStep (found : List (List Nat)) (n : Nat) : List (List Nat) := found ++ found.map fun c => c ++ [n]
def chTo (k : Nat) : List (List Nat) := ((List.range k).map (1 + ·)).foldl chStep [[0]]
def allChoices (last : Nat) : List (List Nat) := (chTo (last - 1)).map fun c => c ++ [last]
theorem chTo_succ (k : Nat) : chTo (k + 1) = chStep (chTo k) (1 + k) := by
  unfold chTo
  rw [List.range_succ, List.map_append, List.foldl_append]
  rfl
theorem chTo_len : ∀ k, (chTo k).length ≤ 2 ^ k
  | 0 => by simp [chTo]
  | k + 1 => by
    have := chTo_len k
    rw [chTo_succ, Nat.pow_succ]
    unfold chStep
    rw [List.length_append, List.length_map]
    omega
theorem chTo_in : ∀ k, ∀ c ∈ chTo k, c.length ≤ k + 1 ∧ ∀ x ∈ c, x ≤ k
  | 0, c, h => by
    have : c = [0] := by simpa [chTo] using h
    subst this
    exact ⟨Nat.le_refl _, fun x hx => by have : x = 0 := by simpa using hx
                                         omega⟩
  | k + 1, c, h => by
    rw [chTo_succ] at h
    unfold chStep at h
    rcases List.mem_append.mp h with h | h
    · obtain ⟨h1, h2⟩ := chTo_in k c h
      exact ⟨by omega, fun x hx => by have := h2 x hx; omega⟩
    · obtain ⟨d, hd, rfl⟩ := List.mem_map.mp h
      obtain ⟨h1, h2⟩ := chTo_in k d hd
      refine ⟨by rw [List.length_append]; show d.length + 1 ≤ _; omega, fun x hx => ?_⟩
      rcases List.mem_append.mp hx with q | q
      · have := h2 x q; omega
      · have : x = 1 + k := by simpa using q
        omega
theorem all_in {last : Nat} (hl : 1 ≤ last) : ∀ c ∈ allChoices last, c.length ≤ last + 1 ∧ ∀ x ∈ c, x ≤ last := by
  intro c h
  obtain ⟨d, hd, rfl⟩ := List.mem_map.mp h
  obtain ⟨h1, h2⟩ := chTo_in _ d hd
  refine ⟨by rw [List.length_append]; show d.length + 1 ≤ _; omega, fun x hx => ?_⟩
  rcases List.mem_append.mp hx with q | q
  · have := h2 x q; omega
  · have : x = last := by simpa using q
    omega
theorem all_few {last : Nat} (hl : last ≤ 6) : (allChoices last).length ≤ 32 := by
  unfold allChoices
  rw [List.length_map]
  have h1 := chTo_len (last - 1)
  have h2 : 2 ^ (last - 1) ≤ 2 ^ 5 := Nat.pow_le_pow_right (by decide) (by omega)
  have h3 : 2 ^ 5 = 32 := by decide
  omega
def goodChoices (S : Uw49.Sheet) : List (List Nat) := (allChoices (S.points.length - 1)).filter fun c => (S.badStep c).isNone
def cornersHit (S : Uw49.Sheet) (c : List Nat) : List (List Nat) := (List.range S.towns.length).map fun k => (List.range 4).filter fun m => (thr S c k m).isSome
theorem opt_none : ∀ o : Option Nat, isNone (dOpt o) = o.isNone
  | none => rfl
  | some _ => rfl
theorem opt_some : ∀ o : Option Nat, (!isNone (dOpt o)) = o.isSome
  | none => rfl
  | some _ => rfl
/-- the choice's points are there -/
structure ChIn (S : Uw49.Sheet) (c : List Nat) : Prop where
  pts : ∀ x ∈ c, x < S.points.length
  len : c.length ≤ 100
section
variable {P : Program} {w : World} {K : PySem.W.Frag} {mg : Str → Option Value} {base : Heap} {a : Ad}
def sp_may_be_drawn (a : Ad) : Sp := Pur (fun (x : Uw49.Sheet × Nat × Nat) vs H => ∃ v, vs = [v, .int (x.2.1 : Int), .int (x.2.2 : Int)] ∧ SheetAt a x.1 v H ∧ Wf x.1 ∧ x.2.1 < x.1.points.length ∧ x.2.2 < x.1.points.length) fun x v G => Dn G v (.bool (x.1.may x.2.1 x.2.2))
theorem len_may_be_drawn {vs : List V} {H : Hp} {Q : VK} {E : XK} (h : sp_may_be_drawn a vs H Q E) : vs.length = 3 := by obtain ⟨_, _, _, ⟨_, h, _⟩, _⟩ := h; rw [h]; rfl
theorem ok_may_be_drawn {f : Addr} {fd : FuncData} (F : Fun K "may_be_drawn" "may_be_drawn" s_may_be_drawn f fd) (T : Tx K mg a) (c_is_farther : Cal P w K mg base CX0 2 "is_farther" ["place", "begin", "end", "square"] (sp_is_farther a)) : FnOk P w K mg base CX0 3 f fd ["sheet", "begin", "end"] (sp_may_be_drawn a) := by
  refine F.ok sc_may_be_drawn (fun vs H Q E h => ?_) (fun cdv A outer s H vs Q E hr h => ?_)
  · exact len_may_be_drawn h
  · refine ⟨_, (pss_cons (ps_asg (pe_tup (pa_cons (pe_ix (ix_listK (K := K) rfl) (pe_fldK (K := K) rfl (pv 0) rfl) (pv 1) (fun _ _ => rfl)) (pa_cons (pe_ix (ix_listK (K := K) rfl) (pe_fldK (K := K) rfl (pv 0) rfl) (pv 2) (fun _ _ => rfl)) pa_nil))) (pg_tupK (K := K) (n := 2) rfl rfl (pgs_cons (pg_name (i := 3) sc_may_be_drawn.nd rfl (Or.inr rfl)) (pgs_cons (pg_name (i := 4) sc_may_be_drawn.nd rfl (Or.inr rfl)) pgs_nil)))) (pss_one (ps_ret (pe_not (pe_callB (cr_any rfl) rfl T.b_any (by decide +kernel) (pa_cons (pe_lc (own := [("place", 5)]) rfl sc_may_be_drawn.nd (pi_list (pe_slice (sl_listK (K := K) rfl) (pe_fldK (K := K) rfl (pv 0) rfl) (po_some (pe_op op_add (pv 1) pe_int)) (po_some (pv 2)))) (blkOk_by (own := [("place", 5)]) (N := ["sheet", "begin", "end", "one", "other", "place"]) (sc := defScope s_may_be_drawn) (by decide +kernel)) (by intros; exact (pg_name (i := 5) sc_may_be_drawn.nd rfl (Or.inl rfl))) (by intros; exact pts_nil) (by intros; exact (pe_cal c_is_farther (hr.mono (by decide)) rfl pass0 (by exact (pa_cons (pv 5) (pa_cons (pv 3) (pa_cons (pv 4) (pa_cons (pe_fldK (K := K) rfl (pv 0) rfl) pa_nil)))))))) pa_nil)))))), ?_⟩
    refine pur_body h fun x H0 hp => ?_
    obtain ⟨S, i, k⟩ := x
    obtain ⟨v, rfl, hS, wf, hi, hk⟩ := hp
    simp only [] at hS wf hi hk
    refine bk_seq (M := fun σ' G => ∃ v1 v2, σ' = [some v, some (.int (i : Int)), some (.int (k : Int)), some v1, some v2, none] ∧ Dn G v1 (dPt (S.pt i)) ∧ Dn G v2 (dPt (S.pt k))) (bk_asgG (R := fun v G => Dn G v (.tuple [dPt (S.pt i), dPt (S.pt k)])) (ed_tup (ea_cons (ed_spt T (by walk_at "ed") (by walk_at "ed") hi) (ea_cons (ed_spt T (by walk_at "ed") (by walk_at "ed") hk) ea_nil)) (Nat.le_of_ble_eq_true rfl)) fun w G e hw => cp_pairD hw fun x1 x2 h1 h2 => ⟨x1, x2, rfl, h1, h2⟩) fun σ' G e hM => ?_
    obtain ⟨v1, v2, rfl, h1, h2⟩ := hM
    replace hS := mono_sheet _ _ _ _ e hS
    refine bk_ret (ed_is (ed_not (ed_any (bs := ((S.points.drop (i + 1)).take (k - (i + 1))).map fun (p : Nat × Nat) => isFarther ((p.1 : Int), (p.2 : Int)) (S.pt i) (S.pt k) (S.off : Int)) (ed_is (ed_lc (D := Pp) (items := (S.points.drop (i + 1)).take (k - (i + 1))) (fun _ => true) (fun p => .bool (isFarther ((p.1 : Int), (p.2 : Int)) (S.pt i) (S.pt k) (S.off : Int))) (src_map (f := fun (p : Nat × Nat) => dPt ((p.1 : Int), (p.2 : Int))) (src_list (ed_is (ed_slL (lo := some ((i + 1 : Nat) : Int)) (hi := some (k : Int)) (by repeat' walk_at "ed") (eo_some (ed_is (d1 := .int ((i : Int) + 1)) (by repeat' walk_at "ed") (by rw [Int.natCast_add]; rfl))) (eo_some (by walk_at "ed"))) (by rw [cut_nat, ← List.map_drop, ← List.map_take])))) (by
      rw [List.length_take, List.length_drop]; have := wf.p2; omega) fun p x G1 hp e1 hx => cp_name ⟨rfl, et_yes, fun _ => ?_⟩) (congrArg PyData.list (map_bools _ _))))) ?_)
    · have hS1 := mono_sheet _ _ _ _ e1 hS
      have h11 := h1.mono e1
      have h21 := h2.mono e1
      have hx' : Dn G1 x (dPt ((p.1 : Int), (p.2 : Int))) := hx
      refine cp_call (x := (((p.1 : Int), (p.2 : Int)), S.pt i, S.pt k, (S.off : Int))) (A := fun vs G => DnAll G vs [dPt ((p.1 : Int), (p.2 : Int)), dPt (S.pt i), dPt (S.pt k), .int (S.off : Int)]) (ea_cons (by walk_at "ed") (ea_cons (by walk_at "ed") (ea_cons (by walk_at "ed") (ea_cons (by repeat' walk_at "ed") ea_nil)))) fun vs G _ z => ⟨z, ?_, sm_up (pt_sm wf i), sm_up (pt_sm wf k), ?_⟩
      · have hm := wf.pts p (List.mem_of_mem_drop (List.mem_of_mem_take hp))
        have := wf.w2
        have := wf.h2
        unfold SmP Sm
        simp only []
        omega
      · have := wf.o
        unfold Sm
        simp only []
        omega
    · show _ = PyData.bool (S.may i k)
      rw [any_id, ← may_eq]
def sp_stretches (_ : Ad) : Sp := Pur (fun (x : List Nat) vs H => ∃ w, vs = [w] ∧ Dn H w (dNs x)) fun x v G => Dn G v (dSteps x)
theorem len_stretches {vs : List V} {H : Hp} {Q : VK} {E : XK} (h : sp_stretches a vs H Q E) : vs.length = 1 := by obtain ⟨_, _, _, ⟨_, h, _⟩, _⟩ := h; rw [h]; rfl
theorem steps_dt (l : List Nat) : (((l.map fun (n : Nat) => PyData.int (n : Int)).zip ((l.map fun (n : Nat) => PyData.int (n : Int)).drop 1)).map fun q => PyData.tuple [q.1, q.2]) = (Uw49.steps l).map fun q => dPt ((q.1 : Int), (q.2 : Int)) := by
  rw [← List.map_drop, List.zip_map, List.map_map, steps_zip]
  rfl
theorem ok_stretches {f : Addr} {fd : FuncData} (F : Fun K "stretches" "stretches" s_stretches f fd) (T : Tx K mg a)  : FnOk P w K mg base CX0 1 f fd ["choice"] (sp_stretches a) := by
  refine F.ok sc_stretches (fun vs H Q E h => ?_) (fun cdv A outer s H vs Q E hr h => ?_)
  · exact len_stretches h
  · refine ⟨_, (pss_one (ps_ret (pe_listZip rfl rfl T.b_list (by decide +kernel) rfl T.b_zip (pa_cons (pv 0) (pa_cons (pe_slice (sl_listK (K := K) rfl) (pv 0) (po_some pe_int) po_none) pa_nil))))), ?_⟩
    refine pur_body h fun l H0 hp => ?_
    obtain ⟨w, rfl, hw⟩ := hp
    exact bk_ret (ed_is (ed_zip (es := (l.map fun (n : Nat) => PyData.int (n : Int)).drop 1) (ea_cons (by walk_at "ed") (ea_cons (ed_is (ed_slL (lo := some ((1 : Nat) : Int)) (hi := none) (by walk_at "ed") (eo_some (show ED _ _ _ (.int 1) from by walk_at "ed")) eo_none) (by rw [cut_from])) ea_nil))) (congrArg PyData.list (steps_dt l)))
def sp_first_undrawn (a : Ad) : Sp := Pur (fun (x : Uw49.Sheet × List Nat) vs H => ∃ v w, vs = [v, w] ∧ SheetAt a x.1 v H ∧ Wf x.1 ∧ Dn H w (dNs x.2) ∧ ChIn x.1 x.2) fun x v G => Dn G v (dOpt (x.1.badStep x.2))
theorem len_first_undrawn {vs : List V} {H : Hp} {Q : VK} {E : XK} (h : sp_first_undrawn a vs H Q E) : vs.length = 2 := by obtain ⟨_, _, _, ⟨_, _, h, _⟩, _⟩ := h; rw [h]; rfl
theorem cp_may {σ : L2.St} {H : Hp} {t1 t2 t3 : TE} {S : Uw49.Sheet} {i k : Nat} (wf : Wf S) (h1 : CP (t1 σ) H (SheetAt a S)) (h2 : ED t2 σ H (.int (i : Int))) (h3 : ED t3 σ H (.int (k : Int))) (hi : i < S.points.length) (hk : k < S.points.length) : ED (tCall (sp_may_be_drawn a) [] E0 (tCons t1 (tCons t2 (tCons t3 tNil)))) σ H (.bool (S.may i k)) :=
  cp_call (x := (S, i, k)) (ca_cons (mono_sheet S) mono_all h1 (ea_cons h2 (ea_cons h3 ea_nil))) fun vs G _ ⟨x, xs, e, p, q⟩ => by
    obtain ⟨y, z, rfl, q1, q2⟩ := dn2 q
    rw [dn_int q1, dn_int q2] at e
    exact ⟨x, e, p, wf, hi, hk⟩
theorem src_steps {K : PySem.W.Frag} {σ : L2.St} {H : Hp} {t1 : TE} {l : List Nat} (h : ED t1 σ H (dNs l)) : Src (iList K (tCall (sp_stretches a) [] E0 (tCons t1 tNil))) σ H (Uw49.steps l) Pp :=
  src_map (f := fun (p : Nat × Nat) => dPt ((p.1 : Int), (p.2 : Int))) (src_list (cp_call (x := l) (ea_cons h ea_nil) fun vs G _ q => by
    obtain ⟨y, rfl, q1⟩ := dn1 q
    exact ⟨y, rfl, q1⟩))
theorem ok_first_undrawn {f : Addr} {fd : FuncData} (F : Fun K "first_undrawn" "first_undrawn" s_first_undrawn f fd) (T : Tx K mg a) (c_stretches : Cal P w K mg base CX0 1 "stretches" ["choice"] (sp_stretches a)) (c_may_be_drawn : Cal P w K mg base CX0 3 "may_be_drawn" ["sheet", "begin", "end"] (sp_may_be_drawn a)) : FnOk P w K mg base CX0 4 f fd ["sheet", "choice"] (sp_first_undrawn a) := by
  refine F.ok sc_first_undrawn (fun vs H Q E h => ?_) (fun cdv A outer s H vs Q E hr h => ?_)
  · exact len_first_undrawn h
  · refine ⟨_, (pss_cons (ps_for PassesOwn.never rfl (pi_list (pe_cal c_stretches (hr.mono (by decide)) rfl pass0 (by exact (pa_cons (pv 1) pa_nil)))) (pg_tupK (K := K) (n := 2) rfl rfl (pgs_cons (pg_name (i := 2) sc_first_undrawn.nd rfl (Or.inl rfl)) (pgs_cons (pg_name (i := 3) sc_first_undrawn.nd rfl (Or.inl rfl)) pgs_nil))) (pss_one (ps_if (pt_not (pt_val (pe_cal c_may_be_drawn (hr.mono (by decide)) rfl pass0 (by exact (pa_cons (pv 0) (pa_cons (pv 2) (pa_cons (pv 3) pa_nil))))))) (pss_one (ps_ret (pv 2))) pss_nil))) (pss_one (ps_ret pe_non))), ?_⟩
    refine pur_body h fun x H0 hp => ?_
    obtain ⟨S, l⟩ := x
    obtain ⟨v, w, rfl, hS, wf, hw, ch⟩ := hp
    simp only [] at hS wf hw ch
    refine bk_seq (M := fun _ _ => ∀ q ∈ Uw49.steps l, (!S.may q.1 q.2) = false) (bk_for (D := Pp) (items := Uw49.steps l) (src_steps (by walk_at "ed")) (fun i σ' => (∃ x2 x3, σ' = [some v, some w, x2, x3]) ∧ ∀ q ∈ (Uw49.steps l).take i, (!S.may q.1 q.2) = false) ⟨⟨none, none, rfl⟩, fun q hq => by cases hq⟩ (fun i q x G σ' hq e hx hJ => ?_) (fun σ' G e hJ => by rw [List.take_length] at hJ; exact hJ.2)) fun σ' G e hM => ?_
    · obtain ⟨⟨x2, x3, rfl⟩, hJ⟩ := hJ
      have hS1 := mono_sheet _ _ _ _ e hS
      obtain ⟨q1, q2⟩ := steps_in ch.pts (List.mem_of_getElem? hq)
      refine cp_pairD hx fun y1 y2 g1 g2 => ?_
      refine bk_if (b := !S.may q.1 q.2) (et_not (et_B (cp_may wf (by walk_at "ed") (by walk_at "ed") (by walk_at "ed") q1 q2))) (fun z => bk_ret (ed_is (d1 := .int (q.1 : Int)) (by walk_at "ed") ?_)) (fun z => bk_next ⟨⟨_, _, rfl⟩, take_more hq hJ z⟩)
      show _ = dOpt (S.badStep l)
      unfold Uw49.Sheet.badStep
      rw [find_at_some hq z hJ]
      rfl
    · refine bk_ret (ed_is ed_non ?_)
      show _ = dOpt (S.badStep l)
      unfold Uw49.Sheet.badStep
      rw [List.find?_eq_none.mpr (fun q hq => by rw [hM q hq]; exact Bool.false_ne_true)]
      rfl
structure GtOk (S : Uw49.Sheet) (i k j m : Nat) : Prop where
  i : i < S.points.length
  k : k < S.points.length
  j : j < S.towns.length
  m : m < 4
def sp_goes_through (a : Ad) : Sp := Pur (fun (x : Uw49.Sheet × Nat × Nat × Nat × Nat) vs H => ∃ v, vs = [v, .int (x.2.1 : Int), .int (x.2.2.1 : Int), .int (x.2.2.2.1 : Int), .int (x.2.2.2.2 : Int)] ∧ SheetAt a x.1 v H ∧ Wf x.1 ∧ GtOk x.1 x.2.1 x.2.2.1 x.2.2.2.1 x.2.2.2.2) fun x v G => Dn G v (.bool (Uw49.through (x.1.pt x.2.1) (x.1.pt x.2.2.1) (Uw49.boxOf (x.1.town x.2.2.2.1) x.2.2.2.2)))
theorem len_goes_through {vs : List V} {H : Hp} {Q : VK} {E : XK} (h : sp_goes_through a vs H Q E) : vs.length = 5 := by obtain ⟨_, _, _, ⟨_, h, _⟩, _⟩ := h; rw [h]; rfl
theorem ok_goes_through {f : Addr} {fd : FuncData} (F : Fun K "goes_through" "goes_through" s_goes_through f fd) (T : Tx K mg a) (c_goes_within : Cal P w K mg base CX0 2 "goes_within" ["begin", "end", "box"] (sp_goes_within a)) (c_Town_box : MCal P w K mg base CX0 1 a.town "box" ["self", "corner"] (sp_Town_box a)) : FnOk P w K mg base CX0 3 f fd ["sheet", "begin", "end", "k", "corner"] (sp_goes_through a) := by
  refine F.ok sc_goes_through (fun vs H Q E h => ?_) (fun cdv A outer s H vs Q E hr h => ?_)
  · exact len_goes_through h
  · refine ⟨_, (pss_one (ps_ret (pe_cal c_goes_within (hr.mono (by decide)) rfl pass0 (by exact (pa_cons (pe_ix (ix_listK (K := K) rfl) (pe_fldK (K := K) rfl (pv 0) rfl) (pv 1) (fun _ _ => rfl)) (pa_cons (pe_ix (ix_listK (K := K) rfl) (pe_fldK (K := K) rfl (pv 0) rfl) (pv 2) (fun _ _ => rfl)) (pa_cons (pe_mt c_Town_box (by exact (pe_ix (ix_listK (K := K) rfl) (pe_fldK (K := K) rfl (pv 0) rfl) (pv 3) (fun _ _ => rfl))) (hr.mono (by decide)) pass0 (by exact (pa_cons (pv 4) pa_nil))) pa_nil))))))), ?_⟩
    refine pur_body h fun x H0 hp => ?_
    obtain ⟨S, i, k, j, m⟩ := x
    obtain ⟨v, rfl, hS, wf, g⟩ := hp
    simp only [] at hS wf g
    refine bk_ret (CP.imp (cp_call (x := (S.pt i, S.pt k, bxOf (S.town j) m)) (A := fun vs G => DnAll G vs [dPt (S.pt i), dPt (S.pt k), dBx (bxOf (S.town j) m)]) (ea_cons (ed_spt T (by walk_at "ed") (by walk_at "ed") g.i) (ea_cons (ed_spt T (by walk_at "ed") (by walk_at "ed") g.k) (ea_cons (cp_box (cp_town T (by walk_at "ed") (by walk_at "ed") g.j) (by walk_at "ed") g.m) ea_nil))) fun vs G _ z => ⟨z, pt_sm wf i, pt_sm wf k, bxOf_sm wf (town_mem g.j) m⟩) fun v G _ z => ?_)
    obtain ⟨l1, l2⟩ := bxOf_lt wf (town_mem g.j) m
    have e := goes_eq (S.pt i) (S.pt k) (bxOf (S.town j) m) l1 l2
    have z' : Dn G v (.bool (goesWithin (S.pt i) (S.pt k) (bxOf (S.town j) m))) := z
    rw [e] at z'
    exact z'
def sp_first_through (a : Ad) : Sp := Pur (fun (x : Uw49.Sheet × List Nat × Nat × Nat) vs H => ∃ v w, vs = [v, w, .int (x.2.2.1 : Int), .int (x.2.2.2 : Int)] ∧ SheetAt a x.1 v H ∧ Wf x.1 ∧ Dn H w (dNs x.2.1) ∧ ChIn x.1 x.2.1 ∧ x.2.2.1 < x.1.towns.length ∧ x.2.2.2 < 4) fun x v G => Dn G v (dOpt (thr x.1 x.2.1 x.2.2.1 x.2.2.2))
theorem len_first_through {vs : List V} {H : Hp} {Q : VK} {E : XK} (h : sp_first_through a vs H Q E) : vs.length = 4 := by obtain ⟨_, _, _, ⟨_, _, h, _⟩, _⟩ := h; rw [h]; rfl
theorem cp_gt {σ : L2.St} {H : Hp} {t1 t2 t3 t4 t5 : TE} {S : Uw49.Sheet} {i k j m : Nat} (wf : Wf S) (h1 : CP (t1 σ) H (SheetAt a S)) (h2 : ED t2 σ H (.int (i : Int))) (h3 : ED t3 σ H (.int (k : Int))) (h4 : ED t4 σ H (.int (j : Int))) (h5 : ED t5 σ H (.int (m : Int))) (g : GtOk S i k j m) : ED (tCall (sp_goes_through a) [] E0 (tCons t1 (tCons t2 (tCons t3 (tCons t4 (tCons t5 tNil)))))) σ H (.bool (Uw49.through (S.pt i) (S.pt k) (Uw49.boxOf (S.town j) m))) :=
  cp_call (x := (S, i, k, j, m)) (ca_cons (mono_sheet S) mono_all h1 (ea_cons h2 (ea_cons h3 (ea_cons h4 (ea_cons h5 ea_nil))))) fun vs G _ ⟨x, xs, e, p, q⟩ => by
    obtain ⟨y1, y2, y3, y4, rfl, q1, q2, q3, q4⟩ := dn4 q
    rw [dn_int q1, dn_int q2, dn_int q3, dn_int q4] at e
    exact ⟨x, e, p, wf, g⟩
theorem ok_first_through {f : Addr} {fd : FuncData} (F : Fun K "first_through" "first_through" s_first_through f fd) (T : Tx K mg a) (c_stretches : Cal P w K mg base CX0 1 "stretches" ["choice"] (sp_stretches a)) (c_goes_through : Cal P w K mg base CX0 3 "goes_through" ["sheet", "begin", "end", "k", "corner"] (sp_goes_through a)) : FnOk P w K mg base CX0 4 f fd ["sheet", "choice", "k", "corner"] (sp_first_through a) := by
  refine F.ok sc_first_through (fun vs H Q E h => ?_) (fun cdv A outer s H vs Q E hr h => ?_)
  · exact len_first_through h
  · refine ⟨_, (pss_cons (ps_for PassesOwn.never rfl (pi_list (pe_cal c_stretches (hr.mono (by decide)) rfl pass0 (by exact (pa_cons (pv 1) pa_nil)))) (pg_tupK (K := K) (n := 2) rfl rfl (pgs_cons (pg_name (i := 4) sc_first_through.nd rfl (Or.inl rfl)) (pgs_cons (pg_name (i := 5) sc_first_through.nd rfl (Or.inl rfl)) pgs_nil))) (pss_one (ps_if (pt_val (pe_cal c_goes_through (hr.mono (by decide)) rfl pass0 (by exact (pa_cons (pv 0) (pa_cons (pv 4) (pa_cons (pv 5) (pa_cons (pv 2) (pa_cons (pv 3) pa_nil)))))))) (pss_one (ps_ret (pv 4))) pss_nil))) (pss_one (ps_ret pe_non))), ?_⟩
    refine pur_body h fun x H0 hp => ?_
    obtain ⟨S, l, k, m⟩ := x
    obtain ⟨v, w, rfl, hS, wf, hw, ch, hk, hm⟩ := hp
    simp only [] at hS wf hw ch hk hm
    refine bk_seq (M := fun _ _ => ∀ q ∈ Uw49.steps l, thrP S k m q = false) (bk_for (D := Pp) (items := Uw49.steps l) (src_steps (by walk_at "ed")) (fun i σ' => (∃ x2 x3, σ' = [some v, some w, some (.int (k : Int)), some (.int (m : Int)), x2, x3]) ∧ ∀ q ∈ (Uw49.steps l).take i, thrP S k m q = false) ⟨⟨none, none, rfl⟩, fun q hq => by cases hq⟩ (fun i q x G σ' hq e hx hJ => ?_) (fun σ' G e hJ => by rw [List.take_length] at hJ; exact hJ.2)) fun σ' G e hM => ?_
    · obtain ⟨⟨x2, x3, rfl⟩, hJ⟩ := hJ
      have hS1 := mono_sheet _ _ _ _ e hS
      obtain ⟨q1, q2⟩ := steps_in ch.pts (List.mem_of_getElem? hq)
      refine cp_pairD hx fun y1 y2 g1 g2 => ?_
      refine bk_if (b := thrP S k m q) (et_is (et_B (cp_gt wf (by walk_at "ed") (by walk_at "ed") (by walk_at "ed") (by walk_at "ed") (by walk_at "ed") ⟨q1, q2, hk, hm⟩)) rfl) (fun z => bk_ret (ed_is (d1 := .int (q.1 : Int)) (by walk_at "ed") ?_)) (fun z => bk_next ⟨⟨_, _, rfl⟩, take_more hq hJ z⟩)
      show _ = dOpt (thr S l k m)
      unfold thr
      rw [find_at_some hq z hJ]
      rfl
    · refine bk_ret (ed_is ed_non ?_)
      show _ = dOpt (thr S l k m)
      unfold thr
      rw [List.find?_eq_none.mpr (fun q hq => by rw [hM q hq]; exact Bool.false_ne_true)]
      rfl
def sp_all_choices (a : Ad) : Sp := Pur (fun (x : Uw49.Sheet) vs H => ∃ v, vs = [v] ∧ SheetAt a x v H ∧ Wf x) fun x v G => Dn G v (dNss (allChoices (x.points.length - 1)))
theorem len_all_choices {vs : List V} {H : Hp} {Q : VK} {E : XK} (h : sp_all_choices a vs H Q E) : vs.length = 1 := by obtain ⟨_, _, _, ⟨_, h, _⟩, _⟩ := h; rw [h]; rfl
theorem snocs_eq (ls : List (List Nat)) (n : Nat) : ((ls.filter fun _ => true).map fun c => dNs (c ++ [n])) = (ls.map fun c => c ++ [n]).map dNs := by
  rw [List.filter_eq_self.mpr (fun _ _ => rfl), List.map_map]
  rfl
theorem ok_all_choices {f : Addr} {fd : FuncData} (F : Fun K "all_choices" "all_choices" s_all_choices f fd) (T : Tx K mg a)  : FnOk P w K mg base CX0 1 f fd ["sheet"] (sp_all_choices a) := by
  refine F.ok sc_all_choices (fun vs H Q E h => ?_) (fun cdv A outer s H vs Q E hr h => ?_)
  · exact len_all_choices h
  · refine ⟨_, (pss_cons (ps_set (i := 1) sc_all_choices.nd rfl (Or.inr rfl) (pe_op op_sub (pe_callB call_len_seq rfl T.b_len PySem.boot_len (pa_cons (pe_fldK (K := K) rfl (pv 0) rfl) pa_nil)) pe_int)) (pss_cons (ps_set (i := 2) sc_all_choices.nd rfl (Or.inl rfl) (pe_lst (pa_cons (pe_lst (pa_cons pe_int pa_nil)) pa_nil))) (pss_cons (ps_for PassesOwn.never rfl (pi_range2 rfl T.b_range (pa_cons pe_int (pa_cons (pv 1) pa_nil))) (pg_name (i := 3) sc_all_choices.nd rfl (Or.inr rfl)) (pss_one (ps_set (i := 2) sc_all_choices.nd rfl (Or.inl rfl) (pe_op op_cat (pv 2) (pe_lc (own := [("choice", 4)]) rfl sc_all_choices.nd (pi_list (pv 2)) (blkOk_by (own := [("choice", 4)]) (N := ["sheet", "last", "found", "number", "choice"]) (sc := defScope s_all_choices) (by decide +kernel)) (by intros; exact (pg_name (i := 4) sc_all_choices.nd rfl (Or.inl rfl))) (by intros; exact pts_nil) (by intros; exact (pe_op op_cat (pv 4) (pe_lst (pa_cons (pv 3) pa_nil))))))))) (pss_one (ps_ret (pe_lc (own := [("choice", 4)]) rfl sc_all_choices.nd (pi_list (pv 2)) (blkOk_by (own := [("choice", 4)]) (N := ["sheet", "last", "found", "number", "choice"]) (sc := defScope s_all_choices) (by decide +kernel)) (by intros; exact (pg_name (i := 4) sc_all_choices.nd rfl (Or.inl rfl))) (by intros; exact pts_nil) (by intros; exact (pe_op op_cat (pv 4) (pe_lst (pa_cons (pv 1) pa_nil)))))))))), ?_⟩
    refine pur_body h fun S H0 hp => ?_
    obtain ⟨v, rfl, hS, wf⟩ := hp
    have p1 := wf.p1
    have p2 := wf.p2
    refine bk_asgI (n := ((S.points.length - 1 : Nat) : Int)) (ed_is (d1 := .int ((S.points.length : Int) - 1)) (ed_sub (ed_is (ed_len (by repeat' walk_at "ed")) (by rw [List.length_map])) (by walk_at "ed")) (by congr 1; omega)) ?_
    refine bk_asg (R := fun v G => Dn G v (dNss (chTo 0))) (show ED _ _ _ (.list [.list [.int 0]]) from by repeat' walk_at "ed") fun f0 G0 e0 hf0 => ?_
    replace hS := mono_sheet _ _ _ _ e0 hS
    refine bk_seq (M := fun σ' G => ∃ f x3 x4, σ' = [some v, some (.int ((S.points.length - 1 : Nat) : Int)), some f, x3, x4] ∧ Dn G f (dNss (chTo (S.points.length - 1 - 1)))) (bk_forH (D := Nt) (items := (List.range (S.points.length - 1 - 1)).map (1 + ·)) mono_nt (src_range2 (lo := 1) (show EA _ _ _ [.int 1, .int ((S.points.length - 1 : Nat) : Int)] from by repeat' walk_at "ed") (by omega) (by decide)) (fun i σ' G => ∃ f x3 x4, σ' = [some v, some (.int ((S.points.length - 1 : Nat) : Int)), some f, x3, x4] ∧ Dn G f (dNss (chTo i))) (fun i σ G G' e ⟨f, x3, x4, h1, h2⟩ => ⟨f, x3, x4, h1, h2.mono e⟩) ⟨f0, none, none, rfl, hf0⟩ (fun i n x G σ' hn e hx hJ => ?_) (fun σ' G e hJ => by rw [List.length_map, List.length_range] at hJ; exact hJ)) fun σ' G e hM => ?_
    · obtain ⟨f, x3, x4, rfl, hf⟩ := hJ
      obtain rfl := hx
      have hi : i < S.points.length - 1 - 1 := by have := (List.getElem?_eq_some_iff.mp hn).1; rw [List.length_map, List.length_range] at this; exact this
      obtain rfl : n = 1 + i := by rw [List.getElem?_map, List.getElem?_range hi] at hn; exact (Option.some.inj hn).symm
      have few : (chTo i).length ≤ 32 := by
        have h1 := chTo_len i
        have h2 : 2 ^ i ≤ 2 ^ 5 := Nat.pow_le_pow_right (by decide) (by omega)
        have h3 : 2 ^ 5 = 32 := by decide
        omega
      refine cp_name ?_
      refine bk_asgG (R := fun v G => Dn G v (dNss (chTo (i + 1)))) (ed_is (ed_cat (by walk_at "ed") (ed_lc (D := Nl) (items := chTo i) (fun _ => true) (fun c => dNs (c ++ [1 + i])) (src_natss (by walk_at "ed")) (by omega) fun c x G1 hc e1 hx => cp_name ⟨rfl, et_yes, fun _ => ?_⟩) (by
        rw [List.length_map, List.length_map]
        have := List.length_filter_le (fun _ : List Nat => true) (chTo i)
        omega)) ?_) fun w G1 e1 hw => CP.ret ⟨w, _, _, rfl, hw⟩
      · have hx' : Dn G1 x (dNs c) := hx
        have := (chTo_in i c hc).1
        exact ed_snoc (by walk_at "ed") (by walk_at "ed") (by omega)
      · rw [chTo_succ, snocs_eq]
        unfold chStep
        rw [← List.map_append]
    · obtain ⟨f, x3, x4, rfl, hf⟩ := hM
      refine bk_ret (ed_is (ed_lc (D := Nl) (items := chTo (S.points.length - 1 - 1)) (fun _ => true) (fun c => dNs (c ++ [S.points.length - 1])) (src_natss (by walk_at "ed")) (by
        have h1 := chTo_len (S.points.length - 1 - 1)
        have h2 : 2 ^ (S.points.length - 1 - 1) ≤ 2 ^ 5 := Nat.pow_le_pow_right (by decide) (by omega)
        have h3 : 2 ^ 5 = 32 := by decide
        omega) fun c x G1 hc e1 hx => cp_name ⟨rfl, et_yes, fun _ => ?_⟩) ?_)
      · have hx' : Dn G1 x (dNs c) := hx
        have := (chTo_in _ c hc).1
        exact ed_snoc (by walk_at "ed") (by walk_at "ed") (by omega)
      · rw [snocs_eq]
        rfl
def sp_good_choices (a : Ad) : Sp := Pur (fun (x : Uw49.Sheet) vs H => ∃ v, vs = [v] ∧ SheetAt a x v H ∧ Wf x) fun x v G => Dn G v (dNss (goodChoices x))
theorem len_good_choices {vs : List V} {H : Hp} {Q : VK} {E : XK} (h : sp_good_choices a vs H Q E) : vs.length = 1 := by obtain ⟨_, _, _, ⟨_, h, _⟩, _⟩ := h; rw [h]; rfl
theorem cp_sheet {σ : L2.St} {H : Hp} {t1 : TE} {S : Uw49.Sheet} {post : Uw49.Sheet → V → Hp → Prop} (wf : Wf S) (h1 : CP (t1 σ) H (SheetAt a S)) : CP (tCall (Pur (fun (x : Uw49.Sheet) vs H => ∃ v, vs = [v] ∧ SheetAt a x v H ∧ Wf x) post) [] E0 (tCons t1 tNil) σ) H (post S) :=
  cp_call (x := S) (ca_cons (mono_sheet S) mono_all h1 ea_nil) fun vs G _ ⟨x, xs, e, p, q⟩ => by
    cases q
    exact ⟨x, e, p, wf⟩
theorem cp_undrawn {σ : L2.St} {H : Hp} {t1 t2 : TE} {S : Uw49.Sheet} {c : List Nat} (wf : Wf S) (h1 : CP (t1 σ) H (SheetAt a S)) (h2 : ED t2 σ H (dNs c)) (ch : ChIn S c) : ED (tCall (sp_first_undrawn a) [] E0 (tCons t1 (tCons t2 tNil))) σ H (dOpt (S.badStep c)) :=
  cp_call (x := (S, c)) (ca_cons (mono_sheet S) mono_all h1 (ea_cons h2 ea_nil)) fun vs G _ ⟨x, xs, e, p, q⟩ => by
    obtain ⟨y, rfl, q1⟩ := dn1 q
    exact ⟨x, y, e, p, wf, q1, ch⟩
theorem all_ch {S : Uw49.Sheet} (wf : Wf S) {c : List Nat} (h : c ∈ allChoices (S.points.length - 1)) : ChIn S c := by
  have := wf.p1
  have := wf.p2
  obtain ⟨h1, h2⟩ := all_in (by omega) c h
  exact ⟨fun x hx => by have := h2 x hx; omega, by omega⟩
theorem ok_good_choices {f : Addr} {fd : FuncData} (F : Fun K "good_choices" "good_choices" s_good_choices f fd) (T : Tx K mg a) (c_all_choices : Cal P w K mg base CX0 1 "all_choices" ["sheet"] (sp_all_choices a)) (c_first_undrawn : Cal P w K mg base CX0 4 "first_undrawn" ["sheet", "choice"] (sp_first_undrawn a)) : FnOk P w K mg base CX0 5 f fd ["sheet"] (sp_good_choices a) := by
  refine F.ok sc_good_choices (fun vs H Q E h => ?_) (fun cdv A outer s H vs Q E hr h => ?_)
  · exact len_good_choices h
  · refine ⟨_, (pss_one (ps_ret (pe_lc (own := [("choice", 1)]) rfl sc_good_choices.nd (pi_list (pe_cal c_all_choices (hr.mono (by decide)) rfl pass0 (by exact (pa_cons (pv 0) pa_nil)))) (blkOk_by (own := [("choice", 1)]) (N := ["sheet", "choice"]) (sc := defScope s_good_choices) (by decide +kernel)) (by intros; exact (pg_name (i := 1) sc_good_choices.nd rfl (Or.inl rfl))) (by intros; exact (pts_one (pt_cmpR op_isN (pe_cal c_first_undrawn (hr.mono (by decide)) rfl pass0 (by exact (pa_cons (pv 0) (pa_cons (pv 1) pa_nil)))) pe_non (nomark _)))) (by intros; exact (pv 1))))), ?_⟩
    refine pur_body h fun S H0 hp => ?_
    obtain ⟨v, rfl, hS, wf⟩ := hp
    have p2 := wf.p2
    refine bk_ret (ed_lc (D := Nl) (items := allChoices (S.points.length - 1)) (fun c => (S.badStep c).isNone) dNs (src_natss (cp_sheet wf (by walk_at "ed"))) (by have := all_few (last := S.points.length - 1) (by omega); omega) fun c x G1 hc e1 hx => ?_)
    have hx' : Dn G1 x (dNs c) := hx
    have hS1 := mono_sheet _ _ _ _ e1 hS
    exact cp_name ⟨rfl, et_is (et_test (ed_isN (cp_undrawn wf (by walk_at "ed") (by walk_at "ed") (all_ch wf hc)))) (opt_none _), fun _ => by walk_at "ed"⟩
def sp_corners_hit (a : Ad) : Sp := Pur (fun (x : Uw49.Sheet × List Nat) vs H => ∃ v w, vs = [v, w] ∧ SheetAt a x.1 v H ∧ Wf x.1 ∧ Dn H w (dNs x.2) ∧ ChIn x.1 x.2) fun x v G => Dn G v (dNss (cornersHit x.1 x.2))
theorem len_corners_hit {vs : List V} {H : Hp} {Q : VK} {E : XK} (h : sp_corners_hit a vs H Q E) : vs.length = 2 := by obtain ⟨_, _, _, ⟨_, _, h, _⟩, _⟩ := h; rw [h]; rfl
theorem cp_thr {σ : L2.St} {H : Hp} {t1 t2 t3 t4 : TE} {S : Uw49.Sheet} {c : List Nat} {k m : Nat} (wf : Wf S) (h1 : CP (t1 σ) H (SheetAt a S)) (h2 : ED t2 σ H (dNs c)) (h3 : ED t3 σ H (.int (k : Int))) (h4 : ED t4 σ H (.int (m : Int))) (ch : ChIn S c) (hk : k < S.towns.length) (hm : m < 4) : ED (tCall (sp_first_through a) [] E0 (tCons t1 (tCons t2 (tCons t3 (tCons t4 tNil))))) σ H (dOpt (thr S c k m)) :=
  cp_call (x := (S, c, k, m)) (ca_cons (mono_sheet S) mono_all h1 (ea_cons h2 (ea_cons h3 (ea_cons h4 ea_nil)))) fun vs G _ ⟨x, xs, e, p, q⟩ => by
    obtain ⟨y1, y2, y3, rfl, q1, q2, q3⟩ := dn3 q
    rw [dn_int q2, dn_int q3] at e
    exact ⟨x, y1, e, p, wf, q1, ch, hk, hm⟩
theorem flat_one {α β : Type} (f : α → β) : ∀ l : List α, (l.flatMap fun a => [f a]) = l.map f
  | [] => rfl
  | a :: l => by rw [List.flatMap_cons, List.map_cons, flat_one f l]; rfl
theorem ok_corners_hit {f : Addr} {fd : FuncData} (F : Fun K "corners_hit" "corners_hit" s_corners_hit f fd) (T : Tx K mg a) (c_first_through : Cal P w K mg base CX0 4 "first_through" ["sheet", "choice", "k", "corner"] (sp_first_through a)) : FnOk P w K mg base CX0 5 f fd ["sheet", "choice"] (sp_corners_hit a) := by
  obtain ⟨t_CORNERS, h_CORNERS⟩ := T.g_CORNERS
  refine F.ok sc_corners_hit (fun vs H Q E h => ?_) (fun cdv A outer s H vs Q E hr h => ?_)
  · exact len_corners_hit h
  · refine ⟨_, (pss_cons (ps_set (i := 2) sc_corners_hit.nd rfl (Or.inl rfl) (pe_lst pa_nil)) (pss_cons (ps_for PassesOwn.never rfl (pi_range1 rfl T.b_range (pa_cons (pe_callB call_len_seq rfl T.b_len PySem.boot_len (pa_cons (pe_fldK (K := K) rfl (pv 0) rfl) pa_nil)) pa_nil)) (pg_name (i := 3) sc_corners_hit.nd rfl (Or.inr rfl)) (pss_one (ps_expr (pe_bm PySem.F.plainAttrs_list PySem.F.slot_list_append PySem.F.type_list_append mt_append (pv 2) (pa_cons (pe_lc (own := [("c", 4)]) rfl sc_corners_hit.nd (pi_range1 rfl T.b_range (pa_cons (pe_glob (v := .int (4)) rfl h_CORNERS ⟨_, rfl⟩) pa_nil)) (blkOk_by (own := [("c", 4)]) (N := ["sheet", "choice", "found", "k", "c"]) (sc := defScope s_corners_hit) (by decide +kernel)) (by intros; exact (pg_name (i := 4) sc_corners_hit.nd rfl (Or.inl rfl))) (by intros; exact (pts_one (pt_cmpR op_notN (pe_cal c_first_through (hr.mono (by decide)) rfl pass0 (by exact (pa_cons (pv 0) (pa_cons (pv 1) (pa_cons (pv 3) (pa_cons (pv 4) pa_nil)))))) pe_non (nomark _)))) (by intros; exact (pv 4))) pa_nil))))) (pss_one (ps_ret (pv 2))))), ?_⟩
    refine pur_body h fun x H0 hp => ?_
    obtain ⟨S, c⟩ := x
    obtain ⟨v, w, rfl, hS, wf, hw, ch⟩ := hp
    simp only [] at hS wf hw ch
    have ht := wf.t
    refine bk_build (k := 2) (D := Nt) (items := List.range S.towns.length) (fun k => [dNs ((List.range 4).filter fun m => (thr S c k m).isSome)]) (fun p => src_range (ea_cons (ed_lenLs mono_town (by repeat' walk_at "ed")) ea_nil) (by omega)) (by rw [flat_one, List.length_map, List.length_range]; omega) (fun p i σ' => ∃ x3 x4, σ' = [some v, some w, some (.ref p), x3, x4]) (fun p => ⟨none, none, rfl⟩) (fun p i k x G σ' hk e hx hJ => ?_) (fun p σ' G e hp hJ => ?_)
    · obtain ⟨x3, x4, rfl⟩ := hJ
      obtain rfl := hx
      have hkl := List.mem_range.mp (List.mem_of_getElem? hk)
      have hS1 := mono_sheet _ _ _ _ e hS
      have hw1 := hw.mono e
      refine cp_name (ac_app rfl (ed_lc (D := Nt) (items := List.range 4) (fun m => (thr S c k m).isSome) (fun m => .int (m : Int)) (src_range (n := 4) (show EA _ _ _ [.int 4] from by repeat' walk_at "ed") (by decide)) (by decide) fun m y G2 hm e2 hy => ?_) ⟨_, _, rfl⟩)
      obtain rfl := hy
      have hS2 := mono_sheet _ _ _ _ e2 hS1
      have hw2 := hw1.mono e2
      exact cp_name ⟨rfl, et_is (et_test (ed_notN (cp_thr wf (by walk_at "ed") (by walk_at "ed") (by walk_at "ed") (by walk_at "ed") ch hkl (List.mem_range.mp hm)))) (opt_some _), fun _ => by walk_at "ed"⟩
    · obtain ⟨x3, x4, rfl⟩ := hJ
      rw [flat_one] at hp
      refine bk_ret (ed_is (d1 := .list ((List.range S.towns.length).map fun k => dNs ((List.range 4).filter fun m => (thr S c k m).isSome))) (by walk_at "ed") ?_)
      refine congrArg PyData.list ?_
      show _ = (cornersHit S c).map dNs
      unfold cornersHit
      rw [List.map_map]
      rfl
end
end Md

namespace Md
open PySem PySem.Spec PyProof.Rows L2
open Evl (Ex)
local macro_rules | `(tactic| walk_at "ed") => `(tactic| first
  | with_reducible exact ed_int | with_reducible exact ed_bl | with_reducible exact ed_non
  | ((with_reducible show ED (tVar _) _ _ _); refine ed_var rfl ?_; first | assumption | exact Dn.int _ | exact Dn.bl _)
  | ((with_reducible show CP (tVar _ _) _ _); refine cp_var rfl ?_; assumption)
  | with_reducible apply ed_add | with_reducible apply ed_sub | with_reducible apply ed_mul
  | with_reducible apply ed_lt | with_reducible apply ed_le | with_reducible apply ed_gt | with_reducible apply ed_ge
  | with_reducible apply ed_eq | with_reducible apply ed_ne | with_reducible apply ed_neg | with_reducible apply ed_isN | with_reducible apply ed_notN
  | ((with_reducible apply ed_swide); assumption) | ((with_reducible apply ed_shigh); assumption) | ((with_reducible apply ed_soff); assumption) | ((with_reducible apply ed_spoints); assumption)
  | ((with_reducible apply ed_twide); assumption) | ((with_reducible apply ed_thigh); assumption) | ((with_reducible apply ed_tworth); assumption) | ((with_reducible apply ed_tplace); assumption)
  | ((with_reducible apply cp_stowns); assumption)
  | with_reducible apply ed_ixT | with_reducible apply ed_ixL | with_reducible exact at_0 | with_reducible exact at_1 | with_reducible exact at_2 | with_reducible exact at_3 | with_reducible exact at_4
  | with_reducible apply ed_tup | with_reducible apply ed_lst | ((with_reducible show List.length _ ≤ 100000); exact Nat.le_of_ble_eq_true rfl)
  | with_reducible exact ea_nil | with_reducible apply ea_cons
  | with_reducible apply et_test | with_reducible apply et_B)
/-- a drawing's measure -/
def dMs (S : Uw49.Sheet) (q : List Nat × List Nat) : Dt := .tuple [.int (0 - (S.worth q.2 : Int)), .int (q.1.length : Int), .int (Uw49.rank q.2 : Int), dNs q.2, dNs q.1]
def isClear (l : List Nat) (hs : List (List Nat)) : Bool := !((l.zip hs).any fun b => decide (b.1 ∈ b.2))
def measL (S : Uw49.Sheet) (cs ls : List (List Nat)) : List (List Nat × List Nat) := cs.flatMap fun c => (ls.filter fun l => isClear l (cornersHit S c)).map fun l => (c, l)
theorem mem_cast (n : Nat) (l : List Nat) : decide ((n : Int) ∈ l.map fun (k : Nat) => (k : Int)) = decide (n ∈ l) := by
  refine decide_eq_decide.mpr ?_
  rw [List.mem_map]
  constructor
  · rintro ⟨k, hk, e⟩
    have : k = n := by omega
    rw [← this]; exact hk
  · intro h
    exact ⟨n, h, rfl⟩
theorem ns_ints (l : List Nat) : (l.map fun (n : Nat) => PyData.int (n : Int)) = (l.map fun (n : Nat) => (n : Int)).map PyData.int := by rw [List.map_map]; rfl
/-- the least -/
def minQ (S : Uw49.Sheet) (q : List Nat × List Nat) (qs : List (List Nat × List Nat)) : List Nat × List Nat := qs.foldl (fun a y => if PySem.W.dataLt (dMs S y) (dMs S a) then y else a) q
theorem minD_map (S : Uw49.Sheet) : ∀ (qs : List (List Nat × List Nat)) (q : List Nat × List Nat), PySem.W.minD (dMs S q) (qs.map (dMs S)) = dMs S (minQ S q qs)
  | [], q => rfl
  | y :: qs, q => by
    show PySem.W.minD (if PySem.W.dataLt (dMs S y) (dMs S q) then dMs S y else dMs S q) (qs.map (dMs S)) = dMs S (minQ S (if PySem.W.dataLt (dMs S y) (dMs S q) then y else q) qs)
    rw [← minD_map S qs]
    split <;> rfl
theorem alike_ints : ∀ (l m : List Nat), PySem.W.alikeAll (l.map fun (n : Nat) => PyData.int (n : Int)) (m.map fun (n : Nat) => PyData.int (n : Int)) = true
  | [], m => by simp [PySem.W.alikeAll]
  | _ :: _, [] => by simp [PySem.W.alikeAll]
  | a :: l, b :: m => by
    have := alike_ints l m
    simp [PySem.W.alikeAll, PySem.W.alike] at this ⊢
    exact this
theorem alike_ms (S : Uw49.Sheet) (q r : List Nat × List Nat) : PySem.W.alike (dMs S q) (dMs S r) = true := by
  have h1 := alike_ints q.2 r.2
  have h2 := alike_ints q.1 r.1
  unfold dMs
  simp only [PySem.W.alike, PySem.W.alikeAll, Bool.true_and, Bool.and_true, h1, h2]
theorem depth_ints : ∀ l : List Nat, PyData.depthAll (l.map fun (n : Nat) => PyData.int (n : Int)) = 0
  | [] => by simp [PyData.depthAll]
  | a :: l => by
    have := depth_ints l
    simp [PyData.depthAll, PyData.depth] at this ⊢
    exact this
theorem depth_ms (S : Uw49.Sheet) (q : List Nat × List Nat) : (dMs S q).depth ≤ 2 := by
  have h1 := depth_ints q.2
  have h2 := depth_ints q.1
  unfold dMs
  simp only [PyData.depth, PyData.depthAll, h1, h2]
  omega
theorem depths_ms (S : Uw49.Sheet) : ∀ qs : List (List Nat × List Nat), PyData.depthAll (qs.map (dMs S)) ≤ 2
  | [] => by simp [PyData.depthAll]
  | q :: qs => by
    have h1 := depth_ms S q
    have h2 := depths_ms S qs
    simp only [List.map_cons, PyData.depthAll]
    omega
theorem alikeAll_ms (S : Uw49.Sheet) (qs : List (List Nat × List Nat)) : PySem.W.AlikeAll (qs.map (dMs S)) := by
  constructor
  · intro x hx y hy
    obtain ⟨q, _, rfl⟩ := List.mem_map.mp hx
    obtain ⟨r, _, rfl⟩ := List.mem_map.mp hy
    exact alike_ms S q r
  · intro x hx
    obtain ⟨q, _, rfl⟩ := List.mem_map.mp hx
    unfold dMs
    exact fun z => PyData.noConfusion z
/-- as good as -/
def sameG (S : Uw49.Sheet) (q r : List Nat × List Nat) : Bool := decide (S.worth q.2 = S.worth r.2) && (decide (q.1.length = r.1.length) && decide (Uw49.rank q.2 = Uw49.rank r.2))
/-- what is told of the best -/
def toldB (S : Uw49.Sheet) (q : List Nat × List Nat) (qs : List (List Nat × List Nat)) : List Nat :=
  S.worth (minQ S q qs).2 :: (minQ S q qs).1.length :: Uw49.rank (minQ S q qs).2 :: ((q :: qs).filter fun r => sameG S r (minQ S q qs)).length :: ((minQ S q qs).2 ++ (minQ S q qs).1)
abbrev dIs (l : List Int) : Dt := .list (l.map PyData.int)
section
variable {P : Program} {w : World} {K : PySem.W.Frag} {mg : Str → Option Value} {base : Heap} {a : Ad}
def sp_measure_of (a : Ad) : Sp := Pur (fun (x : Uw49.Sheet × List Nat × List Nat) vs H => ∃ v w y, vs = [v, w, y] ∧ SheetAt a x.1 v H ∧ Wf x.1 ∧ Dn H w (dNs x.2.1) ∧ Dn H y (dNs x.2.2) ∧ x.2.2.length = x.1.towns.length) fun x v G => Dn G v (dMs x.1 x.2)
theorem len_measure_of {vs : List V} {H : Hp} {Q : VK} {E : XK} (h : sp_measure_of a vs H Q E) : vs.length = 3 := by obtain ⟨_, _, _, ⟨_, _, _, h, _⟩, _⟩ := h; rw [h]; rfl
theorem cp_worth {σ : L2.St} {H : Hp} {t1 t2 : TE} {S : Uw49.Sheet} {l : List Nat} (wf : Wf S) (h1 : CP (t1 σ) H (SheetAt a S)) (h2 : ED t2 σ H (dNs l)) (hl : l.length = S.towns.length) : ED (tCall (sp_worth_of a) [] E0 (tCons t1 (tCons t2 tNil))) σ H (.int (S.worth l : Int)) :=
  cp_call (x := (S, l)) (ca_cons (mono_sheet S) mono_all h1 (ea_cons h2 ea_nil)) fun vs G _ ⟨x, xs, e, p, q⟩ => by
    obtain ⟨y, rfl, q1⟩ := dn1 q
    exact ⟨x, y, e, p, wf, q1, hl⟩
theorem cp_rank {σ : L2.St} {H : Hp} {t2 : TE} {l : List Nat} (h2 : ED t2 σ H (dNs l)) (hl : l.length ≤ 100) : ED (tCall (sp_rank_of a) [] E0 (tCons t2 tNil)) σ H (.int (Uw49.rank l : Int)) :=
  cp_call (x := l) (ea_cons h2 ea_nil) fun vs G _ q => by
    obtain ⟨y, rfl, q1⟩ := dn1 q
    exact ⟨y, rfl, q1, hl⟩
theorem ok_measure_of {f : Addr} {fd : FuncData} (F : Fun K "measure_of" "measure_of" s_measure_of f fd) (T : Tx K mg a) (c_rank_of : Cal P w K mg base CX0 1 "rank_of" ["plan"] (sp_rank_of a)) (c_worth_of : Cal P w K mg base CX0 1 "worth_of" ["sheet", "plan"] (sp_worth_of a)) : FnOk P w K mg base CX0 2 f fd ["sheet", "choice", "plan"] (sp_measure_of a) := by
  refine F.ok sc_measure_of (fun vs H Q E h => ?_) (fun cdv A outer s H vs Q E hr h => ?_)
  · exact len_measure_of h
  · refine ⟨_, (pss_one (ps_ret (pe_tup (pa_cons (pe_op op_sub pe_int (pe_cal c_worth_of (hr.mono (by decide)) rfl pass0 (by exact (pa_cons (pv 0) (pa_cons (pv 2) pa_nil))))) (pa_cons (pe_callB call_len_seq rfl T.b_len PySem.boot_len (pa_cons (pv 1) pa_nil)) (pa_cons (pe_cal c_rank_of (hr.mono (by decide)) rfl pass0 (by exact (pa_cons (pv 2) pa_nil))) (pa_cons (pv 2) (pa_cons (pv 1) pa_nil)))))))), ?_⟩
    refine pur_body h fun x H0 hp => ?_
    obtain ⟨S, c, l⟩ := x
    obtain ⟨v, w, y, rfl, hS, wf, hw, hy, hl⟩ := hp
    simp only [] at hS wf hw hy hl
    have := wf.t
    exact bk_ret (ed_tup (ea_cons (ed_sub (by walk_at "ed") (cp_worth wf (by walk_at "ed") (by walk_at "ed") hl)) (ea_cons (ed_lenN (by walk_at "ed")) (ea_cons (cp_rank (by walk_at "ed") (by show l.length ≤ 100; omega)) (ea_cons (by walk_at "ed") (ea_cons (by walk_at "ed") ea_nil))))) (Nat.le_of_ble_eq_true rfl))
def sp_is_clear (_ : Ad) : Sp := Pur (fun (x : List Nat × List (List Nat)) vs H => ∃ v w, vs = [v, w] ∧ Dn H v (dNs x.1) ∧ Dn H w (dNss x.2) ∧ x.1.length ≤ 100) fun x v G => Dn G v (.bool (isClear x.1 x.2))
theorem len_is_clear {vs : List V} {H : Hp} {Q : VK} {E : XK} (h : sp_is_clear a vs H Q E) : vs.length = 2 := by obtain ⟨_, _, _, ⟨_, _, h, _⟩, _⟩ := h; rw [h]; rfl
theorem ok_is_clear {f : Addr} {fd : FuncData} (F : Fun K "is_clear" "is_clear" s_is_clear f fd) (T : Tx K mg a)  : FnOk P w K mg base CX0 1 f fd ["plan", "hit"] (sp_is_clear a) := by
  refine F.ok sc_is_clear (fun vs H Q E h => ?_) (fun cdv A outer s H vs Q E hr h => ?_)
  · exact len_is_clear h
  · refine ⟨_, (pss_one (ps_ret (pe_not (pe_callB (cr_any rfl) rfl T.b_any (by decide +kernel) (pa_cons (pe_lc (own := [("corner", 2), ("corners", 3)]) rfl sc_is_clear.nd (pi_zip rfl T.b_zip (pa_cons (pv 0) (pa_cons (pv 1) pa_nil))) (blkOk_by (own := [("corner", 2), ("corners", 3)]) (N := ["plan", "hit", "corner", "corners"]) (sc := defScope s_is_clear) (by decide +kernel)) (by intros; exact (pg_tupK (K := K) (n := 2) rfl rfl (pgs_cons (pg_name (i := 2) sc_is_clear.nd rfl (Or.inl rfl)) (pgs_cons (pg_name (i := 3) sc_is_clear.nd rfl (Or.inl rfl)) pgs_nil)))) (by intros; exact pts_nil) (by intros; exact (pe_cmpR (in_seqK (K := K) rfl) (pv 2) (pv 3) (by rfl)))) pa_nil))))), ?_⟩
    refine pur_body h fun x H0 hp => ?_
    obtain ⟨l, hs⟩ := x
    obtain ⟨v, w, rfl, hv, hw, hl⟩ := hp
    simp only [] at hv hw hl
    refine bk_ret (ed_is (ed_not (ed_any (bs := (l.zip hs).map fun (b : Nat × List Nat) => decide (b.1 ∈ b.2)) (ed_is (ed_lc (D := Pr Nt Nl) (items := l.zip hs) (fun _ => true) (fun b => .bool (decide (b.1 ∈ b.2))) (src_zip mono_nt mono_nl ((show EA _ _ _ [dNs l, dNss hs] from by repeat' walk_at "ed").imp fun vs G _ q => ?_)) (by rw [List.length_zip]; omega) fun b x G hb e hx => ?_) (congrArg PyData.list (map_bools _ _))))) ?_)
    · obtain ⟨x1, x2, rfl, q1, q2⟩ := dn2 q
      exact ⟨x1, x2, rfl, ls_nats q1, ls_natss q2⟩
    · obtain ⟨T1, y1, y2, rfl, hT, rfl, h2⟩ := hx
      have h2' : Dn G y2 (.list ((b.2.map fun (n : Nat) => (n : Int)).map PyData.int)) := by
        have z : Dn G y2 (dNs b.2) := h2
        rw [← ns_ints]
        exact z
      exact cp_pair hT ⟨rfl, et_yes, fun _ => ed_is (ed_inL (by walk_at "ed") (by walk_at "ed")) (congrArg PyData.bool (mem_cast _ _))⟩
    · rw [any_id]
      rfl
structure MsOk (S : Uw49.Sheet) (cs ls : List (List Nat)) : Prop where
  ch : ∀ c ∈ cs, ChIn S c
  pl : ∀ l ∈ ls, l.length = S.towns.length
  cf : cs.length ≤ 32
  lf : ls.length ≤ 625
def sp_measures (a : Ad) : Sp := Pur (fun (x : Uw49.Sheet × List (List Nat) × List (List Nat)) vs H => ∃ v w y, vs = [v, w, y] ∧ SheetAt a x.1 v H ∧ Wf x.1 ∧ Dn H w (dNss x.2.1) ∧ Dn H y (dNss x.2.2) ∧ MsOk x.1 x.2.1 x.2.2) fun x v G => Dn G v (.list ((measL x.1 x.2.1 x.2.2).map (dMs x.1)))
theorem len_measures {vs : List V} {H : Hp} {Q : VK} {E : XK} (h : sp_measures a vs H Q E) : vs.length = 3 := by obtain ⟨_, _, _, ⟨_, _, _, h, _⟩, _⟩ := h; rw [h]; rfl
theorem meas_eq (S : Uw49.Sheet) (cs ls : List (List Nat)) : (cs.flatMap fun c => (ls.filter fun l => isClear l (cornersHit S c)).map fun l => dMs S (c, l)) = (measL S cs ls).map (dMs S) := by
  unfold measL
  rw [List.map_flatMap]
  refine congrArg (fun f => List.flatMap f cs) (funext fun c => ?_)
  rw [List.map_map]
  rfl
theorem ok_measures {f : Addr} {fd : FuncData} (F : Fun K "measures" "measures" s_measures f fd) (T : Tx K mg a) (c_corners_hit : Cal P w K mg base CX0 5 "corners_hit" ["sheet", "choice"] (sp_corners_hit a)) (c_is_clear : Cal P w K mg base CX0 1 "is_clear" ["plan", "hit"] (sp_is_clear a)) (c_measure_of : Cal P w K mg base CX0 2 "measure_of" ["sheet", "choice", "plan"] (sp_measure_of a)) : FnOk P w K mg base CX0 6 f fd ["sheet", "choices", "plans"] (sp_measures a) := by
  refine F.ok sc_measures (fun vs H Q E h => ?_) (fun cdv A outer s H vs Q E hr h => ?_)
  · exact len_measures h
  · refine ⟨_, (pss_cons (ps_set (i := 3) sc_measures.nd rfl (Or.inl rfl) (pe_lst pa_nil)) (pss_cons (ps_for PassesOwn.never rfl (pi_list (pv 1)) (pg_name (i := 4) sc_measures.nd rfl (Or.inr rfl)) (pss_cons (ps_set (i := 5) sc_measures.nd rfl (Or.inr rfl) (pe_cal c_corners_hit (hr.mono (by decide)) rfl pass0 (by exact (pa_cons (pv 0) (pa_cons (pv 4) pa_nil))))) (pss_one (ps_expr (pe_bm PySem.F.plainAttrs_list PySem.F.slot_list_extend PySem.F.type_list_extend mt_extend (pv 3) (pa_cons (pe_lc (own := [("plan", 6)]) rfl sc_measures.nd (pi_list (pv 2)) (blkOk_by (own := [("plan", 6)]) (N := ["sheet", "choices", "plans", "found", "choice", "hit", "plan"]) (sc := defScope s_measures) (by decide +kernel)) (by intros; exact (pg_name (i := 6) sc_measures.nd rfl (Or.inl rfl))) (by intros; exact (pts_one (pt_val (pe_cal c_is_clear (hr.mono (by decide)) rfl pass0 (by exact (pa_cons (pv 6) (pa_cons (pv 5) pa_nil))))))) (by intros; exact (pe_cal c_measure_of (hr.mono (by decide)) rfl pass0 (by exact (pa_cons (pv 0) (pa_cons (pv 4) (pa_cons (pv 6) pa_nil))))))) pa_nil)))))) (pss_one (ps_ret (pv 3))))), ?_⟩
    refine pur_body h fun x H0 hp => ?_
    obtain ⟨S, cs, ls⟩ := x
    obtain ⟨v, w, y, rfl, hS, wf, hw, hy, ok⟩ := hp
    simp only [] at hS wf hw hy ok
    have ht := wf.t
    have cf := ok.cf
    have lf := ok.lf
    refine bk_build (k := 3) (D := Nl) (items := cs) (fun c => (ls.filter fun l => isClear l (cornersHit S c)).map fun l => dMs S (c, l)) (fun p => src_natss (by walk_at "ed")) (by
      refine Nat.le_trans (flat_len _ 625 _ fun c _ => ?_) (by omega)
      rw [List.length_map]
      exact Nat.le_trans (List.length_filter_le _ _) lf) (fun p i σ' => ∃ x4 x5 x6, σ' = [some v, some w, some y, some (.ref p), x4, x5, x6]) (fun p => ⟨none, none, none, rfl⟩) (fun p i c x G σ' hc e hx hJ => ?_) (fun p σ' G e hp hJ => ?_)
    · obtain ⟨x4, x5, x6, rfl⟩ := hJ
      have hS1 := mono_sheet _ _ _ _ e hS
      have hy1 := hy.mono e
      have hx' : Dn G x (dNs c) := hx
      have ch := ok.ch c (List.mem_of_getElem? hc)
      refine cp_name (ac_asg (R := fun v G => Dn G v (dNss (cornersHit S c))) (cp_call (x := (S, c)) (ca_cons (mono_sheet (a := a) S) mono_all (by walk_at "ed") (show EA _ _ _ [dNs c] from by repeat' walk_at "ed")) fun vs G _ ⟨z, zs, e, p, q⟩ => by
        obtain ⟨z1, rfl, q1⟩ := dn1 q
        exact ⟨z, z1, e, p, wf, q1, ch⟩) fun hit G1 e1 hh => ?_)
      have hS2 := mono_sheet _ _ _ _ e1 hS1
      have hy2 := hy1.mono e1
      have hx2 := hx'.mono e1
      refine ac_ext rfl (ed_lc (D := Nl) (items := ls) (fun l => isClear l (cornersHit S c)) (fun l => dMs S (c, l)) (src_natss (by walk_at "ed")) (by omega) fun l z G2 hl e2 hz => ?_) ⟨_, _, _, rfl⟩
      have hz' : Dn G2 z (dNs l) := hz
      have hS3 := mono_sheet _ _ _ _ e2 hS2
      have hx3 := hx2.mono e2
      have hh3 := hh.mono e2
      have pl := ok.pl l hl
      refine cp_name ⟨rfl, et_B (cp_call (x := (l, cornersHit S c)) (A := fun vs G => DnAll G vs [dNs l, dNss (cornersHit S c)]) (by repeat' walk_at "ed") fun vs G _ q => ?_), fun _ => ?_⟩
      · obtain ⟨z1, z2, rfl, q1, q2⟩ := dn2 q
        exact ⟨z1, z2, rfl, q1, q2, by show l.length ≤ 100; omega⟩
      · exact cp_call (x := (S, c, l)) (ca_cons (mono_sheet (a := a) S) mono_all (by walk_at "ed") (show EA _ _ _ [dNs c, dNs l] from by repeat' walk_at "ed")) fun vs G _ ⟨z, zs, e, p, q⟩ => by
          obtain ⟨z1, z2, rfl, q1, q2⟩ := dn2 q
          exact ⟨z, z1, z2, e, p, wf, q1, q2, pl⟩
    · obtain ⟨x4, x5, x6, rfl⟩ := hJ
      rw [meas_eq] at hp
      exact bk_ret (by walk_at "ed")
def sp_told_best (_ : Ad) : Sp := Pur (fun (x : Uw49.Sheet × (List Nat × List Nat) × List (List Nat × List Nat)) vs H => ∃ w, vs = [w] ∧ Dn H w (.list ((x.2.1 :: x.2.2).map (dMs x.1))) ∧ x.2.2.length ≤ 40000 ∧ ∀ q ∈ x.2.1 :: x.2.2, q.1.length ≤ 100 ∧ q.2.length ≤ 100) fun x v G => Dn G v (dNs (toldB x.1 x.2.1 x.2.2))
theorem len_told_best {vs : List V} {H : Hp} {Q : VK} {E : XK} (h : sp_told_best a vs H Q E) : vs.length = 1 := by obtain ⟨_, _, _, ⟨_, h, _⟩, _⟩ := h; rw [h]; rfl
theorem minQ_mem (S : Uw49.Sheet) : ∀ (qs : List (List Nat × List Nat)) (q : List Nat × List Nat), minQ S q qs ∈ q :: qs
  | [], q => List.mem_cons_self
  | y :: qs, q => by
    have ih := minQ_mem S qs (if PySem.W.dataLt (dMs S y) (dMs S q) then y else q)
    show minQ S (if PySem.W.dataLt (dMs S y) (dMs S q) then y else q) qs ∈ q :: y :: qs
    rcases List.mem_cons.mp ih with h | h
    · rw [h]
      split
      · exact List.mem_cons_of_mem _ List.mem_cons_self
      · exact List.mem_cons_self
    · exact List.mem_cons_of_mem _ (List.mem_cons_of_mem _ h)
theorem cut3 (x0 x1 x2 x3 x4 : Dt) : cutD [x0, x1, x2, x3, x4] none (some 3) = [x0, x1, x2] := by
  unfold cutD
  rw [HT.sIx_none]
  rw [show HT.sIx ([x0, x1, x2, x3, x4] : List Dt).length ([x0, x1, x2, x3, x4] : List Dt).length (some 3) = min 3 5 from HT.sIx_nat _ _ 3]
  rfl
theorem eqv3 (S : Uw49.Sheet) (q r : List Nat × List Nat) : PyData.eqv (.tuple [.int (0 - (S.worth q.2 : Int)), .int (q.1.length : Int), .int (Uw49.rank q.2 : Int)]) (.tuple [.int (0 - (S.worth r.2 : Int)), .int (r.1.length : Int), .int (Uw49.rank r.2 : Int)]) = sameG S q r := by
  unfold sameG
  simp only [PyData.eqv, PyData.eqvAll, Bool.and_true]
  rw [Bool.eq_iff_iff]
  simp only [Bool.and_eq_true, beq_iff_eq, decide_eq_true_eq]
  omega
theorem ok_told_best {f : Addr} {fd : FuncData} (F : Fun K "told_best" "told_best" s_told_best f fd) (T : Tx K mg a)  : FnOk P w K mg base CX0 1 f fd ["found"] (sp_told_best a) := by
  obtain ⟨t_GOODNESS, h_GOODNESS⟩ := T.g_GOODNESS
  refine F.ok sc_told_best (fun vs H Q E h => ?_) (fun cdv A outer s H vs Q E hr h => ?_)
  · exact len_told_best h
  · refine ⟨_, (pss_cons (ps_set (i := 1) sc_told_best.nd rfl (Or.inr rfl) (pe_callB (cr_minD rfl hr.units) rfl T.b_min (by decide +kernel) (pa_cons (pv 0) pa_nil))) (pss_cons (ps_setLc (i := 2) (own := [("one", 3)]) rfl sc_told_best.nd rfl rfl (sw_true rfl rfl rfl (by decide +kernel)) (pi_list (pv 0)) (blkOk_by (own := [("one", 3)]) (N := ["found", "best", "alike", "one"]) (sc := defScope s_told_best) (by decide +kernel)) (by intros; exact (pg_name (i := 3) sc_told_best.nd rfl (Or.inl rfl))) (by intros; exact (pts_one (pt_cmpR (eqDK (K := K) rfl hr.units) (pe_slice (sl_tupK (K := K) rfl) (pv 3) po_none (po_some (pe_glob (v := .int (3)) rfl h_GOODNESS ⟨_, rfl⟩))) (pe_slice (sl_tupK (K := K) rfl) (pv 1) po_none (po_some (pe_glob (v := .int (3)) rfl h_GOODNESS ⟨_, rfl⟩))) (nomark _)))) (by intros; exact (pv 3))) (pss_one (ps_ret (pe_op op_cat (pe_op op_cat (pe_lst (pa_cons (pe_op op_sub pe_int (pe_ix (ix_tupK (K := K) rfl) (pv 1) pe_int (fun _ _ => rfl))) (pa_cons (pe_ix (ix_tupK (K := K) rfl) (pv 1) pe_int (fun _ _ => rfl)) (pa_cons (pe_ix (ix_tupK (K := K) rfl) (pv 1) pe_int (fun _ _ => rfl)) (pa_cons (pe_callB call_len_seq rfl T.b_len PySem.boot_len (pa_cons (pv 2) pa_nil)) pa_nil))))) (pe_ix (ix_tupK (K := K) rfl) (pv 1) pe_int (fun _ _ => rfl))) (pe_ix (ix_tupK (K := K) rfl) (pv 1) pe_int (fun _ _ => rfl))))))), ?_⟩
    refine pur_body h fun x H0 hp => ?_
    obtain ⟨S, q0, qs⟩ := x
    obtain ⟨w, rfl, hw, hl, hz⟩ := hp
    simp only [] at hw hl hz
    refine bk_asg (R := fun v G => Dn G v (dMs S (minQ S q0 qs))) (ed_is (ed_min (ds := qs.map (dMs S)) (by walk_at "ed") (alikeAll_ms S (q0 :: qs)) (Nat.le_trans (depths_ms S (q0 :: qs)) (by decide))) (minD_map S qs q0)) fun b G e hb => ?_
    replace hw := hw.mono e
    have mq := hz _ (minQ_mem S qs q0)
    have hbm : Dn G b (.tuple [.int (0 - (S.worth (minQ S q0 qs).2 : Int)), .int ((minQ S q0 qs).1.length : Int), .int (Uw49.rank (minQ S q0 qs).2 : Int), dNs (minQ S q0 qs).2, dNs (minQ S q0 qs).1]) := hb
    refine bk_asg (R := fun v G => Dn G v (.list (((q0 :: qs).filter fun r => sameG S r (minQ S q0 qs)).map (dMs S)))) (ed_lc (D := fun q x G => Dn G x (dMs S q)) (items := q0 :: qs) (fun r => sameG S r (minQ S q0 qs)) (dMs S) (src_map (f := dMs S) (src_list (by walk_at "ed"))) (by rw [List.length_cons]; omega) fun r x G1 hr e1 hx => ?_) fun al G1 e1 hal => ?_
    · have hx' : Dn G1 x (.tuple [.int (0 - (S.worth r.2 : Int)), .int (r.1.length : Int), .int (Uw49.rank r.2 : Int), dNs r.2, dNs r.1]) := hx
      have hb1 := hbm.mono e1
      have sl : ∀ {σ : L2.St} {H : Hp} {ta : TE} {x0 x1 x2 x3 x4 : Dt}, ED ta σ H (.tuple [x0, x1, x2, x3, x4]) → ED (tSl (rSlT K) ta tNoPart (tPart (tC (.int 3)))) σ H (.tuple [x0, x1, x2]) := fun {σ H ta x0 x1 x2 x3 x4} h => ed_is (ed_slT (lo := none) (hi := some 3) h eo_none (eo_some (by walk_at "ed")) (fun z => by
        have := z.2
        rw [show HT.sIx ([x0, x1, x2, x3, x4] : List Dt).length ([x0, x1, x2, x3, x4] : List Dt).length (some 3) = min 3 5 from HT.sIx_nat _ _ 3] at this
        cases this)) (by rw [cut3])
      exact cp_name ⟨rfl, et_is (et_test (ed_eqD (sl (by walk_at "ed")) (sl (by walk_at "ed")) rfl rfl)) (eqv3 S r _), fun _ => ed_var rfl hx⟩
    replace hbm := hbm.mono e1
    refine bk_ret (ed_is (ed_cat (ed_cat (ed_lst (ea_cons (ed_sub (by walk_at "ed") (by repeat' walk_at "ed")) (ea_cons (by repeat' walk_at "ed") (ea_cons (by repeat' walk_at "ed") (ea_cons (ed_len (by walk_at "ed")) ea_nil)))) (Nat.le_of_ble_eq_true rfl)) (by repeat' walk_at "ed") (by simp only [List.length_map, List.length_cons, List.length_nil]; omega)) (by repeat' walk_at "ed") (by
      simp only [List.length_map, List.length_append, List.length_cons, List.length_nil]; omega)) ?_)
    refine congrArg PyData.list ?_
    show _ = (toldB S q0 qs).map _
    unfold toldB
    rw [List.length_map]
    simp only [List.map_cons, List.map_append, List.cons_append, List.nil_append]
    have : (0 : Int) - (0 - (S.worth (minQ S q0 qs).2 : Int)) = (S.worth (minQ S q0 qs).2 : Int) := by omega
    rw [this]
end
end Md

/-! defs that may refuse -/
namespace Md
open PySem PySem.Spec PyProof.Rows L2
open Evl (Ex)
/-- the refusal with the numbers ns may be let out from any heap that H1 has become -/
def Rf (a : Ad) (H H1 : Hp) (E : XK) (ns : List Int) : Prop := ∀ d l G H2, Ext H H1 G H2 → G d = some (.xd [(("numbers" : Str), .ref l)]) → G l = some (.lst (ns.map V.int)) → E (.ref a.ref) (some d) H2
def PurX {α : Type} (a : Ad) (pre : α → List V → Hp → Prop) (post : α → V → Hp → Prop) (exc : α → List Int → Prop) : Sp := fun vs H1 Q E => ∃ x H, Ex H H1 ∧ pre x vs H ∧ (∀ v G H2, Ext H H1 G H2 → post x v G → Q v H2) ∧ ∀ ns, exc x ns → Rf a H H1 E ns
/-- a block that may refuse -/
def BkX (a : Ad) (E : XK) (ts : TS) (σ : L2.St) (H : Hp) (P : V → Hp → Prop) (N : L2.St → Hp → Prop) (X : List Int → Prop) : Prop := ∀ H1, Ex H H1 → ∀ D : Ends, (∀ v G H2, Ext H H1 G H2 → P v G → D.rt v H2) → (∀ σ' G H2, Ext H H1 G H2 → N σ' G → D.nx σ' H2) → (∀ ns, X ns → Rf a H H1 E ns) → ts D σ H1
theorem Rf.on {a : Ad} {H H1 G H2 : Hp} {E : XK} {ns : List Int} (x : Ext H H1 G H2) (h : Rf a H H1 E ns) : Rf a G H2 E ns := fun d l G' H3 y h1 h2 => h d l G' H3 (x.trans y) h1 h2
theorem Rf.back {a : Ad} {H H1 G H2 : Hp} {E : XK} {ns : List Int} (x : Ext H H1 G H2) (h : Rf a H H1 E ns) : Rf a H H2 E ns := fun d l G' H3 y h1 h2 => h d l G' H3 (x.back y) h1 h2
section
variable {a : Ad} {E : XK} {K : PySem.W.Frag} {σ : L2.St} {H : Hp} {te : TE} {t u : TS} {tt : TT} {P R : V → Hp → Prop} {N M : L2.St → Hp → Prop} {g : TG} {X : List Int → Prop}
theorem Bk.x (h : Bk t σ H P N) : BkX a E t σ H P N X := fun H1 e D r n _ => h H1 e D r n
theorem bx_seq (h : BkX a E t σ H P M X) (k : ∀ σ' G, Ex H G → M σ' G → BkX a E u σ' G P N X) : BkX a E (tSeq t u) σ H P N X := fun H1 e D r n z => h H1 e { D with nx := u D } r (fun σ' G H2 x m => k σ' G x.hg m H2 x.gb D (fun v G' H3 y p => r v G' H3 (x.trans y) p) (fun σ2 G' H3 y p => n σ2 G' H3 (x.trans y) p) fun ns hx => (z ns hx).on x) z
theorem bx_asg {i : Nat} (h : CP (te σ) H R) (k : ∀ v G, Ex H G → R v G → BkX a E u (σ.set i (some v)) G P N X) : BkX a E (tSeq (tAsg te (gName i)) u) σ H P N X :=
  bx_seq (M := fun σ' G => ∃ v, σ' = σ.set i (some v) ∧ R v G ∧ Ex H G) (Bk.x (bk_asgG h fun v G e p => CP.ret ⟨v, rfl, p, e⟩)) fun σ' G e ⟨v, h1, h2, h3⟩ => by subst h1; exact k v G e h2
theorem bx_asgI {i : Nat} {n : Int} (h : ED te σ H (.int n)) (k : BkX a E u (σ.set i (some (.int n))) H P N X) : BkX a E (tSeq (tAsg te (gName i)) u) σ H P N X := fun H1 e D r m z => h H1 e _ fun v G H2 x p => by
  rw [dn_int p]
  exact k H2 (e.trans x.ab) D (fun v G' H3 y p => r v G' H3 (x.back y) p) (fun σ2 G' H3 y p => m σ2 G' H3 (x.back y) p) fun ns hx => (z ns hx).back x
theorem bx_if {b : Bool} (h : ET tt σ H b) (h1 : b = true → BkX a E t σ H P N X) (h2 : b = false → BkX a E u σ H P N X) : BkX a E (tIfS tt t u) σ H P N X := fun H1 e D r m z => h H1 e _ fun c G H2 x p => by
  subst p
  cases c with
  | true => exact h1 rfl H2 (e.trans x.ab) D (fun v G' H3 y p => r v G' H3 (x.back y) p) (fun σ2 G' H3 y p => m σ2 G' H3 (x.back y) p) fun ns hx => (z ns hx).back x
  | false => exact h2 rfl H2 (e.trans x.ab) D (fun v G' H3 y p => r v G' H3 (x.back y) p) (fun σ2 G' H3 y p => m σ2 G' H3 (x.back y) p) fun ns hx => (z ns hx).back x
theorem bx_for {β : Type} {D : β → V → Hp → Prop} {items : List β} {wi : TI} (hsrc : Src wi σ H items D) (J : Nat → L2.St → Prop) (h0 : J 0 σ)
    (hs : ∀ i b x G σ', items[i]? = some b → Ex H G → D b x G → J i σ' → CP (g x σ') G fun σ2 G' => BkX a E t σ2 G' P (fun σ3 _ => J (i + 1) σ3) X) (hd : ∀ σ' G, Ex H G → J items.length σ' → N σ' G) : BkX a E (tFor wi g t) σ H P N X := fun H1 e D r n z => hsrc H1 e _ fun It G H2 x hw => by
  obtain ⟨Gp, Y, w, hGp, hY⟩ := hw
  refine for_it w (fun i σ' H' => Ex H2 H' ∧ J i σ') ⟨Ex.refl H2, h0⟩ (fun i σ' H' _ h => hGp H' (x.gb.trans h.1)) (fun i v σ' H' H'' hi ⟨e1, j1⟩ hy => ?_) (fun σ' H' ⟨e1, j1⟩ => n σ' G H' ⟨x.hg, x.gb.trans e1, x.ab.trans e1, x.sep⟩ (hd σ' G x.hg j1))
  obtain ⟨b, G1, hb, x1, hdb⟩ := hY i v H' H'' hi (x.gb.trans e1) hy
  have y1 := Ext.from e1 x1
  refine hs i b v G1 σ' hb (x.hg.trans x1.hg) hdb j1 H'' x1.gb _ fun σ2 G2 H3 x2 hb2 => ?_
  have y2 := (x.trans y1).trans x2
  exact hb2 H3 x2.gb _ (fun v G3 H4 x3 p => r v G3 H4 (y2.trans x3) p) (fun σ3 G3 H4 x3 p => ⟨((y1.trans x2).trans x3).ab, p⟩) fun ns hx => (z ns hx).on y2
theorem purX_body {α : Type} {pre : α → List V → Hp → Prop} {post : α → V → Hp → Prop} {exc : α → List Int → Prop} {vs : List V} {H1 : Hp} {Q : VK} {s0 : L2.St} (h : PurX a pre post exc vs H1 Q E) (hb : ∀ x H, pre x vs H → BkX a E t s0 H (post x) (fun _ G => post x .non G) (exc x)) : t { nx := fun _ H' => Q .non H', rt := Q } s0 H1 := by
  obtain ⟨x, H, e, hp, k, k2⟩ := h
  exact hb x H hp H1 e _ k (fun σ' G H2 y p => k _ G H2 y p) k2
/-! calls of defs that may refuse -/
variable {α : Type} {pre : α → List V → Hp → Prop} {post : α → V → Hp → Prop} {exc : α → List Int → Prop} {ta : TA} {to : TE} {x : α}
/-- a call that may refuse, as a value; K2: what is done with the value -/
def CPX (a : Ad) (E : XK) (m : Cm V) (H : Hp) (P : V → Hp → Prop) (X : List Int → Prop) : Prop := ∀ H1, Ex H H1 → ∀ Q : VK, (∀ v G H2, Ext H H1 G H2 → P v G → Q v H2) → (∀ ns, X ns → Rf a H H1 E ns) → m H1 Q
theorem cx_call {A : List V → Hp → Prop} (h : CP (ta σ) H A) (hp : ∀ vs G, Ex H G → A vs G → pre x vs G) : CPX a E (tCall (PurX a pre post exc) [] E ta σ) H (post x) (exc x) := fun H1 e Q q z => h H1 e _ fun vs G H2 y hA => by
  rw [List.append_nil]
  exact ⟨x, G, y.gb, hp vs G y.hg hA, fun v G3 H3 w p => q v G3 H3 (y.trans w) p, fun ns hx => (z ns hx).on y⟩
theorem cx_meth {C : Addr} {m : Str} {A : List V → Hp → Prop} {O : V → Hp → Prop} (mO : Mono O) (mA : Mono A) (ho : CP (to σ) H O) (hm : ∀ v G, O v G → ∃ a dx fs, v = .ref a ∧ G a = some (.ins C dx fs) ∧ fs.lookup m = none) (h : CP (ta σ) H A)
    (hp : ∀ v vs G, Ex H G → O v G → A vs G → pre x (v :: vs) G) : CPX a E (tMeth C m (PurX a pre post exc) [] E to ta σ) H (post x) (exc x) := fun H1 e Q q z => ho H1 e _ fun o G H2 y hO => by
    obtain ⟨p, dx, fs, rfl, h1, h2⟩ := hm o G hO
    refine ⟨p, dx, fs, rfl, y.gb _ _ h1, h2, (h.mono mA y.hg) H2 y.gb _ fun vs G2 H3 y2 hA => ?_⟩
    rw [List.append_nil]
    have w := y.trans y2
    exact ⟨x, G2, y2.gb, hp _ vs G2 w.hg (mO _ _ _ y2.hg hO) hA, fun v G3 H4 y3 p => q v G3 H4 (w.trans y3) p, fun ns hx => (z ns hx).on w⟩
theorem CPX.imp {m : Cm V} {P' : V → Hp → Prop} {X' : List Int → Prop} (h : CPX a E m H P X) (f : ∀ v G, Ex H G → P v G → P' v G) (f' : ∀ ns, X ns → X' ns) : CPX a E m H P' X' := fun H1 e Q q z => h H1 e Q (fun v G H2 y p => q v G H2 y (f v G y.hg p)) fun ns hx => z ns (f' ns hx)
theorem bx_drop (h : CPX a E (te σ) H R X) (k : ∀ v G, Ex H G → R v G → N σ G) : BkX a E (tDrop te) σ H P N X := fun H1 e D _ n z => h H1 e _ (fun v G H2 y p => n σ G H2 y (k v G y.hg p)) z
/-- a call that may refuse; then the rest, where it did not -/
theorem bx_call {X' : List Int → Prop} (h : CPX a E (te σ) H R X') (hx : ∀ ns, X' ns → X ns) (k : ∀ v G, Ex H G → R v G → BkX a E u σ G P N X) : BkX a E (tSeq (tDrop te) u) σ H P N X :=
  bx_seq (M := fun σ' G => σ' = σ ∧ Ex H G ∧ ∃ v, R v G) (bx_drop (X := X) (fun H1 e Q q z => h H1 e Q q fun ns hn => z ns (hx ns hn)) fun v G e p => ⟨rfl, e, v, p⟩) fun σ' G e ⟨h1, h2, v, p⟩ => by subst h1; exact k v G e p
theorem bx_retX (h : CPX a E (te σ) H P X) : BkX a E (tRet te) σ H P N X := fun H1 e D r _ z => h H1 e _ r z
end
/-! ### the refusal itself -/
def sp_Refused_init (a : Ad) : Sp := fun vs H Q _ => ∃ e v, vs = [.ref e, v] ∧ H e = some (exo e a.ref none) ∧ ∀ dx, H dx = none → dx ≠ e → Q .non (upd (upd H dx (exd dx [(("numbers" : Str), v)])) e (exo e a.ref (some dx)))
theorem len_Refused_init {a : Ad} {vs : List V} {H : Hp} {Q : VK} {E : XK} (h : sp_Refused_init a vs H Q E) : vs.length = 2 := by obtain ⟨_, _, h, _⟩ := h; rw [h]; rfl
/-- raise Refused(numbers) -/
theorem bx_raise {a : Ad} {E : XK} {te : TE} {σ : L2.St} {H : Hp} {ns : List Int} {P : V → Hp → Prop} {N : L2.St → Hp → Prop} {X : List Int → Prop} (h : ED te σ H (dIs ns)) (hx : X ns) :
    BkX a E (fun _ σ H => tMkO a.ref (sp_Refused_init a) [] (tCons te tNil) σ H fun cls d H' => E cls d H') σ H P N X := fun H1 e D _ _ z => h H1 e _ fun v G H2 y hv => by
  refine ⟨(by show 1 ≤ 1000; decide), fun q hq => ?_⟩
  rw [show ([v] ++ ([] : List V)) = [v] from rfl]
  refine ⟨q, v, rfl, upd_same, fun dx hdx hne => ⟨rfl, dx, [(("numbers" : Str), v)], upd_same, ?_, ?_, ?_⟩⟩
  · rw [upd_ne hne, upd_same]
  · rw [upd_ne hne] at hdx
    exact hdx
  · obtain ⟨l, xs, rfl, h1, h2⟩ := dn_lst hv
    have hd2 : H2 dx = none := by rw [upd_ne hne] at hdx; exact hdx
    have e1 : (upd (del (upd (upd (upd H2 q (exo q a.ref none)) dx (exd dx [(("numbers" : Str), .ref l)])) q (exo q a.ref (some dx))) q) dx (.xd [(("numbers" : Str), .ref l)])) = upd H2 dx (.xd [(("numbers" : Str), .ref l)]) := by
      funext b
      by_cases b1 : b = dx
      · subst b1; rw [upd_same, upd_same]
      · rw [upd_ne b1, upd_ne b1]
        by_cases b2 : b = q
        · subst b2; rw [del_same, hq]
        · rw [del_ne b2, upd_ne b2, upd_ne b1, upd_ne b2]
    rw [e1]
    have y2 := Ext.new y.gb (o := .xd [(("numbers" : Str), .ref l)]) hd2
    refine z ns hx dx l _ _ (y.trans y2) upd_same ?_
    have hG : G dx = none := Evl.fresh_back y.gb hd2
    rw [upd_ne (ne_of_none h1 hG), h1, dn_ints h2]
/-! ### the desk -/
def DeskAt (a : Ad) (S : Uw49.Sheet) (v : V) (H : Hp) : Prop := ∃ p dx sv, v = .ref p ∧ H p = some (.ins a.desk dx (kF sv)) ∧ SheetAt a S sv H
theorem mono_desk {a : Ad} (S : Uw49.Sheet) : Mono (DeskAt a S) := fun v G G' e ⟨p, dx, sv, h1, h2, h3⟩ => ⟨p, dx, sv, h1, e _ _ h2, mono_sheet _ _ _ _ e h3⟩
theorem kF_none {s : V} {m : Str} (h : (m == ("sheet" : Str)) = false) : (kF s).lookup m = none := (lk_past h).trans rfl
theorem cp_dsheet {a : Ad} {K : PySem.W.Frag} {mg : Str → Option Value} {to : TE} {σ : L2.St} {H : Hp} {S : Uw49.Sheet} (X : Tx K mg a) (h : CP (to σ) H (DeskAt a S)) : CP (tFld K to "sheet" σ) H (SheetAt a S) := cp_fld X.cD X.nD_sheet h fun v G ⟨p, dx, sv, h1, h2, h3⟩ => ⟨p, dx, _, sv, h1, h2, kF_sheet, h3⟩
theorem desk_m {a : Ad} {S : Uw49.Sheet} {m : Str} (hm : (m == ("sheet" : Str)) = false) : ∀ v G, DeskAt a S v G → ∃ p dx fs, v = .ref p ∧ G p = some (.ins a.desk dx fs) ∧ fs.lookup m = none := fun v G ⟨p, dx, sv, h1, h2, h3⟩ => ⟨p, dx, _, h1, h2, kF_none hm⟩
end Md

namespace Md
open PySem PySem.Spec PyProof.Rows L2
open Evl (Ex)
local macro_rules | `(tactic| walk_at "ed") => `(tactic| first
  | with_reducible exact ed_int | with_reducible exact ed_bl | with_reducible exact ed_non
  | ((with_reducible show ED (tVar _) _ _ _); refine ed_var rfl ?_; first | assumption | exact Dn.int _ | exact Dn.bl _)
  | ((with_reducible show CP (tVar _ _) _ _); refine cp_var rfl ?_; assumption)
  | with_reducible apply ed_add | with_reducible apply ed_sub | with_reducible apply ed_mul
  | with_reducible apply ed_lt | with_reducible apply ed_le | with_reducible apply ed_gt | with_reducible apply ed_ge
  | with_reducible apply ed_eq | with_reducible apply ed_ne | with_reducible apply ed_neg | with_reducible apply ed_isN | with_reducible apply ed_notN
  | ((with_reducible apply ed_swide); assumption) | ((with_reducible apply ed_shigh); assumption) | ((with_reducible apply ed_soff); assumption) | ((with_reducible apply ed_spoints); assumption)
  | ((with_reducible apply ed_twide); assumption) | ((with_reducible apply ed_thigh); assumption) | ((with_reducible apply ed_tworth); assumption) | ((with_reducible apply ed_tplace); assumption)
  | ((with_reducible apply cp_stowns); assumption) | ((with_reducible apply cp_dsheet); assumption)
  | with_reducible apply ed_ixT | with_reducible apply ed_ixL | with_reducible exact at_0 | with_reducible exact at_1 | with_reducible exact at_2 | with_reducible exact at_3 | with_reducible exact at_4
  | with_reducible apply ed_tup | with_reducible apply ed_lst | ((with_reducible show List.length _ ≤ 100000); exact Nat.le_of_ble_eq_true rfl)
  | with_reducible exact ea_nil | with_reducible apply ea_cons
  | with_reducible apply et_test | with_reducible apply et_B)
theorem chosen_rises : ∀ c : List Nat, (c.zip (c.drop 1)).all (fun b => decide (b.1 < b.2)) = Uw49.rises c
  | [] => rfl
  | [_] => rfl
  | x :: y :: r => by
    have := chosen_rises (y :: r)
    show (decide (x < y) && ((y :: r).zip r).all fun b => decide (b.1 < b.2)) = (decide (x < y) && Uw49.rises (y :: r))
    rw [← this]
    rfl
theorem canLay_ints : ∀ l : List Int, PyData.canLay0 (.list (l.map PyData.int)) = true
  | [] => by simp [PyData.canLay0, PyData.canLayAll0]
  | a :: l => by
    have := canLay_ints l
    simp [PyData.canLay0, PyData.canLayAll0] at this ⊢
    exact this
theorem depth_ints' : ∀ l : List Int, PyData.depthAll (l.map PyData.int) = 0
  | [] => by simp [PyData.depthAll]
  | a :: l => by
    have := depth_ints' l
    simp [PyData.depthAll, PyData.depth] at this ⊢
    exact this
theorem shaped_ints (l : List Int) : SeqAt.shaped (.list (l.map PyData.int)) = true := by
  unfold SeqAt.shaped
  rw [canLay_ints, Bool.true_and]
  refine decide_eq_true ?_
  rw [PyData.depth, depth_ints']
  decide
theorem eqv_nil (ds : List Dt) : PyData.eqv (.list ds) (.list []) = ds.isEmpty := by
  cases ds with
  | nil => simp [PyData.eqv, PyData.eqvAll]
  | cons d ds => simp [PyData.eqv, PyData.eqvAll]
theorem last_at {c : List Nat} {z : Nat} (h : c.getLast? = some z) : atI (c.map fun (n : Nat) => PyData.int (n : Int)) (-1) = some (.int (z : Int)) := by
  obtain ⟨l, rfl⟩ : ∃ l, c = l ++ [z] := List.getLast?_eq_some_iff.mp h
  rw [List.map_append]
  exact atI_last _ _
theorem refuse1 {n : Int} : dIs [n] = .list [.int n] := rfl
/-- a sheet whose list of towns stands at tl -/
def SheetTl (a : Ad) (S : Uw49.Sheet) (v : V) (tl : Addr) (H : Hp) : Prop := ∃ q dx pv ts, v = .ref q ∧ H q = some (.ins a.sheet dx (sF S pv (.ref tl))) ∧ Dn H pv (dPts S.points) ∧ H tl = some (.lst ts) ∧ All2 (fun b x => TownAt a b x H) ts S.towns
theorem SheetTl.mono {a : Ad} {S : Uw49.Sheet} {v : V} {tl : Addr} {G G' : Hp} (e : Ex G G') : SheetTl a S v tl G → SheetTl a S v tl G' := fun ⟨q, dx, pv, ts, h1, h2, h3, h4, h5⟩ => ⟨q, dx, pv, ts, h1, e _ _ h2, h3.mono e, e _ _ h4, h5.imp fun b x h => mono_town b x G G' e h⟩
theorem SheetTl.at {a : Ad} {S : Uw49.Sheet} {v : V} {tl : Addr} {G : Hp} : SheetTl a S v tl G → SheetAt a S v G := fun ⟨q, dx, pv, ts, h1, h2, h3, h4, h5⟩ => ⟨q, dx, pv, .ref tl, h1, h2, h3, tl, ts, rfl, h4, h5⟩
section
variable {P : Program} {w : World} {K : PySem.W.Frag} {mg : Str → Option Value} {base : Heap} {a : Ad}
theorem ok_Refused_init {f : Addr} {fd : FuncData} (F : Fun K "__init__" "Refused.__init__" s_Refused_init f fd) (T : Tx K mg a)  : FnOk P w K mg base CX0 1 f fd ["self", "numbers"] (sp_Refused_init a) := by
  refine F.ok sc_Refused_init (fun vs H Q E h => ?_) (fun cdv A outer s H vs Q E hr h => ?_)
  · exact len_Refused_init h
  · refine ⟨_, (pss_cons (ps_expr (pe_veinit rfl T.b_ValueError T.ve (pa_cons (pv 0) (pa_cons pe_str pa_nil)))) (pss_one (ps_ost (pv 0) (pv 1)))), ?_⟩
    obtain ⟨e, v, rfl, he, k⟩ := h
    refine ⟨_, rfl, e, a.ref, [.str "refused"], rfl, (by show 1 ≤ 1000; decide), T.xr, he, ?_⟩
    exact ⟨_, rfl, _, rfl, e, a.ref, rfl, T.xr, T.noNum, .inl ⟨he, fun dx h1 h2 => k dx h1 h2⟩⟩
def sp_want (a : Ad) : Sp := PurX a (fun (x : Bool × List Int) vs H => ∃ w, vs = [.bl x.1, w] ∧ Dn H w (dIs x.2)) (fun x v G => x.1 = true ∧ v = .non) (fun x ns => x.1 = false ∧ ns = x.2)
theorem len_want {vs : List V} {H : Hp} {Q : VK} {E : XK} (h : sp_want a vs H Q E) : vs.length = 2 := by obtain ⟨_, _, _, ⟨_, h, _⟩, _⟩ := h; rw [h]; rfl
theorem ok_want {f : Addr} {fd : FuncData} (F : Fun K "want" "want" s_want f fd) (T : Tx K mg a) (c_Refused_init : RIni P w K mg base 1 a.ref ["self", "numbers"] (sp_Refused_init a)) : FnOk P w K mg base (L2.CX P w) 3 f fd ["truth", "numbers"] (sp_want a) := by
  refine F.okX sc_want (fun vs H Q E h => ?_) (fun cdv A outer s H vs Q E hr h => ?_)
  · exact len_want h
  · refine ⟨_, (pss_one (ps_if (pt_not (pt_val (pv 0))) (pss_one (ps_raise rfl (takes_of rfl rfl rfl rfl) (pmk_ref T c_Refused_init (hr.mono (by decide)) rfl (by exact (pa_cons (pv 1) pa_nil))))) pss_nil)), ?_⟩
    refine purX_body h fun x H0 hp => ?_
    obtain ⟨b, ns⟩ := x
    obtain ⟨w, rfl, hw⟩ := hp
    simp only [] at hw
    exact bx_if (b := !b) (et_not (et_B (by walk_at "ed"))) (fun q => bx_raise (ns := ns) (by walk_at "ed") ⟨by simpa using q, rfl⟩) (fun q => Bk.x (bk_next ⟨by simpa using q, rfl⟩))
def sp_is_side (_ : Ad) : Sp := Pur (fun (x : Int) vs H => vs = [.int x]) fun x v G => Dn G v (.bool (decide (1 ≤ x) && decide (x ≤ 60)))
theorem len_is_side {vs : List V} {H : Hp} {Q : VK} {E : XK} (h : sp_is_side a vs H Q E) : vs.length = 1 := by obtain ⟨_, _, _, h, _⟩ := h; rw [h]; rfl
theorem ok_is_side {f : Addr} {fd : FuncData} (F : Fun K "is_side" "is_side" s_is_side f fd) (T : Tx K mg a)  : FnOk P w K mg base CX0 1 f fd ["number"] (sp_is_side a) := by
  obtain ⟨t_MOST_SIDE, h_MOST_SIDE⟩ := T.g_MOST_SIDE
  refine F.ok sc_is_side (fun vs H Q E h => ?_) (fun cdv A outer s H vs Q E hr h => ?_)
  · exact len_is_side h
  · refine ⟨_, (pss_one (ps_ret (pe_and (pe_cmpR op_le pe_int (pv 0) (nomark _)) (pe_one (pe_cmpR op_le (pv 0) (pe_glob (v := .int (60)) rfl h_MOST_SIDE ⟨_, rfl⟩) (nomark _)))))), ?_⟩
    refine pur_body h fun x H0 hp => ?_
    subst hp
    exact bk_ret (ed_and (by repeat' walk_at "ed") fun _ => (by repeat' walk_at "ed"))
def sp_Sheet_init (a : Ad) : Sp := fun vs H Q _ => ∃ q dx pv S, vs = [.ref q, .int (S : Uw49.Sheet).wide, .int S.high, .int S.off, pv] ∧ H q = some (.ins a.sheet dx []) ∧
  ∀ tl, H tl = none → tl ≠ q → Q .non (upd (upd H tl (.lst [])) q (.ins a.sheet dx (sF S pv (.ref tl))))
theorem len_Sheet_init {vs : List V} {H : Hp} {Q : VK} {E : XK} (h : sp_Sheet_init a vs H Q E) : vs.length = 5 := by obtain ⟨_, _, _, _, h, _⟩ := h; rw [h]; rfl
theorem ok_Sheet_init {f : Addr} {fd : FuncData} (F : Fun K "__init__" "Sheet.__init__" s_Sheet_init f fd) (T : Tx K mg a)  : FnOk P w K mg base CX0 1 f fd ["self", "wide", "high", "off", "points"] (sp_Sheet_init a) := by
  refine F.ok sc_Sheet_init (fun vs H Q E h => ?_) (fun cdv A outer s H vs Q E hr h => ?_)
  · exact len_Sheet_init h
  · refine ⟨_, (pss_cons (ps_fld (pv 0) (pv 1) rfl) (pss_cons (ps_fld (pv 0) (pv 2) rfl) (pss_cons (ps_fld (pv 0) (pv 3) rfl) (pss_cons (ps_fld (pv 0) (pv 4) rfl) (pss_one (ps_fld (pv 0) (pe_lst pa_nil) rfl)))))), ?_⟩
    obtain ⟨q, dx, pv, S, rfl, hq, k⟩ := h
    refine ⟨_, rfl, _, rfl, q, _, dx, [], rfl, hq, T.cS, T.nS_wide, (by show 0 < 1000; decide), ?_⟩
    refine ⟨_, rfl, _, rfl, q, _, dx, _, rfl, upd_same, T.cS, T.nS_high, (by show 1 < 1000; decide), ?_⟩
    refine ⟨_, rfl, _, rfl, q, _, dx, _, rfl, upd_same, T.cS, T.nS_off, (by show 2 < 1000; decide), ?_⟩
    refine ⟨_, rfl, _, rfl, q, _, dx, _, rfl, upd_same, T.cS, T.nS_points, (by show 3 < 1000; decide), ?_⟩
    rw [upd_upd, upd_upd, upd_upd]
    refine ⟨Nat.zero_le _, fun tl htl => ?_⟩
    have hne : tl ≠ q := fun z => by rw [z, upd_same] at htl; cases htl
    rw [upd_ne hne] at htl
    refine ⟨_, rfl, q, _, dx, _, rfl, by rw [upd_ne (Ne.symm hne), upd_same], T.cS, T.nS_towns, (by show 4 < 1000; decide), ?_⟩
    have e : upd (upd (upd H q (.ins a.sheet dx (putF "points" pv (putF "off" (.int S.off) (putF "high" (.int S.high) (putF "wide" (.int S.wide) [])))))) tl (.lst [])) q (.ins a.sheet dx (putF "towns" (.ref tl) (putF "points" pv (putF "off" (.int S.off) (putF "high" (.int S.high) (putF "wide" (.int S.wide) [])))))) = upd (upd H tl (.lst [])) q (.ins a.sheet dx (sF S pv (.ref tl))) := by
      funext b
      by_cases b1 : b = q
      · subst b1
        rw [upd_same, upd_same]
        refine congrArg (fun z => some (HO.ins a.sheet dx z)) ?_
        refine Eq.trans (congrArg _ (congrArg _ (congrArg _ (put_past (by decide +kernel))))) ?_
        refine Eq.trans (congrArg _ (congrArg _ (put_past (by decide +kernel)))) ?_
        refine Eq.trans (congrArg _ (congrArg _ (congrArg _ (put_past (by decide +kernel))))) ?_
        refine Eq.trans (congrArg _ (put_past (by decide +kernel))) ?_
        refine Eq.trans (congrArg _ (congrArg _ (put_past (by decide +kernel)))) ?_
        refine Eq.trans (congrArg _ (congrArg _ (congrArg _ (put_past (by decide +kernel))))) ?_
        refine Eq.trans (put_past (by decide +kernel)) ?_
        refine congrArg _ (Eq.trans (put_past (by decide +kernel)) ?_)
        refine congrArg _ (Eq.trans (put_past (by decide +kernel)) ?_)
        refine congrArg _ (Eq.trans (put_past (by decide +kernel)) ?_)
        rfl
      · rw [upd_ne b1, upd_ne b1]
        by_cases b2 : b = tl
        · subst b2; rw [upd_same, upd_same]
        · rw [upd_ne b2, upd_ne b2, upd_ne b1]
    exact e ▸ k tl htl hne
def sp_Sheet_has (a : Ad) : Sp := Pur (fun (x : Uw49.Sheet × (Int × Int)) vs H => ∃ v w, vs = [v, w] ∧ SheetAt a x.1 v H ∧ Dn H w (dPt x.2)) fun x v G => Dn G v (.bool (decide (x.2.1 ≤ (x.1.wide : Int)) && decide (x.2.2 ≤ (x.1.high : Int))))
theorem len_Sheet_has {vs : List V} {H : Hp} {Q : VK} {E : XK} (h : sp_Sheet_has a vs H Q E) : vs.length = 2 := by obtain ⟨_, _, _, ⟨_, _, h, _⟩, _⟩ := h; rw [h]; rfl
theorem ok_Sheet_has {f : Addr} {fd : FuncData} (F : Fun K "has" "Sheet.has" s_Sheet_has f fd) (T : Tx K mg a)  : FnOk P w K mg base CX0 1 f fd ["self", "place"] (sp_Sheet_has a) := by
  refine F.ok sc_Sheet_has (fun vs H Q E h => ?_) (fun cdv A outer s H vs Q E hr h => ?_)
  · exact len_Sheet_has h
  · refine ⟨_, (pss_one (ps_ret (pe_and (pe_cmpR op_le (pe_ix (ix_tupK (K := K) rfl) (pv 1) pe_int (fun _ _ => rfl)) (pe_fldK (K := K) rfl (pv 0) rfl) (nomark _)) (pe_one (pe_cmpR op_le (pe_ix (ix_tupK (K := K) rfl) (pv 1) pe_int (fun _ _ => rfl)) (pe_fldK (K := K) rfl (pv 0) rfl) (nomark _)))))), ?_⟩
    refine pur_body h fun x H0 hp => ?_
    obtain ⟨S, p⟩ := x
    obtain ⟨v, w, rfl, hS, hw⟩ := hp
    simp only [] at hS hw
    exact bk_ret (ed_and (by repeat' walk_at "ed") fun _ => (by repeat' walk_at "ed"))
def sp_Desk_init (a : Ad) : Sp := fun vs H Q _ => ∃ q dx, vs = [.ref q] ∧ H q = some (.ins a.desk dx []) ∧ ∀ sv tl H', H' q = some (.ins a.desk dx (kF sv)) → SheetTl a Uw49.init sv tl H' → H tl = none → (∀ b o, H b = some o → b ≠ q → H' b = some o) → Q .non H'
theorem len_Desk_init {vs : List V} {H : Hp} {Q : VK} {E : XK} (h : sp_Desk_init a vs H Q E) : vs.length = 1 := by obtain ⟨_, _, h, _⟩ := h; rw [h]; rfl
theorem cp_mkSheet {σ : L2.St} {H : Hp} {ta : TA} {S : Uw49.Sheet} (hT : S.towns = []) (h : EA ta σ H [.int S.wide, .int S.high, .int S.off, dPts S.points]) : CP (tMake a.sheet (sp_Sheet_init a) [] E0 ta σ) H (fun v G => ∃ tl, H tl = none ∧ SheetTl a S v tl G) := fun H1 e Q k => h H1 e _ fun vs G H2 y hv q dx hq hdx hne => by
  obtain ⟨v1, v2, v3, pv, rfl, q1, q2, q3, q4⟩ := dn4 hv
  rw [dn_int q1, dn_int q2, dn_int q3]
  refine ⟨q, dx, pv, S, rfl, upd_same, fun tl htl hnt => ⟨rfl, ?_⟩⟩
  rw [upd_ne hnt] at htl
  have hnd : tl ≠ dx := fun z => by rw [z, upd_same] at htl; cases htl
  rw [upd_ne hnd] at htl
  have x1 := Ext.new y.gb (o := .own q) hdx
  have x2 := Ext.new x1.gb (o := .lst []) (p := tl) (by rw [upd_ne hnd]; exact htl)
  have x3 := Ext.new x2.gb (o := .ins a.sheet dx (sF S pv (.ref tl))) (p := q) (by rw [upd_ne (Ne.symm hnt), upd_ne (Ne.symm hne)]; exact hq)
  have e1 : upd (upd (upd (upd H2 dx (.own q)) q (.ins a.sheet dx [])) tl (.lst [])) q (.ins a.sheet dx (sF S pv (.ref tl))) = upd (upd (upd H2 dx (.own q)) tl (.lst [])) q (.ins a.sheet dx (sF S pv (.ref tl))) := by
    funext b
    by_cases b1 : b = q
    · subst b1; rw [upd_same, upd_same]
    · rw [upd_ne b1, upd_ne b1]
      by_cases b2 : b = tl
      · subst b2; rw [upd_same, upd_same]
      · rw [upd_ne b2, upd_ne b2, upd_ne b1]
  rw [e1]
  have x4 := (x1.trans x2).trans x3
  have nH : H tl = none := Evl.fresh_back y.hg (Evl.fresh_back y.gb htl)
  refine k _ _ _ (y.trans x4) ⟨tl, nH, q, dx, pv, [], rfl, upd_same, q4.mono x4.hg, ?_, ?_⟩
  · rw [upd_ne hnt, upd_same]
  · rw [hT]; exact .nil
theorem ok_Desk_init {f : Addr} {fd : FuncData} (F : Fun K "__init__" "Desk.__init__" s_Desk_init f fd) (T : Tx K mg a) (c_Sheet_init : MkC P w K mg base 1 a.sheet "Sheet" ["self", "wide", "high", "off", "points"] (sp_Sheet_init a)) : FnOk P w K mg base CX0 3 f fd ["self"] (sp_Desk_init a) := by
  refine F.ok sc_Desk_init (fun vs H Q E h => ?_) (fun cdv A outer s H vs Q E hr h => ?_)
  · exact len_Desk_init h
  · refine ⟨_, (pss_one (ps_fld (pv 0) (pe_mk c_Sheet_init (hr.mono (by decide)) rfl pass0 (pa_cons pe_int (pa_cons pe_int (pa_cons pe_int (pa_cons (pe_lst (pa_cons (pe_tup (pa_cons pe_int (pa_cons pe_int pa_nil))) (pa_cons (pe_tup (pa_cons pe_int (pa_cons pe_int pa_nil))) pa_nil))) pa_nil))))) rfl)), ?_⟩
    obtain ⟨q, dx, rfl, hq, k⟩ := h
    refine cp_mkSheet (S := Uw49.init) rfl (H := fun _ => none) (show EA _ _ _ [.int 1, .int 1, .int 0, .list [.tuple [.int 0, .int 0], .tuple [.int 1, .int 1]]] from by repeat' walk_at "ed") H (fun _ _ z => by cases z) _ fun sv G H2 y ⟨tl, _, hS⟩ => ?_
    have hq2 := y.ab _ _ hq
    have nG : G q = none := y.sep q rfl (by rw [hq]; simp)
    refine ⟨_, rfl, q, _, dx, [], rfl, hq2, T.cD, T.nD_sheet, (by show 0 < 1000; decide), ?_⟩
    have nT : H tl = none := by
      obtain ⟨_, _, _, ts, _, _, _, h4, _⟩ := hS
      cases z : H tl with
      | none => rfl
      | some o => rw [y.sep tl rfl (by rw [z]; simp)] at h4; cases h4
    exact k sv tl _ (by rw [upd_same]; rfl) (hS.mono (Ext.upd y.gb nG)) nT fun b o hb hne => by rw [upd_ne hne]; exact y.ab b o hb
def sp_Desk_want_choice (a : Ad) : Sp := PurX a (fun (x : Uw49.Sheet × List Nat) vs H => ∃ v w, vs = [v, w] ∧ DeskAt a x.1 v H ∧ Wf x.1 ∧ Dn H w (dNs x.2) ∧ x.2.length ≤ 100) (fun x v G => x.1.chosen x.2 = true ∧ v = .non) (fun x ns => x.1.chosen x.2 = false ∧ ns = [-1])
theorem len_Desk_want_choice {vs : List V} {H : Hp} {Q : VK} {E : XK} (h : sp_Desk_want_choice a vs H Q E) : vs.length = 2 := by obtain ⟨_, _, _, ⟨_, _, h, _⟩, _⟩ := h; rw [h]; rfl
theorem cx_want {E : XK} {σ : L2.St} {H : Hp} {t1 t2 : TE} {b : Bool} {ns : List Int} (h1 : ED t1 σ H (.bool b)) (h2 : ED t2 σ H (dIs ns)) : CPX a E (tCall (sp_want a) [] E (tCons t1 (tCons t2 tNil)) σ) H (fun v G => b = true ∧ v = .non) (fun z => b = false ∧ z = ns) :=
  cx_call (x := (b, ns)) (ea_cons h1 (ea_cons h2 ea_nil)) fun vs G _ q => by
    obtain ⟨y, z, rfl, q1, q2⟩ := dn2 q
    rw [dn_bl q1]
    exact ⟨z, rfl, q2⟩
theorem chosen_eq (S : Uw49.Sheet) (c : List Nat) (h0 : c ≠ []) {x z : Nat} (hx : c.head? = some x) (hz : c.getLast? = some z) : S.chosen c = (Uw49.rises c && (decide ((x : Int) = 0) && decide ((z : Int) = ((S.points.length - 1 : Nat) : Int)))) := by
  unfold Uw49.Sheet.chosen
  rw [hx, hz]
  refine congrArg _ ?_
  rw [Bool.eq_iff_iff]
  simp
  omega
theorem ok_Desk_want_choice {f : Addr} {fd : FuncData} (F : Fun K "want_choice" "Desk.want_choice" s_Desk_want_choice f fd) (T : Tx K mg a) (c_want : Cal P w K mg base (L2.CX P w) 3 "want" ["truth", "numbers"] (sp_want a)) : FnOk P w K mg base (L2.CX P w) 4 f fd ["self", "choice"] (sp_Desk_want_choice a) := by
  obtain ⟨t_BAD, h_BAD⟩ := T.g_BAD
  refine F.okX sc_Desk_want_choice (fun vs H Q E h => ?_) (fun cdv A outer s H vs Q E hr h => ?_)
  · exact len_Desk_want_choice h
  · refine ⟨_, (pss_cons (ps_set (i := 2) sc_Desk_want_choice.nd rfl (Or.inl rfl) (pe_op op_sub (pe_callB call_len_seq rfl T.b_len PySem.boot_len (pa_cons (pe_fldK (K := K) rfl (pe_fldK (K := K) rfl (pv 0) rfl) rfl) pa_nil)) pe_int)) (pss_cons (ps_set (i := 3) sc_Desk_want_choice.nd rfl (Or.inl rfl) (pe_callB (cr_all rfl) rfl T.b_all (by decide +kernel) (pa_cons (pe_lc (own := [("one", 4), ("other", 5)]) rfl sc_Desk_want_choice.nd (pi_zip rfl T.b_zip (pa_cons (pv 1) (pa_cons (pe_slice (sl_listK (K := K) rfl) (pv 1) (po_some pe_int) po_none) pa_nil))) (blkOk_by (own := [("one", 4), ("other", 5)]) (N := ["self", "choice", "last", "rising", "one", "other"]) (sc := defScope s_Desk_want_choice) (by decide +kernel)) (by intros; exact (pg_tupK (K := K) (n := 2) rfl rfl (pgs_cons (pg_name (i := 4) sc_Desk_want_choice.nd rfl (Or.inl rfl)) (pgs_cons (pg_name (i := 5) sc_Desk_want_choice.nd rfl (Or.inl rfl)) pgs_nil)))) (by intros; exact pts_nil) (by intros; exact (pe_cmpR op_lt (pv 4) (pv 5) (nomark _)))) pa_nil))) (pss_one (ps_expr (pe_cal c_want (hr.mono (by decide)) rfl (passes_call (takes_of rfl rfl rfl rfl) (fun _ _ _ _ h => h)) (by exact (pa_cons (pe_and (pe_cmpR (neDK (K := K) rfl hr.units) (pv 1) (pe_lst pa_nil) (nomark _)) (pe_and (pv 3) (pe_and (pe_cmpR op_eq (pe_ix (ix_listK (K := K) rfl) (pv 1) pe_int (fun _ _ => rfl)) pe_int (nomark _)) (pe_one (pe_cmpR op_eq (pe_ix (ix_listK (K := K) rfl) (pv 1) (pe_un un_neg pe_int) (fun _ _ => rfl)) (pv 2) (nomark _)))))) (pa_cons (pe_lst (pa_cons (pe_glob (v := .int (-1)) rfl h_BAD ⟨_, rfl⟩) pa_nil)) pa_nil)))))))), ?_⟩
    refine purX_body h fun x H0 hp => ?_
    obtain ⟨S, c⟩ := x
    obtain ⟨v, w, rfl, hD, wf, hw, hl⟩ := hp
    simp only [] at hD wf hw hl
    have p1 := wf.p1
    refine bx_asgI (n := ((S.points.length - 1 : Nat) : Int)) (ed_is (d1 := .int ((S.points.length : Int) - 1)) (ed_sub (ed_is (ed_len (by repeat' walk_at "ed")) (by rw [List.length_map])) (by walk_at "ed")) (by congr 1; omega)) ?_
    refine bx_asg (R := fun v G => v = .bl (Uw49.rises c)) (CP.imp (ed_all (bs := (c.zip (c.drop 1)).map fun (b : Nat × Nat) => decide (b.1 < b.2)) (ed_is (ed_lc (D := Pr Nt Nt) (items := c.zip (c.drop 1)) (fun _ => true) (fun b => .bool (decide (b.1 < b.2))) (src_zip mono_nt mono_nt ((show EA _ _ _ [dNs c, dNs (c.drop 1)] from ea_cons (by walk_at "ed") (ea_cons (ed_is (ed_slL (lo := some ((1 : Nat) : Int)) (hi := none) (by walk_at "ed") (eo_some (show ED _ _ _ (.int 1) from by walk_at "ed")) eo_none) (by rw [cut_from, ← List.map_drop])) ea_nil)).imp fun vs G _ q => by
      obtain ⟨y1, y2, rfl, q1, q2⟩ := dn2 q
      exact ⟨y1, y2, rfl, ls_nats q1, ls_nats q2⟩)) (by rw [List.length_zip]; omega) fun b x G hb e hx => by
        obtain ⟨T1, y1, y2, rfl, hT, rfl, rfl⟩ := hx
        exact cp_pair hT ⟨rfl, et_yes, fun _ => ed_is (by repeat' walk_at "ed") (congrArg PyData.bool (by simp only [Int.ofNat_lt]))⟩) (congrArg PyData.list (map_bools _ _)))) fun v G _ q => by
      rw [all_id, chosen_rises] at q
      exact dn_bl q) fun r G e hr => ?_
    subst hr
    replace hw := hw.mono e
    refine bx_drop (CPX.imp (cx_want (b := S.chosen c) (ns := [-1]) ?_ (show ED _ _ _ (.list [.int (-1)]) from by repeat' walk_at "ed")) (fun v G _ q => q) fun ns q => q) fun v G _ q => ⟨q.1, rfl⟩
    cases c with
    | nil =>
      refine ed_is (ed_and (b := true) (a := false) (ed_is (ed_neD (by walk_at "ed") (by repeat' walk_at "ed") (by rfl) (by rfl)) (by rw [eqv_nil]; rfl)) fun z => by cases z) ?_
      rfl
    | cons y r =>
      obtain ⟨z, hz⟩ : ∃ z, (y :: r).getLast? = some z := ⟨_, List.getLast?_eq_getLast (by simp)⟩
      refine ed_is (ed_and (a := true) (b := Uw49.rises (y :: r) && (decide ((y : Int) = 0) && decide ((z : Int) = ((S.points.length - 1 : Nat) : Int)))) (ed_is (ed_neD (by walk_at "ed") (by repeat' walk_at "ed") (by have := shaped_ints ((y :: r).map fun (n : Nat) => (n : Int)); rw [List.map_map] at this; exact this) (by rfl)) (by rw [eqv_nil]; rfl)) fun _ => ed_and (by walk_at "ed") fun _ => ed_and (ed_eq (ed_ixL (by walk_at "ed") (by walk_at "ed") at_0) (by walk_at "ed")) fun _ => ed_eq (ed_ixL (by walk_at "ed") (by repeat' walk_at "ed") (last_at hz)) (by walk_at "ed")) ?_
      rw [chosen_eq S (y :: r) (by simp) rfl hz]
      rfl
end
end Md

namespace Md
open PySem PySem.Spec PyProof.Rows L2
open Evl (Ex)
local macro_rules | `(tactic| walk_at "ed") => `(tactic| first
  | with_reducible exact ed_int | with_reducible exact ed_bl | with_reducible exact ed_non
  | ((with_reducible show ED (tVar _) _ _ _); refine ed_var rfl ?_; first | assumption | exact Dn.int _ | exact Dn.bl _)
  | ((with_reducible show CP (tVar _ _) _ _); refine cp_var rfl ?_; assumption)
  | with_reducible apply ed_add | with_reducible apply ed_sub | with_reducible apply ed_mul
  | with_reducible apply ed_lt | with_reducible apply ed_le | with_reducible apply ed_gt | with_reducible apply ed_ge
  | with_reducible apply ed_eq | with_reducible apply ed_ne | with_reducible apply ed_neg | with_reducible apply ed_isN | with_reducible apply ed_notN
  | ((with_reducible apply ed_swide); assumption) | ((with_reducible apply ed_shigh); assumption) | ((with_reducible apply ed_soff); assumption) | ((with_reducible apply ed_spoints); assumption)
  | ((with_reducible apply ed_twide); assumption) | ((with_reducible apply ed_thigh); assumption) | ((with_reducible apply ed_tworth); assumption) | ((with_reducible apply ed_tplace); assumption)
  | ((with_reducible apply cp_stowns); assumption) | ((with_reducible apply cp_dsheet); assumption)
  | with_reducible apply ed_ixT | with_reducible apply ed_ixL | with_reducible exact at_0 | with_reducible exact at_1 | with_reducible exact at_2 | with_reducible exact at_3 | with_reducible exact at_4
  | with_reducible apply ed_tup | with_reducible apply ed_lst | ((with_reducible show List.length _ ≤ 100000); exact Nat.le_of_ble_eq_true rfl)
  | with_reducible exact ea_nil | with_reducible apply ea_cons
  | with_reducible apply et_test | with_reducible apply et_B)
/-- what a call answers, by the document -/
def outC (S : Uw49.Sheet) (c : Uw49.Call) : List Int := Uw49Neutral.out (Uw49.step S c).2
theorem rises_le : ∀ {c : List Nat} {z : Nat}, Uw49.rises c = true → c.getLast? = some z → ∀ x ∈ c, x ≤ z
  | [], _, _, h => by cases h
  | [y], z, _, h => fun x hx => by
    simp at h hx
    omega
  | y :: y' :: r, z, hr, h => fun x hx => by
    unfold Uw49.rises at hr
    simp only [Bool.and_eq_true, decide_eq_true_eq] at hr
    have h' : (y' :: r).getLast? = some z := by rw [List.getLast?_cons_cons] at h; exact h
    have ih := rises_le hr.2 h'
    rcases List.mem_cons.mp hx with q | q
    · have := ih y' (by simp)
      omega
    · exact ih x q
theorem chosen_in {S : Uw49.Sheet} (wf : Wf S) {c : List Nat} (h : S.chosen c = true) (hl : c.length ≤ 100) : ChIn S c := by
  unfold Uw49.Sheet.chosen at h
  simp only [Bool.and_eq_true, beq_iff_eq] at h
  have := wf.p1
  exact ⟨fun x hx => by have := rises_le h.1 h.2.2 x hx; omega, hl⟩
theorem told_plan {S : Uw49.Sheet} {l : List Nat} (h : S.told l = true) : PlanOk S l := by
  unfold Uw49.Sheet.told Uw49.Sheet.count at h
  simp only [Bool.and_eq_true, beq_iff_eq, List.all_eq_true, decide_eq_true_eq] at h
  exact ⟨h.1, h.2⟩
theorem cx_dm1 {a : Ad} {E : XK} {σ : L2.St} {H : Hp} {to t2 : TE} {S : Uw49.Sheet} {c : List Nat} {m : Str} {C : Uw49.Sheet → List Nat → Prop} {post : Uw49.Sheet × List Nat → V → Hp → Prop} {exc : Uw49.Sheet × List Nat → List Int → Prop} (hm : (m == ("sheet" : Str)) = false) (wf : Wf S) (h1 : CP (to σ) H (DeskAt a S)) (h2 : ED t2 σ H (dNs c)) (hc : C S c) :
    CPX a E (tMeth a.desk m (PurX a (fun (x : Uw49.Sheet × List Nat) vs H => ∃ v w, vs = [v, w] ∧ DeskAt a x.1 v H ∧ Wf x.1 ∧ Dn H w (dNs x.2) ∧ C x.1 x.2) post exc) [] E to (tCons t2 tNil) σ) H (post (S, c)) (exc (S, c)) :=
  cx_meth (x := (S, c)) (mono_desk S) mono_all h1 (desk_m hm) (ea_cons h2 ea_nil) fun v vs G _ hO q => by
    obtain ⟨y, rfl, q1⟩ := dn1 q
    exact ⟨v, y, rfl, hO, wf, q1, hc⟩
theorem opt_dn {G : Hp} {v : V} {o : Option Nat} {i : Nat} (h : Dn G v (dOpt o)) (e : o = some i) : Dn G v (.int (i : Int)) := by subst e; exact h
theorem pr_dn {G : Hp} {v : V} {o : Option (Nat × Nat)} {x : Nat × Nat} (h : Dn G v (dPr o)) (e : o = some x) : Dn G v (.tuple [.int (x.1 : Int), .int (x.2 : Int)]) := by subst e; exact h
theorem pr_some : ∀ o : Option (Nat × Nat), (!isNone (dPr o)) = o.isSome
  | none => rfl
  | some _ => rfl
theorem findSome_flat {α β γ : Type} (f : α → List β) (g : β → Option γ) : ∀ l : List α, (l.flatMap f).findSome? g = l.findSome? fun a => (f a).findSome? g
  | [] => rfl
  | a :: l => by
    rw [List.flatMap_cons, List.findSome?_append, findSome_flat f g l, List.findSome?_cons]
    cases (f a).findSome? g <;> rfl
theorem findSome_range {β : Type} {f : Nat → Option β} {n i : Nat} {y : β} (hi : i < n) (hy : f i = some y) (h : ∀ j, j < i → f j = none) : (List.range n).findSome? f = some y := by
  obtain ⟨m, rfl⟩ : ∃ m, n = i + 1 + m := ⟨n - (i + 1), by omega⟩
  rw [List.range_add, List.findSome?_append, List.range_succ, List.findSome?_append, List.findSome?_eq_none_iff.mpr (fun j hj => h j (List.mem_range.mp hj))]
  simp [hy]
theorem findSome_none {β : Type} {f : Nat → Option β} {n : Nat} (h : ∀ j, j < n → f j = none) : (List.range n).findSome? f = none := List.findSome?_eq_none_iff.mpr fun j hj => h j (List.mem_range.mp hj)
def crossAt (S : Uw49.Sheet) (c l : List Nat) (i : Nat) : Option (Nat × Nat) := if Uw49.stands l i = true then (thr S c i (l.getD i 4)).map fun j => (i, j) else none
theorem findSome_steps (i : Nat) (p : Nat × Nat → Bool) : ∀ l : List (Nat × Nat), (l.findSome? fun x => if p x = true then some (i, x.1) else none) = ((l.find? p).map fun x => x.1).map fun j => (i, j)
  | [] => rfl
  | x :: l => by
    rw [List.findSome?_cons, List.find?_cons]
    cases hp : p x with
    | true => simp
    | false => simpa using findSome_steps i p l
theorem crossed_eq (S : Uw49.Sheet) (c l : List Nat) : S.crossed c l = (List.range S.count).findSome? (crossAt S c l) := by
  unfold Uw49.Sheet.crossed
  rw [findSome_flat]
  refine congrArg (fun f => (List.range S.count).findSome? f) (funext fun i => ?_)
  rw [List.findSome?_map]
  unfold crossAt thr
  cases hs : Uw49.stands l i with
  | true =>
    rw [if_pos rfl, ← findSome_steps]
    refine congrArg (fun f => List.findSome? f (Uw49.steps c)) (funext fun x => ?_)
    show (if Uw49.stands l i = true ∧ thrP S i (l.getD i 4) x = true then some (i, x.1) else none) = if thrP S i (l.getD i 4) x = true then some (i, x.1) else none
    rw [hs]
    cases thrP S i (l.getD i 4) x <;> rfl
  | false =>
    rw [if_neg Bool.false_ne_true, List.findSome?_eq_none_iff]
    intro x _
    simp only [Function.comp, hs, Bool.false_eq_true, false_and, if_false]
section
variable {S : Uw49.Sheet} {c l : List Nat}
theorem ck_bad1 (h : S.chosen c = false) : outC S (.check c l) = [-1] := by simp [outC, Uw49.step, Uw49Neutral.out, Uw49.ok, h]
theorem ck_bad2 (h : S.told l = false) : outC S (.check c l) = [-1] := by simp [outC, Uw49.step, Uw49Neutral.out, Uw49.ok, h]
theorem ck_step {i : Nat} (h1 : S.chosen c = true) (h2 : S.told l = true) (h3 : S.badStep c = some i) : outC S (.check c l) = [-6, (i : Int)] := by simp [outC, Uw49.step, Uw49Neutral.out, h1, h2, h3]
theorem ck_name {i : Nat} (h1 : S.chosen c = true) (h2 : S.told l = true) (h3 : S.badStep c = none) (h4 : S.badName l = some i) : outC S (.check c l) = [-7, (i : Int)] := by simp [outC, Uw49.step, Uw49Neutral.out, h1, h2, h3, h4]
theorem ck_clash {x : Nat × Nat} (h1 : S.chosen c = true) (h2 : S.told l = true) (h3 : S.badStep c = none) (h4 : S.badName l = none) (h5 : S.clashes l = some x) : outC S (.check c l) = [-8, (x.1 : Int), (x.2 : Int)] := by simp [outC, Uw49.step, Uw49Neutral.out, h1, h2, h3, h4, h5]
theorem ck_thr {x : Nat × Nat} (h1 : S.chosen c = true) (h2 : S.told l = true) (h3 : S.badStep c = none) (h4 : S.badName l = none) (h5 : S.clashes l = none) (h6 : S.crossed c l = some x) : outC S (.check c l) = [-9, (x.1 : Int), (x.2 : Int)] := by simp [outC, Uw49.step, Uw49Neutral.out, h1, h2, h3, h4, h5, h6]
theorem ck_ok (h1 : S.chosen c = true) (h2 : S.told l = true) (h3 : S.badStep c = none) (h4 : S.badName l = none) (h5 : S.clashes l = none) (h6 : S.crossed c l = none) : outC S (.check c l) = [(S.worth l : Int), (c.length : Int), (Uw49.rank l : Int)] := by simp [outC, Uw49.step, Uw49Neutral.out, h1, h2, h3, h4, h5, h6]
theorem th_bad {i k j m : Nat} (h : S.points.length ≤ i ∨ S.points.length ≤ k ∨ S.towns.length ≤ j ∨ 4 ≤ m) : outC S (.through i k j m) = [-2] := by
  unfold outC Uw49.step Uw49.Sheet.count
  simp only [if_pos h]
  rfl
theorem th_ok {i k j m : Nat} (h : ¬ (S.points.length ≤ i ∨ S.points.length ≤ k ∨ S.towns.length ≤ j ∨ 4 ≤ m)) : outC S (.through i k j m) = [if Uw49.through (S.pt i) (S.pt k) (Uw49.boxOf (S.town j) m) = true then 1 else 0] := by
  unfold outC Uw49.step Uw49.Sheet.count
  simp only [if_neg h]
  rfl
end
section
variable {P : Program} {w : World} {K : PySem.W.Frag} {mg : Str → Option Value} {base : Heap} {a : Ad}
def sp_Desk_want_plan (a : Ad) : Sp := PurX a (fun (x : Uw49.Sheet × List Nat) vs H => ∃ v w, vs = [v, w] ∧ DeskAt a x.1 v H ∧ Wf x.1 ∧ Dn H w (dNs x.2) ∧ x.2.length ≤ 100) (fun x v G => x.1.told x.2 = true ∧ v = .non) (fun x ns => x.1.told x.2 = false ∧ ns = [-1])
theorem len_Desk_want_plan {vs : List V} {H : Hp} {Q : VK} {E : XK} (h : sp_Desk_want_plan a vs H Q E) : vs.length = 2 := by obtain ⟨_, _, _, ⟨_, _, h, _⟩, _⟩ := h; rw [h]; rfl
theorem ok_Desk_want_plan {f : Addr} {fd : FuncData} (F : Fun K "want_plan" "Desk.want_plan" s_Desk_want_plan f fd) (T : Tx K mg a) (c_want : Cal P w K mg base (L2.CX P w) 3 "want" ["truth", "numbers"] (sp_want a)) : FnOk P w K mg base (L2.CX P w) 4 f fd ["self", "plan"] (sp_Desk_want_plan a) := by
  obtain ⟨t_LEFT_OUT, h_LEFT_OUT⟩ := T.g_LEFT_OUT
  obtain ⟨t_BAD, h_BAD⟩ := T.g_BAD
  refine F.okX sc_Desk_want_plan (fun vs H Q E h => ?_) (fun cdv A outer s H vs Q E hr h => ?_)
  · exact len_Desk_want_plan h
  · refine ⟨_, (pss_one (ps_expr (pe_cal c_want (hr.mono (by decide)) rfl (passes_call (takes_of rfl rfl rfl rfl) (fun _ _ _ _ h => h)) (by exact (pa_cons (pe_and (pe_cmpR op_eq (pe_callB call_len_seq rfl T.b_len PySem.boot_len (pa_cons (pv 1) pa_nil)) (pe_callB call_len_seq rfl T.b_len PySem.boot_len (pa_cons (pe_fldK (K := K) rfl (pe_fldK (K := K) rfl (pv 0) rfl) rfl) pa_nil)) (nomark _)) (pe_one (pe_callB (cr_all rfl) rfl T.b_all (by decide +kernel) (pa_cons (pe_lc (own := [("corner", 2)]) rfl sc_Desk_want_plan.nd (pi_list (pv 1)) (blkOk_by (own := [("corner", 2)]) (N := ["self", "plan", "corner"]) (sc := defScope s_Desk_want_plan) (by decide +kernel)) (by intros; exact (pg_name (i := 2) sc_Desk_want_plan.nd rfl (Or.inl rfl))) (by intros; exact pts_nil) (by intros; exact (pe_cmpR op_le (pv 2) (pe_glob (v := .int (4)) rfl h_LEFT_OUT ⟨_, rfl⟩) (nomark _)))) pa_nil)))) (pa_cons (pe_lst (pa_cons (pe_glob (v := .int (-1)) rfl h_BAD ⟨_, rfl⟩) pa_nil)) pa_nil)))))), ?_⟩
    refine purX_body h fun x H0 hp => ?_
    obtain ⟨S, l⟩ := x
    obtain ⟨v, w, rfl, hD, wf, hw, hl⟩ := hp
    simp only [] at hD wf hw hl
    refine bx_drop (CPX.imp (cx_want (b := S.told l) (ns := [-1]) ?_ (show ED _ _ _ (.list [.int (-1)]) from by repeat' walk_at "ed")) (fun v G _ q => q) fun ns q => q) fun v G _ q => ⟨q.1, rfl⟩
    refine ed_is (ed_and (ed_eq (ed_lenN (by walk_at "ed")) (ed_lenLs mono_town (by repeat' walk_at "ed"))) fun _ => ed_all (bs := l.map fun (n : Nat) => decide (n ≤ 4)) (ed_is (ed_lc (D := Nt) (items := l) (fun _ => true) (fun n => .bool (decide (n ≤ 4))) (src_nats (by walk_at "ed")) (by omega) fun n x G _ e hx => ?_) (congrArg PyData.list (map_bools _ _)))) ?_
    · obtain rfl := hx
      exact cp_name ⟨rfl, et_yes, fun _ => ed_is (by repeat' walk_at "ed") (congrArg PyData.bool (by rw [Bool.eq_iff_iff]; simp; omega))⟩
    · rw [all_id]
      refine congrArg PyData.bool ?_
      unfold Uw49.Sheet.told Uw49.Sheet.count
      refine congrArg (· && _) ?_
      rw [Bool.eq_iff_iff]
      simp only [decide_eq_true_eq, beq_iff_eq]
      omega
def sp_Desk_want_drawn (a : Ad) : Sp := PurX a (fun (x : Uw49.Sheet × List Nat) vs H => ∃ v w, vs = [v, w] ∧ DeskAt a x.1 v H ∧ Wf x.1 ∧ Dn H w (dNs x.2) ∧ ChIn x.1 x.2) (fun x v G => x.1.badStep x.2 = none ∧ v = .non) (fun x ns => ∃ i : Nat, x.1.badStep x.2 = some i ∧ ns = [-6, (i : Int)])
theorem len_Desk_want_drawn {vs : List V} {H : Hp} {Q : VK} {E : XK} (h : sp_Desk_want_drawn a vs H Q E) : vs.length = 2 := by obtain ⟨_, _, _, ⟨_, _, h, _⟩, _⟩ := h; rw [h]; rfl
theorem ok_Desk_want_drawn {f : Addr} {fd : FuncData} (F : Fun K "want_drawn" "Desk.want_drawn" s_Desk_want_drawn f fd) (T : Tx K mg a) (c_first_undrawn : Cal P w K mg base CX0 4 "first_undrawn" ["sheet", "choice"] (sp_first_undrawn a)) (c_Refused_init : RIni P w K mg base 1 a.ref ["self", "numbers"] (sp_Refused_init a)) : FnOk P w K mg base (L2.CX P w) 5 f fd ["self", "choice"] (sp_Desk_want_drawn a) := by
  obtain ⟨t_NOT_DRAWN, h_NOT_DRAWN⟩ := T.g_NOT_DRAWN
  refine F.okX sc_Desk_want_drawn (fun vs H Q E h => ?_) (fun cdv A outer s H vs Q E hr h => ?_)
  · exact len_Desk_want_drawn h
  · refine ⟨_, (pss_cons (ps_set (i := 2) sc_Desk_want_drawn.nd rfl (Or.inl rfl) (pe_cal c_first_undrawn (hr.mono (by decide)) rfl pass0 (by exact (pa_cons (pe_fldK (K := K) rfl (pv 0) rfl) (pa_cons (pv 1) pa_nil))))) (pss_one (ps_if (pt_cmpR op_notN (pv 2) pe_non (nomark _)) (pss_one (ps_raise rfl (takes_of rfl rfl rfl rfl) (pmk_ref T c_Refused_init (hr.mono (by decide)) rfl (by exact (pa_cons (pe_lst (pa_cons (pe_glob (v := .int (-6)) rfl h_NOT_DRAWN ⟨_, rfl⟩) (pa_cons (pv 2) pa_nil))) pa_nil))))) pss_nil))), ?_⟩
    refine purX_body h fun x H0 hp => ?_
    obtain ⟨S, c⟩ := x
    obtain ⟨v, w, rfl, hD, wf, hw, ch⟩ := hp
    simp only [] at hD wf hw ch
    refine bx_asg (R := fun v G => Dn G v (dOpt (S.badStep c))) (cp_undrawn wf (by repeat' walk_at "ed") (by walk_at "ed") ch) fun b G e hb => ?_
    refine bx_if (b := (S.badStep c).isSome) (et_is (by repeat' walk_at "ed") (opt_some _)) (fun z => ?_) (fun z => Bk.x (bk_next ⟨by simpa using z, rfl⟩))
    obtain ⟨i, hi⟩ := Option.isSome_iff_exists.mp z
    have hb' := opt_dn hb hi
    exact bx_raise (ns := [-6, (i : Int)]) (show ED _ _ _ (.list [.int (-6), .int (i : Int)]) from by repeat' walk_at "ed") ⟨i, hi, rfl⟩
def sp_Desk_want_names (a : Ad) : Sp := PurX a (fun (x : Uw49.Sheet × List Nat) vs H => ∃ v w, vs = [v, w] ∧ DeskAt a x.1 v H ∧ Wf x.1 ∧ Dn H w (dNs x.2) ∧ PlanOk x.1 x.2) (fun x v G => (x.1.badName x.2 = none ∧ x.1.clashes x.2 = none) ∧ v = .non) (fun x ns => (∃ i : Nat, x.1.badName x.2 = some i ∧ ns = [-7, (i : Int)]) ∨ x.1.badName x.2 = none ∧ ∃ q : Nat × Nat, x.1.clashes x.2 = some q ∧ ns = [-8, (q.1 : Int), (q.2 : Int)])
theorem len_Desk_want_names {vs : List V} {H : Hp} {Q : VK} {E : XK} (h : sp_Desk_want_names a vs H Q E) : vs.length = 2 := by obtain ⟨_, _, _, ⟨_, _, h, _⟩, _⟩ := h; rw [h]; rfl
theorem cp_plan1 {σ : L2.St} {H : Hp} {t1 t2 : TE} {S : Uw49.Sheet} {l : List Nat} {post : Uw49.Sheet × List Nat → V → Hp → Prop} (wf : Wf S) (h1 : CP (t1 σ) H (SheetAt a S)) (h2 : ED t2 σ H (dNs l)) (pl : PlanOk S l) : CP (tCall (Pur (fun (x : Uw49.Sheet × List Nat) vs H => ∃ v w, vs = [v, w] ∧ SheetAt a x.1 v H ∧ Wf x.1 ∧ Dn H w (dNs x.2) ∧ PlanOk x.1 x.2) post) [] E0 (tCons t1 (tCons t2 tNil)) σ) H (post (S, l)) :=
  cp_call (x := (S, l)) (ca_cons (mono_sheet S) mono_all h1 (ea_cons h2 ea_nil)) fun vs G _ ⟨x, xs, e, p, q⟩ => by
    obtain ⟨y, rfl, q1⟩ := dn1 q
    exact ⟨x, y, e, p, wf, q1, pl⟩
theorem ok_Desk_want_names {f : Addr} {fd : FuncData} (F : Fun K "want_names" "Desk.want_names" s_Desk_want_names f fd) (T : Tx K mg a) (c_first_unfit : Cal P w K mg base CX0 3 "first_unfit" ["sheet", "plan"] (sp_first_unfit a)) (c_Refused_init : RIni P w K mg base 1 a.ref ["self", "numbers"] (sp_Refused_init a)) (c_first_clash : Cal P w K mg base CX0 3 "first_clash" ["sheet", "plan"] (sp_first_clash a)) : FnOk P w K mg base (L2.CX P w) 4 f fd ["self", "plan"] (sp_Desk_want_names a) := by
  obtain ⟨t_NO_FIT, h_NO_FIT⟩ := T.g_NO_FIT
  obtain ⟨t_CLASHING, h_CLASHING⟩ := T.g_CLASHING
  refine F.okX sc_Desk_want_names (fun vs H Q E h => ?_) (fun cdv A outer s H vs Q E hr h => ?_)
  · exact len_Desk_want_names h
  · refine ⟨_, (pss_cons (ps_set (i := 2) sc_Desk_want_names.nd rfl (Or.inl rfl) (pe_cal c_first_unfit (hr.mono (by decide)) rfl pass0 (by exact (pa_cons (pe_fldK (K := K) rfl (pv 0) rfl) (pa_cons (pv 1) pa_nil))))) (pss_cons (ps_if (pt_cmpR op_notN (pv 2) pe_non (nomark _)) (pss_one (ps_raise rfl (takes_of rfl rfl rfl rfl) (pmk_ref T c_Refused_init (hr.mono (by decide)) rfl (by exact (pa_cons (pe_lst (pa_cons (pe_glob (v := .int (-7)) rfl h_NO_FIT ⟨_, rfl⟩) (pa_cons (pv 2) pa_nil))) pa_nil))))) pss_nil) (pss_cons (ps_set (i := 3) sc_Desk_want_names.nd rfl (Or.inl rfl) (pe_cal c_first_clash (hr.mono (by decide)) rfl pass0 (by exact (pa_cons (pe_fldK (K := K) rfl (pv 0) rfl) (pa_cons (pv 1) pa_nil))))) (pss_one (ps_if (pt_cmpR op_notN (pv 3) pe_non (nomark _)) (pss_one (ps_raise rfl (takes_of rfl rfl rfl rfl) (pmk_ref T c_Refused_init (hr.mono (by decide)) rfl (by exact (pa_cons (pe_lst (pa_cons (pe_glob (v := .int (-8)) rfl h_CLASHING ⟨_, rfl⟩) (pa_cons (pe_ix (ix_tupK (K := K) rfl) (pv 3) pe_int (fun _ _ => rfl)) (pa_cons (pe_ix (ix_tupK (K := K) rfl) (pv 3) pe_int (fun _ _ => rfl)) pa_nil)))) pa_nil))))) pss_nil))))), ?_⟩
    refine purX_body h fun x H0 hp => ?_
    obtain ⟨S, l⟩ := x
    obtain ⟨v, w, rfl, hD, wf, hw, pl⟩ := hp
    simp only [] at hD wf hw pl
    refine bx_asg (R := fun v G => Dn G v (dOpt (S.badName l))) (cp_plan1 wf (by repeat' walk_at "ed") (by walk_at "ed") pl) fun b G e hb => ?_
    replace hD := mono_desk _ _ _ _ e hD
    replace hw := hw.mono e
    refine bx_seq (M := fun σ' G' => σ' = [some v, some w, some b, none] ∧ S.badName l = none) (bx_if (b := (S.badName l).isSome) (et_is (by repeat' walk_at "ed") (opt_some _)) (fun z => ?_) (fun z => Bk.x (bk_next ⟨rfl, by simpa using z⟩))) fun σ' G' e' ⟨hs, hn⟩ => ?_
    · obtain ⟨i, hi⟩ := Option.isSome_iff_exists.mp z
      have hb' := opt_dn hb hi
      exact bx_raise (ns := [-7, (i : Int)]) (show ED _ _ _ (.list [.int (-7), .int (i : Int)]) from by repeat' walk_at "ed") (.inl ⟨i, hi, rfl⟩)
    subst hs
    replace hD := mono_desk _ _ _ _ e' hD
    replace hw := hw.mono e'
    refine bx_asg (R := fun v G => Dn G v (dPr (S.clashes l))) (cp_plan1 wf (by repeat' walk_at "ed") (by walk_at "ed") pl) fun b2 G2 e2 hb2 => ?_
    refine bx_if (b := (S.clashes l).isSome) (et_is (by repeat' walk_at "ed") (pr_some _)) (fun z => ?_) (fun z => Bk.x (bk_next ⟨⟨hn, by simpa using z⟩, rfl⟩))
    obtain ⟨i, hi⟩ := Option.isSome_iff_exists.mp z
    have hb' := pr_dn hb2 hi
    exact bx_raise (ns := [-8, (i.1 : Int), (i.2 : Int)]) (show ED _ _ _ (.list [.int (-8), .int (i.1 : Int), .int (i.2 : Int)]) from by repeat' walk_at "ed") (.inr ⟨hn, i, hi, rfl⟩)
def sp_Desk_check (a : Ad) : Sp := PurX a (fun (x : Uw49.Sheet × List Nat × List Nat) vs H => ∃ v w y, vs = [v, w, y] ∧ DeskAt a x.1 v H ∧ Wf x.1 ∧ Dn H w (dNs x.2.1) ∧ Dn H y (dNs x.2.2) ∧ x.2.1.length ≤ 100 ∧ x.2.2.length ≤ 100) (fun x v G => Dn G v (dIs (outC x.1 (.check x.2.1 x.2.2)))) (fun x ns => ns = outC x.1 (.check x.2.1 x.2.2))
theorem len_Desk_check {vs : List V} {H : Hp} {Q : VK} {E : XK} (h : sp_Desk_check a vs H Q E) : vs.length = 3 := by obtain ⟨_, _, _, ⟨_, _, _, h, _⟩, _⟩ := h; rw [h]; rfl
theorem ok_Desk_check {f : Addr} {fd : FuncData} (F : Fun K "check" "Desk.check" s_Desk_check f fd) (T : Tx K mg a) (c_Desk_want_choice : MCal P w K mg base (L2.CX P w) 4 a.desk "want_choice" ["self", "choice"] (sp_Desk_want_choice a)) (c_Desk_want_plan : MCal P w K mg base (L2.CX P w) 4 a.desk "want_plan" ["self", "plan"] (sp_Desk_want_plan a)) (c_Desk_want_drawn : MCal P w K mg base (L2.CX P w) 5 a.desk "want_drawn" ["self", "choice"] (sp_Desk_want_drawn a)) (c_Desk_want_names : MCal P w K mg base (L2.CX P w) 4 a.desk "want_names" ["self", "plan"] (sp_Desk_want_names a)) (c_first_through : Cal P w K mg base CX0 4 "first_through" ["sheet", "choice", "k", "corner"] (sp_first_through a)) (c_Refused_init : RIni P w K mg base 1 a.ref ["self", "numbers"] (sp_Refused_init a)) (c_worth_of : Cal P w K mg base CX0 1 "worth_of" ["sheet", "plan"] (sp_worth_of a)) (c_rank_of : Cal P w K mg base CX0 1 "rank_of" ["plan"] (sp_rank_of a)) : FnOk P w K mg base (L2.CX P w) 6 f fd ["self", "choice", "plan"] (sp_Desk_check a) := by
  obtain ⟨t_LEFT_OUT, h_LEFT_OUT⟩ := T.g_LEFT_OUT
  obtain ⟨t_THROUGH, h_THROUGH⟩ := T.g_THROUGH
  refine F.okX sc_Desk_check (fun vs H Q E h => ?_) (fun cdv A outer s H vs Q E hr h => ?_)
  · exact len_Desk_check h
  · refine ⟨_, (pss_cons (ps_expr (pe_mt c_Desk_want_choice (by exact (pv 0)) (hr.mono (by decide)) (passes_call (takes_of rfl rfl rfl rfl) (fun _ _ _ _ h => h)) (by exact (pa_cons (pv 1) pa_nil)))) (pss_cons (ps_expr (pe_mt c_Desk_want_plan (by exact (pv 0)) (hr.mono (by decide)) (passes_call (takes_of rfl rfl rfl rfl) (fun _ _ _ _ h => h)) (by exact (pa_cons (pv 2) pa_nil)))) (pss_cons (ps_expr (pe_mt c_Desk_want_drawn (by exact (pv 0)) (hr.mono (by decide)) (passes_call (takes_of rfl rfl rfl rfl) (fun _ _ _ _ h => h)) (by exact (pa_cons (pv 1) pa_nil)))) (pss_cons (ps_expr (pe_mt c_Desk_want_names (by exact (pv 0)) (hr.mono (by decide)) (passes_call (takes_of rfl rfl rfl rfl) (fun _ _ _ _ h => h)) (by exact (pa_cons (pv 2) pa_nil)))) (pss_cons (ps_for (passes_of rfl) rfl (pi_enum rfl T.b_enumerate (pa_cons (pv 2) pa_nil)) (pg_tupK (K := K) (n := 2) rfl rfl (pgs_cons (pg_name (i := 3) sc_Desk_check.nd rfl (Or.inl rfl)) (pgs_cons (pg_name (i := 4) sc_Desk_check.nd rfl (Or.inl rfl)) pgs_nil))) (pss_one (ps_if (pt_cmpR op_ne (pv 4) (pe_glob (v := .int (4)) rfl h_LEFT_OUT ⟨_, rfl⟩) (nomark _)) (pss_cons (ps_set (i := 5) sc_Desk_check.nd rfl (Or.inl rfl) (pe_cal c_first_through (hr.mono (by decide)) rfl pass0 (by exact (pa_cons (pe_fldK (K := K) rfl (pv 0) rfl) (pa_cons (pv 1) (pa_cons (pv 3) (pa_cons (pv 4) pa_nil))))))) (pss_one (ps_if (pt_cmpR op_notN (pv 5) pe_non (nomark _)) (pss_one (ps_raise rfl (takes_of rfl rfl rfl rfl) (pmk_ref T c_Refused_init (hr.mono (by decide)) rfl (by exact (pa_cons (pe_lst (pa_cons (pe_glob (v := .int (-9)) rfl h_THROUGH ⟨_, rfl⟩) (pa_cons (pv 3) (pa_cons (pv 5) pa_nil)))) pa_nil))))) pss_nil))) pss_nil))) (pss_one (ps_ret (pe_lst (pa_cons (pe_cal c_worth_of (hr.mono (by decide)) rfl pass0 (by exact (pa_cons (pe_fldK (K := K) rfl (pv 0) rfl) (pa_cons (pv 2) pa_nil)))) (pa_cons (pe_callB call_len_seq rfl T.b_len PySem.boot_len (pa_cons (pv 1) pa_nil)) (pa_cons (pe_cal c_rank_of (hr.mono (by decide)) rfl pass0 (by exact (pa_cons (pv 2) pa_nil))) pa_nil))))))))))), ?_⟩
    refine purX_body h fun x H0 hp => ?_
    obtain ⟨S, c, l⟩ := x
    obtain ⟨v, w, y, rfl, hD, wf, hw, hy, lc, ll⟩ := hp
    simp only [] at hD wf hw hy lc ll
    refine bx_call (cx_dm1 (C := fun _ c => c.length ≤ 100) (by decide +kernel) wf (by walk_at "ed") (by walk_at "ed") lc) (fun ns ⟨h1, h2⟩ => h2.trans (ck_bad1 h1).symm) fun _ G e ⟨h1, _⟩ => ?_
    replace hD := mono_desk _ _ _ _ e hD
    replace hw := hw.mono e
    replace hy := hy.mono e
    refine bx_call (cx_dm1 (C := fun _ c => c.length ≤ 100) (by decide +kernel) wf (by walk_at "ed") (by walk_at "ed") ll) (fun ns ⟨h1, h2⟩ => h2.trans (ck_bad2 h1).symm) fun _ G e ⟨h2, _⟩ => ?_
    replace hD := mono_desk _ _ _ _ e hD
    replace hw := hw.mono e
    replace hy := hy.mono e
    simp only [] at h1 h2
    have ch := chosen_in wf h1 lc
    have pl := told_plan h2
    refine bx_call (cx_dm1 (C := ChIn) (by decide +kernel) wf (by walk_at "ed") (by walk_at "ed") ch) (fun ns ⟨i, h3, h4⟩ => h4.trans (ck_step h1 h2 h3).symm) fun _ G e ⟨h3, _⟩ => ?_
    replace hD := mono_desk _ _ _ _ e hD
    replace hw := hw.mono e
    replace hy := hy.mono e
    refine bx_call (cx_dm1 (C := PlanOk) (by decide +kernel) wf (by walk_at "ed") (by walk_at "ed") pl) (fun ns hx => ?_) fun _ G e ⟨⟨h4, h5⟩, _⟩ => ?_
    · rcases hx with ⟨i, h4, h5⟩ | ⟨h4, q, h5, h6⟩
      · exact h5.trans (ck_name h1 h2 h3 h4).symm
      · exact h6.trans (ck_clash h1 h2 h3 h4 h5).symm
    replace hD := mono_desk _ _ _ _ e hD
    replace hw := hw.mono e
    replace hy := hy.mono e
    simp only [] at h3 h4 h5
    have L := pl.len
    refine bx_seq (M := fun σ' _ => (∃ x3 x4 x5, σ' = [some v, some w, some y, x3, x4, x5]) ∧ ∀ j, j < l.length → crossAt S c l j = none) (bx_for (D := Pr Nt Nt) (items := (List.range l.length).zip l) (src_enumN (by repeat' walk_at "ed")) (fun i σ' => (∃ x3 x4 x5, σ' = [some v, some w, some y, x3, x4, x5]) ∧ ∀ j, j < i → crossAt S c l j = none) ⟨⟨none, none, none, rfl⟩, fun j hj => absurd hj (Nat.not_lt_zero j)⟩ (fun i b x G σ' hb e hx hJ => ?_) (fun σ' G e hJ => by rw [List.length_zip, List.length_range, Nat.min_self] at hJ; exact hJ)) fun σ' G e hM => ?_
    · obtain ⟨⟨x3, x4, x5, rfl⟩, hJ⟩ := hJ
      obtain ⟨b1, b2⟩ := b
      obtain ⟨rfl, hc, hi⟩ := enum_at hb
      obtain ⟨T1, y1, y2, rfl, hT, rfl, rfl⟩ := hx
      have hD1 := mono_desk _ _ _ _ e hD
      have hw1 := hw.mono e
      simp only [] at hc hi
      have hd : l.getD b1 4 = b2 := getD_of hc 4
      have hst : Uw49.stands l b1 = (b2 != 4) := by unfold Uw49.stands; rw [hd]
      have more : crossAt S c l b1 = none → ∀ j, j < b1 + 1 → crossAt S c l j = none := fun q j hj => by
        by_cases e1 : j = b1
        · subst e1; exact q
        · exact hJ j (by omega)
      refine cp_pair hT ?_
      refine bx_if (b := b2 != 4) (et_is (by repeat' walk_at "ed") (not_four b2)) (fun q => ?_) (fun q => Bk.x (bk_next ⟨⟨_, _, _, rfl⟩, more (by unfold crossAt; rw [hst, q]; rfl)⟩))
      have h4' := pl.le b2 (List.mem_of_getElem? hc)
      have h4n : b2 ≠ 4 := by simpa using q
      refine bx_asg (R := fun v G => Dn G v (dOpt (thr S c b1 b2))) (cp_thr wf (by repeat' walk_at "ed") (by walk_at "ed") (by walk_at "ed") (by walk_at "ed") ch (by omega) (by omega)) fun u G2 e2 hu => ?_
      refine bx_if (b := (thr S c b1 b2).isSome) (et_is (by repeat' walk_at "ed") (opt_some _)) (fun z => ?_) (fun z => Bk.x (bk_next ⟨⟨_, _, _, rfl⟩, more ?_⟩))
      · obtain ⟨i, hi'⟩ := Option.isSome_iff_exists.mp z
        have hb' := opt_dn hu hi'
        refine bx_raise (ns := [-9, (b1 : Int), (i : Int)]) (show ED _ _ _ (.list [.int (-9), .int (b1 : Int), .int (i : Int)]) from by repeat' walk_at "ed") ?_
        refine (ck_thr (x := (b1, i)) h1 h2 h3 h4 h5 ?_).symm
        rw [crossed_eq]
        refine findSome_range (by unfold Uw49.Sheet.count; omega) ?_ hJ
        unfold crossAt
        rw [hst, hd, if_pos q, hi']
        rfl
      · unfold crossAt
        rw [hst, hd, if_pos q, show thr S c b1 b2 = none by simpa using z]
        rfl
    obtain ⟨⟨x3, x4, x5, rfl⟩, hM⟩ := hM
    replace hD := mono_desk _ _ _ _ e hD
    replace hw := hw.mono e
    replace hy := hy.mono e
    refine Bk.x (bk_ret (ed_is (d1 := .list [.int (S.worth l : Int), .int (c.length : Int), .int (Uw49.rank l : Int)]) (ed_lst (ea_cons (cp_worth wf (by repeat' walk_at "ed") (by walk_at "ed") L) (ea_cons (ed_lenN (by walk_at "ed")) (ea_cons (cp_rank (by walk_at "ed") ll) ea_nil))) (Nat.le_of_ble_eq_true rfl)) ?_))
    show _ = dIs (outC S (.check c l))
    rw [ck_ok h1 h2 h3 h4 h5 (by rw [crossed_eq]; exact findSome_none fun j hj => hM j (by unfold Uw49.Sheet.count at hj; omega))]
    rfl
def sp_Desk_through (a : Ad) : Sp := PurX a (fun (x : Uw49.Sheet × Nat × Nat × Nat × Nat) vs H => ∃ v, vs = [v, .int (x.2.1 : Int), .int (x.2.2.1 : Int), .int (x.2.2.2.1 : Int), .int (x.2.2.2.2 : Int)] ∧ DeskAt a x.1 v H ∧ Wf x.1) (fun x v G => Dn G v (dIs (outC x.1 (.through x.2.1 x.2.2.1 x.2.2.2.1 x.2.2.2.2)))) (fun x ns => ns = outC x.1 (.through x.2.1 x.2.2.1 x.2.2.2.1 x.2.2.2.2))
theorem len_Desk_through {vs : List V} {H : Hp} {Q : VK} {E : XK} (h : sp_Desk_through a vs H Q E) : vs.length = 5 := by obtain ⟨_, _, _, ⟨_, h, _⟩, _⟩ := h; rw [h]; rfl
theorem ok_Desk_through {f : Addr} {fd : FuncData} (F : Fun K "through" "Desk.through" s_Desk_through f fd) (T : Tx K mg a) (c_want : Cal P w K mg base (L2.CX P w) 3 "want" ["truth", "numbers"] (sp_want a)) (c_goes_through : Cal P w K mg base CX0 3 "goes_through" ["sheet", "begin", "end", "k", "corner"] (sp_goes_through a)) : FnOk P w K mg base (L2.CX P w) 4 f fd ["self", "begin", "end", "k", "corner"] (sp_Desk_through a) := by
  obtain ⟨t_NONE_THERE, h_NONE_THERE⟩ := T.g_NONE_THERE
  obtain ⟨t_CORNERS, h_CORNERS⟩ := T.g_CORNERS
  refine F.okX sc_Desk_through (fun vs H Q E h => ?_) (fun cdv A outer s H vs Q E hr h => ?_)
  · exact len_Desk_through h
  · refine ⟨_, (pss_cons (ps_expr (pe_cal c_want (hr.mono (by decide)) rfl (passes_call (takes_of rfl rfl rfl rfl) (fun _ _ _ _ h => h)) (by exact (pa_cons (pe_and (pe_cmpR op_lt (pv 1) (pe_callB call_len_seq rfl T.b_len PySem.boot_len (pa_cons (pe_fldK (K := K) rfl (pe_fldK (K := K) rfl (pv 0) rfl) rfl) pa_nil)) (nomark _)) (pe_one (pe_cmpR op_lt (pv 2) (pe_callB call_len_seq rfl T.b_len PySem.boot_len (pa_cons (pe_fldK (K := K) rfl (pe_fldK (K := K) rfl (pv 0) rfl) rfl) pa_nil)) (nomark _)))) (pa_cons (pe_lst (pa_cons (pe_glob (v := .int (-2)) rfl h_NONE_THERE ⟨_, rfl⟩) pa_nil)) pa_nil))))) (pss_cons (ps_expr (pe_cal c_want (hr.mono (by decide)) rfl (passes_call (takes_of rfl rfl rfl rfl) (fun _ _ _ _ h => h)) (by exact (pa_cons (pe_and (pe_cmpR op_lt (pv 3) (pe_callB call_len_seq rfl T.b_len PySem.boot_len (pa_cons (pe_fldK (K := K) rfl (pe_fldK (K := K) rfl (pv 0) rfl) rfl) pa_nil)) (nomark _)) (pe_one (pe_cmpR op_lt (pv 4) (pe_glob (v := .int (4)) rfl h_CORNERS ⟨_, rfl⟩) (nomark _)))) (pa_cons (pe_lst (pa_cons (pe_glob (v := .int (-2)) rfl h_NONE_THERE ⟨_, rfl⟩) pa_nil)) pa_nil))))) (pss_one (ps_ret (pe_lst (pa_cons (pe_callTy call_int1 rfl T.b_int (by decide +kernel) (pa_cons (pe_cal c_goes_through (hr.mono (by decide)) rfl pass0 (by exact (pa_cons (pe_fldK (K := K) rfl (pv 0) rfl) (pa_cons (pv 1) (pa_cons (pv 2) (pa_cons (pv 3) (pa_cons (pv 4) pa_nil))))))) pa_nil)) pa_nil)))))), ?_⟩
    refine purX_body h fun x H0 hp => ?_
    obtain ⟨S, i, k, j, m⟩ := x
    obtain ⟨v, rfl, hD, wf⟩ := hp
    simp only [] at hD wf
    dsimp only
    have np : ∀ {σ : L2.St} {H : Hp} {to : TE}, CP (to σ) H (SheetAt a S) → ED (tCB (fun xs H Q => ∃ p ys, xs = [.ref p] ∧ (SqL K H p ys ∨ SqT K H p ys) ∧ Q (.int ys.length) H) (tCons (tFld K to "points") tNil)) σ H (.int (S.points.length : Int)) := fun h => ed_is (ed_len (ed_spoints T h)) (by rw [List.length_map])
    refine bx_call (cx_want (b := decide ((i : Int) < (S.points.length : Int)) && decide ((k : Int) < (S.points.length : Int))) (ns := [-2]) (ed_and (ed_lt (by walk_at "ed") (np (by repeat' walk_at "ed"))) fun _ => ed_lt (by walk_at "ed") (np (by repeat' walk_at "ed"))) (show ED _ _ _ (.list [.int (-2)]) from by repeat' walk_at "ed")) (fun ns ⟨h1, h2⟩ => h2.trans (th_bad (by
      simp only [Bool.and_eq_false_iff, decide_eq_false_iff_not] at h1
      omega)).symm) fun _ G e ⟨h1, _⟩ => ?_
    replace hD := mono_desk _ _ _ _ e hD
    refine bx_call (cx_want (b := decide ((j : Int) < (S.towns.length : Int)) && decide ((m : Int) < 4)) (ns := [-2]) (ed_and (ed_lt (by walk_at "ed") (ed_lenLs mono_town (by repeat' walk_at "ed"))) fun _ => ed_lt (by walk_at "ed") (by walk_at "ed")) (show ED _ _ _ (.list [.int (-2)]) from by repeat' walk_at "ed")) (fun ns ⟨h1, h2⟩ => h2.trans (th_bad (by
      simp only [Bool.and_eq_false_iff, decide_eq_false_iff_not] at h1
      omega)).symm) fun _ G e ⟨h2, _⟩ => ?_
    replace hD := mono_desk _ _ _ _ e hD
    simp only [Bool.and_eq_true, decide_eq_true_eq] at h1 h2
    refine Bk.x (bk_ret (ed_is (ed_lst (ea_cons (ed_int1 (cp_gt wf (by repeat' walk_at "ed") (by walk_at "ed") (by walk_at "ed") (by walk_at "ed") (by walk_at "ed") ⟨by omega, by omega, by omega, by omega⟩)) ea_nil) (Nat.le_of_ble_eq_true rfl)) ?_))
    show _ = dIs (outC S (.through i k j m))
    rw [th_ok (by omega)]
    rfl
end
end Md

/-! the best of some drawings, in plain Lean -/
namespace Md
open PySem PySem.Spec PyProof.Rows L2
abbrev Dr := List Nat × List Nat
/-! ### the order -/
def lx (l m : List Nat) : Prop := (l.map fun (n : Nat) => (n : Int)) < (m.map fun (n : Nat) => (n : Int))
theorem lx_cons (x y : Nat) (l m : List Nat) : lx (x :: l) (y :: m) ↔ x < y ∨ x = y ∧ lx l m := by
  unfold lx
  rw [List.map_cons, List.map_cons, List.cons_lt_cons_iff]
  simp only [Int.ofNat_lt, Int.ofNat_inj]
theorem lx_irr : ∀ l : List Nat, ¬ lx l l
  | [] => by unfold lx; simp
  | x :: l => by
    rw [lx_cons]
    have := lx_irr l
    rintro (h | ⟨_, h⟩)
    · omega
    · exact this h
theorem eqv_ints : ∀ l m : List Nat, PyData.eqvAll (l.map fun (n : Nat) => PyData.int (n : Int)) (m.map fun (n : Nat) => PyData.int (n : Int)) = decide (l = m)
  | [], [] => by simp [PyData.eqvAll]
  | [], _ :: _ => by simp [PyData.eqvAll]
  | _ :: _, [] => by simp [PyData.eqvAll]
  | x :: l, y :: m => by
    have := eqv_ints l m
    rw [List.map_cons, List.map_cons, PyData.eqvAll, this, PyData.eqv]
    rw [Bool.eq_iff_iff]
    simp only [Bool.and_eq_true, beq_iff_eq, decide_eq_true_eq, List.cons.injEq, Int.ofNat_inj]
theorem lt_ns (l m : List Nat) : PySem.W.dataLt (dNs l) (dNs m) = true ↔ lx l m := by
  have h := PySem.W.dataLt_ints (l.map fun (n : Nat) => (n : Int)) (m.map fun (n : Nat) => (n : Int))
  rw [← ns_ints, ← ns_ints] at h
  rw [PySem.W.dataLt_list]
  unfold PySem.W.rowLt at h
  rw [h, decide_eq_true_eq]
  rfl
theorem ms_lt (S : Uw49.Sheet) (q r : Dr) : PySem.W.dataLt (dMs S q) (dMs S r) = (if S.worth q.2 = S.worth r.2 then (if q.1.length = r.1.length then (if Uw49.rank q.2 = Uw49.rank r.2 then (if q.2 = r.2 then (if q.1 = r.1 then false else PySem.W.dataLt (dNs q.1) (dNs r.1)) else PySem.W.dataLt (dNs q.2) (dNs r.2)) else decide (Uw49.rank q.2 < Uw49.rank r.2)) else decide (q.1.length < r.1.length)) else decide (S.worth r.2 < S.worth q.2)) := by
  have a1 : PySem.W.alike (dNs q.2) (dNs r.2) = true := by
    have := alike_ints q.2 r.2
    simp only [PySem.W.alike, this]
  have a2 : PySem.W.alike (dNs q.1) (dNs r.1) = true := by
    have := alike_ints q.1 r.1
    simp only [PySem.W.alike, this]
  have e : PyProof.Rows.lexLt itemOrd (PySem.W.keyToksAll []) (PySem.W.keyToksAll []) = false := lex_irrefl _
  unfold dMs
  rw [PySem.W.dataLt_tuple, PySem.W.dataLt_cons (by simp [PySem.W.alike]), PySem.W.dataLt_cons (by simp [PySem.W.alike]), PySem.W.dataLt_cons (by simp [PySem.W.alike]), PySem.W.dataLt_cons a1, PySem.W.dataLt_cons a2, e, PySem.W.dataLt_int, PySem.W.dataLt_int, PySem.W.dataLt_int]
  have q1 : PyData.eqv (dNs q.2) (dNs r.2) = decide (q.2 = r.2) := by rw [← eqv_ints, PyData.eqv]
  have q2 : PyData.eqv (dNs q.1) (dNs r.1) = decide (q.1 = r.1) := by rw [← eqv_ints, PyData.eqv]
  rw [q1, q2]
  simp only [PyData.eqv, beq_iff_eq, decide_eq_true_eq]
  have w1 : (0 - (S.worth q.2 : Int) = 0 - (S.worth r.2 : Int)) = (S.worth q.2 = S.worth r.2) := by rw [eq_iff_iff]; omega
  have w2 : ((q.1.length : Int) = (r.1.length : Int)) = (q.1.length = r.1.length) := by rw [eq_iff_iff]; omega
  have w3 : ((Uw49.rank q.2 : Int) = (Uw49.rank r.2 : Int)) = (Uw49.rank q.2 = Uw49.rank r.2) := by rw [eq_iff_iff]; omega
  have w4 : (0 - (S.worth q.2 : Int) < 0 - (S.worth r.2 : Int)) = (S.worth r.2 < S.worth q.2) := by rw [eq_iff_iff]; omega
  simp only [w1, w2, w3, w4, Int.ofNat_lt]
theorem ms_trans {S : Uw49.Sheet} {q r s : Dr} (h1 : PySem.W.dataLt (dMs S q) (dMs S r) = true) (h2 : PySem.W.dataLt (dMs S r) (dMs S s) = true) : PySem.W.dataLt (dMs S q) (dMs S s) = true := lex_trans _ _ _ h1 h2
theorem ms_irr (S : Uw49.Sheet) (q : Dr) : PySem.W.dataLt (dMs S q) (dMs S q) = false := lex_irrefl _
theorem minQ_least (S : Uw49.Sheet) : ∀ (qs : List Dr) (q : Dr), ∀ x ∈ q :: qs, PySem.W.dataLt (dMs S x) (dMs S (minQ S q qs)) = false
  | [], q, x, hx => by
    obtain rfl : x = q := by simpa using hx
    exact ms_irr S x
  | y :: qs, q, x, hx => by
    show PySem.W.dataLt (dMs S x) (dMs S (minQ S (if PySem.W.dataLt (dMs S y) (dMs S q) then y else q) qs)) = false
    have ih := minQ_least S qs (if PySem.W.dataLt (dMs S y) (dMs S q) then y else q)
    by_cases hm : x ∈ qs
    · exact ih x (List.mem_cons_of_mem _ hm)
    · have h0 := ih _ List.mem_cons_self
      have hx' : x = q ∨ x = y := by simpa [hm] using hx
      cases hb : PySem.W.dataLt (dMs S y) (dMs S q) with
      | true =>
        rw [hb] at h0
        simp only [if_true] at h0 ⊢
        rcases hx' with rfl | rfl
        · cases hc : PySem.W.dataLt (dMs S x) (dMs S (minQ S y qs)) with
          | false => rfl
          | true => rw [ms_trans hb hc] at h0; cases h0
        · exact h0
      | false =>
        rw [hb] at h0
        simp only [Bool.false_eq_true, if_false] at h0 ⊢
        rcases hx' with rfl | rfl
        · exact h0
        · cases hc : PySem.W.dataLt (dMs S x) (dMs S (minQ S q qs)) with
          | false => rfl
          | true =>
            -- x not less than q, q not less than the least
            by_cases e : dMs S q = dMs S (minQ S q qs)
            · rw [← e, hb] at hc; cases hc
            · exact absurd hc (by
                cases hd : PySem.W.dataLt (dMs S (minQ S q qs)) (dMs S q) with
                | true => rw [ms_trans hc hd] at hb; cases hb
                | false =>
                  have e2 : PySem.W.keyToks (dMs S q) = PySem.W.keyToks (dMs S (minQ S q qs)) := lex_total _ _ h0 hd
                  unfold PySem.W.dataLt at hc hb
                  rw [← e2, hb] at hc
                  cases hc)
/-! ### the document's fold -/
def stepB (S : Uw49.Sheet) (b : Option Uw49.Best) (x : Dr) : Option Uw49.Best :=
  match b with
  | none => some ⟨S.goodOf x.2 x.1, 1, x.1, x.2⟩
  | some y => if Uw49.better (S.goodOf x.2 x.1) y.good = true then some ⟨S.goodOf x.2 x.1, 1, x.1, x.2⟩ else if S.goodOf x.2 x.1 = y.good then some { y with many := y.many + 1 } else some y
theorem bestOf_eq (S : Uw49.Sheet) (d : List Dr) : S.bestOf d = (d.filter fun x => S.right x.2 x.1).foldl (stepB S) none := by
  unfold Uw49.Sheet.bestOf
  refine congrArg (fun f => List.foldl f none _) (funext fun b => funext fun x => ?_)
  cases b <;> rfl
abbrev gd (S : Uw49.Sheet) (x : Dr) : Uw49.Good := S.goodOf x.2 x.1
structure InvB (S : Uw49.Sheet) (P : List Dr) (b : Uw49.Best) : Prop where
  many : b.many = (P.filter fun y => decide (gd S y = b.good)).length
  ex : ∃ P1 P2, P = P1 ++ (b.plan, b.row) :: P2 ∧ gd S (b.plan, b.row) = b.good ∧ ∀ y ∈ P1, gd S y ≠ b.good
  best : ∀ y ∈ P, Uw49.better (gd S y) b.good = false
theorem better_iff (x y : Uw49.Good) : Uw49.better x y = true ↔ y.worth < x.worth ∨ x.worth = y.worth ∧ (x.points < y.points ∨ x.points = y.points ∧ x.rank < y.rank) := by
  unfold Uw49.better
  simp only [Bool.or_eq_true, Bool.and_eq_true, decide_eq_true_eq, beq_iff_eq]
theorem better_false (x y : Uw49.Good) : Uw49.better x y = false ↔ ¬ (y.worth < x.worth ∨ x.worth = y.worth ∧ (x.points < y.points ∨ x.points = y.points ∧ x.rank < y.rank)) := by
  rw [← better_iff, Bool.not_eq_true]
theorem better_irr (x : Uw49.Good) : Uw49.better x x = false := by
  rw [better_false]
  omega
theorem good_ext {x y : Uw49.Good} (h1 : x.worth = y.worth) (h2 : x.points = y.points) (h3 : x.rank = y.rank) : x = y := by
  cases x; cases y; simp_all
theorem inv_step (S : Uw49.Sheet) {P : List Dr} {b : Uw49.Best} (h : InvB S P b) (x : Dr) : ∃ b', stepB S (some b) x = some b' ∧ InvB S (P ++ [x]) b' := by
  obtain ⟨x1, x2⟩ := x
  obtain ⟨hm, ⟨P1, P2, he, hg, hn⟩, hb⟩ := h
  unfold stepB
  by_cases c1 : Uw49.better (S.goodOf x2 x1) b.good = true
  · refine ⟨_, if_pos c1, ?_, ⟨P, [], by simp, rfl, fun y hy z => ?_⟩, fun y hy => ?_⟩
    · rw [List.filter_append]
      have : (P.filter fun y => decide (gd S y = S.goodOf x2 x1)) = [] := by
        rw [List.filter_eq_nil_iff]
        intro y hy z
        have := hb y hy
        rw [of_decide_eq_true z, c1] at this
        cases this
      simp [this]
    · have := hb y hy
      rw [z] at this
      simp only [] at this
      rw [c1] at this
      cases this
    · rcases List.mem_append.mp hy with q | q
      · have := hb y q
        rw [better_false] at this ⊢
        rw [better_iff] at c1
        simp only [] at c1 ⊢
        omega
      · obtain rfl : y = (x1, x2) := by simpa using q
        exact better_irr _
  · by_cases c2 : S.goodOf x2 x1 = b.good
    · refine ⟨{ b with many := b.many + 1 }, (if_neg c1).trans (if_pos c2), ?_, ⟨P1, P2 ++ [(x1, x2)], by simp [he], hg, hn⟩, fun y hy => ?_⟩
      · rw [List.filter_append, List.length_append, ← hm]
        simp [c2]
      · rcases List.mem_append.mp hy with q | q
        · exact hb y q
        · obtain rfl : y = (x1, x2) := by simpa using q
          simpa using c1
    · refine ⟨b, (if_neg c1).trans (if_neg c2), ?_, ⟨P1, P2 ++ [(x1, x2)], by simp [he], hg, hn⟩, fun y hy => ?_⟩
      · rw [List.filter_append, List.length_append, ← hm]
        simp [c2]
      · rcases List.mem_append.mp hy with q | q
        · exact hb y q
        · obtain rfl : y = (x1, x2) := by simpa using q
          simpa using c1
theorem inv_fold (S : Uw49.Sheet) : ∀ (D P : List Dr) (b : Uw49.Best), InvB S P b → ∃ b', D.foldl (stepB S) (some b) = some b' ∧ InvB S (P ++ D) b'
  | [], P, b, h => ⟨b, rfl, by simpa using h⟩
  | x :: D, P, b, h => by
    obtain ⟨b1, h1, h2⟩ := inv_step S h x
    obtain ⟨b2, h3, h4⟩ := inv_fold S D (P ++ [x]) b1 h2
    exact ⟨b2, by rw [List.foldl_cons, h1, h3], by simpa using h4⟩
theorem fold_best (S : Uw49.Sheet) (x : Dr) (D : List Dr) : ∃ b, (x :: D).foldl (stepB S) none = some b ∧ InvB S (x :: D) b := by
  obtain ⟨x1, x2⟩ := x
  have h : InvB S [(x1, x2)] ⟨S.goodOf x2 x1, 1, x1, x2⟩ := ⟨by simp, ⟨[], [], rfl, rfl, fun y hy => by cases hy⟩, fun y hy => by
    obtain rfl : y = (x1, x2) := by simpa using hy
    exact better_irr _⟩
  exact inv_fold S D [(x1, x2)] _ h
/-- the drawings, one behind another as the document has them -/
def ltp (x y : Dr) : Prop := lx x.1 y.1 ∨ x.1 = y.1 ∧ lx x.2 y.2
theorem ltp_irr (x : Dr) : ¬ ltp x x := by
  rintro (h | ⟨_, h⟩)
  · exact lx_irr _ h
  · exact lx_irr _ h
abbrev sw (x : Dr) : Dr := (x.2, x.1)
theorem lt_of_good {S : Uw49.Sheet} {x y : Dr} (h : Uw49.better (gd S y) (gd S x) = false) (h2 : gd S y = gd S x → ltp x y) : PySem.W.dataLt (dMs S (sw x)) (dMs S (sw y)) = true := by
  obtain ⟨x1, x2⟩ := x
  obtain ⟨y1, y2⟩ := y
  rw [better_false] at h
  simp only [gd, Uw49.Sheet.goodOf] at h h2
  rw [ms_lt]
  simp only [sw]
  by_cases e1 : S.worth x1 = S.worth y1
  · rw [if_pos e1]
    by_cases e2 : x2.length = y2.length
    · rw [if_pos e2]
      by_cases e3 : Uw49.rank x1 = Uw49.rank y1
      · rw [if_pos e3]
        have := h2 (by rw [e1, e2, e3])
        rcases this with q | ⟨q1, q2⟩
        · simp only [] at q
          rw [if_neg (fun z => lx_irr x1 (by rw [← z] at q; exact q))]
          exact (lt_ns _ _).mpr q
        · simp only [] at q1 q2
          rw [if_pos q1, if_neg (fun z => lx_irr x2 (by rw [← z] at q2; exact q2))]
          exact (lt_ns _ _).mpr q2
      · rw [if_neg e3]
        exact decide_eq_true (by omega)
    · rw [if_neg e2]
      exact decide_eq_true (by omega)
  · rw [if_neg e1]
    exact decide_eq_true (by omega)
theorem out_told (b : Uw49.Best) : Uw49Neutral.out (Uw49.told b) = (b.good.worth :: b.good.points :: b.good.rank :: b.many :: (b.plan ++ b.row)).map fun (n : Nat) => (n : Int) := rfl
/-- the program's best is the document's -/
theorem best_law (S : Uw49.Sheet) (D : List Dr) (hs : D.Pairwise ltp) (q : Dr) (qs : List Dr) (hp : ((q :: qs).map sw).Perm D) : ∃ b, D.foldl (stepB S) none = some b ∧ Uw49Neutral.out (Uw49.told b) = (toldB S q qs).map fun (n : Nat) => (n : Int) := by
  cases D with
  | nil => exact absurd hp.length_eq (by simp)
  | cons x D =>
    obtain ⟨b, hb, hm, ⟨P1, P2, he, hg, hn⟩, hbest⟩ := fold_best S x D
    refine ⟨b, hb, ?_⟩
    have mem : ∀ y, y ∈ q :: qs ↔ sw y ∈ x :: D := fun y => by
      rw [← hp.mem_iff, List.mem_map]
      constructor
      · intro h; exact ⟨y, h, rfl⟩
      · rintro ⟨z, hz, e⟩
        have : z = y := by
          obtain ⟨z1, z2⟩ := z
          obtain ⟨y1, y2⟩ := y
          simp only [sw, Prod.mk.injEq] at e
          rw [e.1, e.2]
        rw [← this]; exact hz
    have hmin : minQ S q qs = (b.row, b.plan) := by
      have m1 : minQ S q qs ∈ q :: qs := minQ_mem S qs q
      have m2 := (mem _).mp m1
      have hx : (b.plan, b.row) ∈ x :: D := by rw [he]; simp
      have hx' : (b.row, b.plan) ∈ q :: qs := (mem (b.row, b.plan)).mpr hx
      have l1 := minQ_least S qs q _ hx'
      by_cases e : sw (minQ S q qs) = (b.plan, b.row)
      · have : (minQ S q qs).2 = b.plan ∧ (minQ S q qs).1 = b.row := by simpa [sw] using e
        rw [← this.1, ← this.2]
      · exfalso
        have : PySem.W.dataLt (dMs S (sw (b.plan, b.row))) (dMs S (sw (sw (minQ S q qs)))) = true := by
          refine lt_of_good (by rw [hg]; exact hbest _ m2) fun hq => ?_
          rw [hg] at hq
          rw [he] at m2 hs
          rcases List.mem_append.mp m2 with z | z
          · exact absurd hq (hn _ z)
          · rcases List.mem_cons.mp z with z | z
            · exact absurd z e
            · have := (List.pairwise_append.mp hs).2.1
              exact (List.pairwise_cons.mp this).1 _ z
        simp only [sw] at this
        rw [show ((minQ S q qs).1, (minQ S q qs).2) = minQ S q qs from rfl] at this
        rw [this] at l1
        cases l1
    rw [out_told]
    unfold toldB
    rw [hmin]
    have g1 : b.good.worth = S.worth b.plan := by rw [← hg]; rfl
    have g2 : b.good.points = b.row.length := by rw [← hg]; rfl
    have g3 : b.good.rank = Uw49.rank b.plan := by rw [← hg]; rfl
    have g4 : b.many = ((q :: qs).filter fun r => sameG S r (b.row, b.plan)).length := by
      rw [hm, ← (hp.filter _).length_eq, List.filter_map, List.length_map]
      refine congrArg List.length (List.filter_congr fun y _ => ?_)
      rw [Bool.eq_iff_iff]
      simp only [Function.comp, sw, gd, sameG, decide_eq_true_eq, Bool.and_eq_true]
      rw [← hg]
      simp only [gd, Uw49.Sheet.goodOf, Uw49.Good.mk.injEq]
    rw [g1, g2, g3, g4]
end Md

/-! plans, choices, drawings: the program's and the document's are the same -/
namespace Md
open PySem PySem.Spec PyProof.Rows L2
instance lxDec (l m : List Nat) : Decidable (lx l m) := inferInstanceAs (Decidable ((l.map fun (n : Nat) => (n : Int)) < (m.map fun (n : Nat) => (n : Int))))
theorem rows_sorted : ∀ n, (Uw49.rows n).Pairwise lx
  | 0 => List.pairwise_singleton _ _
  | n + 1 => by
    unfold Uw49.rows
    rw [List.pairwise_flatMap]
    refine ⟨fun x _ => ?_, ?_⟩
    · rw [List.pairwise_map]
      exact (rows_sorted n).imp fun h => (lx_cons _ _ _ _).mpr (.inr ⟨rfl, h⟩)
    · refine List.pairwise_lt_range.imp fun {x y} h u hu v hv => ?_
      obtain ⟨u', _, rfl⟩ := List.mem_map.mp hu
      obtain ⟨v', _, rfl⟩ := List.mem_map.mp hv
      exact (lx_cons _ _ _ _).mpr (.inl h)
theorem mem_rows : ∀ n l, l ∈ Uw49.rows n ↔ l.length = n ∧ ∀ c ∈ l, c ≤ 4
  | 0, l => by
    unfold Uw49.rows
    rw [List.mem_singleton]
    constructor
    · rintro rfl; exact ⟨rfl, fun c hc => by cases hc⟩
    · rintro ⟨h, _⟩; exact List.length_eq_zero_iff.mp h
  | n + 1, l => by
    unfold Uw49.rows
    rw [List.mem_flatMap]
    constructor
    · rintro ⟨x, hx, h⟩
      obtain ⟨m, hm, rfl⟩ := List.mem_map.mp h
      obtain ⟨h1, h2⟩ := (mem_rows n m).mp hm
      have := List.mem_range.mp hx
      refine ⟨by rw [List.length_cons, h1], fun c hc => ?_⟩
      rcases List.mem_cons.mp hc with q | q
      · omega
      · exact h2 c q
    · rintro ⟨h1, h2⟩
      cases l with
      | nil => cases h1
      | cons x m =>
        refine ⟨x, List.mem_range.mpr (by have := h2 x (by simp); omega), List.mem_map.mpr ⟨m, (mem_rows n m).mpr ⟨by simpa using h1, fun c hc => h2 c (by simp [hc])⟩, rfl⟩⟩
theorem ch_sorted : ∀ k, k < 6 → (Uw49.choicesFrom (k + 1) (k + 2) 0).Pairwise lx := by decide +kernel
theorem ch_perm : ∀ k, k < 6 → (allChoices (k + 1)).isPerm (Uw49.choicesFrom (k + 1) (k + 2) 0) = true := by decide +kernel
theorem ch_chosen : ∀ k, k < 6 → ∀ c ∈ Uw49.choicesFrom (k + 1) (k + 2) 0, (Uw49.rises c && (c.head? == some 0 && c.getLast? == some (k + 1))) = true := by decide +kernel
theorem ch_all : ∀ k, k < 6 → List.range (k + 2) ∈ Uw49.choicesFrom (k + 1) (k + 2) 0 := by decide +kernel
theorem ch_next : ∀ k, k < 6 → ∀ x ∈ Uw49.steps (List.range (k + 2)), x.2 = x.1 + 1 := by decide +kernel
section
variable {S : Uw49.Sheet} (wf : Wf S)
include wf
theorem pts_k : ∃ k, k < 6 ∧ S.points.length = k + 2 := ⟨S.points.length - 2, by have := wf.p1; have := wf.p2; omega, by have := wf.p1; omega⟩
theorem choices_sorted : S.choices.Pairwise lx := by
  obtain ⟨k, hk, e⟩ := pts_k wf
  unfold Uw49.Sheet.choices
  rw [e]
  exact ch_sorted k hk
theorem choices_perm : (allChoices (S.points.length - 1)).Perm S.choices := by
  obtain ⟨k, hk, e⟩ := pts_k wf
  unfold Uw49.Sheet.choices
  rw [e]
  exact List.isPerm_iff.mp (ch_perm k hk)
theorem choices_chosen {c : List Nat} (h : c ∈ S.choices) : S.chosen c = true := by
  obtain ⟨k, hk, e⟩ := pts_k wf
  unfold Uw49.Sheet.choices at h
  unfold Uw49.Sheet.chosen
  rw [e] at h ⊢
  exact ch_chosen k hk c h
theorem full_in : List.range S.points.length ∈ S.choices := by
  obtain ⟨k, hk, e⟩ := pts_k wf
  unfold Uw49.Sheet.choices
  rw [e]
  exact ch_all k hk
theorem full_drawn : S.badStep (List.range S.points.length) = none := by
  obtain ⟨k, hk, e⟩ := pts_k wf
  unfold Uw49.Sheet.badStep
  rw [Option.map_eq_none_iff, List.find?_eq_none]
  intro x hx
  rw [e] at hx
  have h := ch_next k hk x hx
  have : S.may x.1 x.2 = true := by
    unfold Uw49.Sheet.may
    rw [List.all_eq_true]
    intro j _
    have : (decide (x.1 < j) && decide (j < x.2)) = false := by
      rw [Bool.and_eq_false_iff, decide_eq_false_iff_not, decide_eq_false_iff_not]
      omega
    rw [this]
    rfl
  rw [this]
  exact Bool.false_ne_true
end
theorem lx_nodup {ls : List (List Nat)} (h : ls.Pairwise lx) : ls.Nodup := h.imp fun {x y} q e => by subst e; exact lx_irr _ q
/-! plans -/
structure PlOk (S : Uw49.Sheet) (l : List Nat) : Prop where
  fit : ∀ i, Uw49.stands l i = true → S.fits i (l.getD i 4) = true
  cl : ∀ i j, i < j → Uw49.stands l i = true → Uw49.stands l j = true → S.clash i (l.getD i 4) j (l.getD j 4) = false
theorem stands_len {l : List Nat} {i : Nat} (h : Uw49.stands l i = true) : i < l.length := by
  unfold Uw49.stands at h
  by_cases q : i < l.length
  · exact q
  · rw [List.getD_eq_getElem?_getD, List.getElem?_eq_none (by omega)] at h
    simp at h
theorem getD_app {l : List Nat} {c i : Nat} : (l ++ [c]).getD i 4 = if i < l.length then l.getD i 4 else if i = l.length then c else 4 := by
  rw [List.getD_eq_getElem?_getD, List.getD_eq_getElem?_getD]
  by_cases h : i < l.length
  · rw [if_pos h, List.getElem?_append_left h]
  · rw [if_neg h, List.getElem?_append_right (by omega)]
    by_cases h2 : i = l.length
    · subst h2; simp
    · rw [if_neg h2, List.getElem?_eq_none (by simp; omega)]
      rfl
theorem stands_app {l : List Nat} {c i : Nat} : Uw49.stands (l ++ [c]) i = if i < l.length then Uw49.stands l i else if i = l.length then c != 4 else false := by
  unfold Uw49.stands
  rw [getD_app]
  by_cases h : i < l.length
  · rw [if_pos h, if_pos h]
  · rw [if_neg h, if_neg h]
    by_cases h2 : i = l.length
    · rw [if_pos h2, if_pos h2]
    · rw [if_neg h2, if_neg h2]; rfl
theorem mem_corners {S : Uw49.Sheet} {k c : Nat} : c ∈ cornersOf S k ↔ c < 4 ∧ S.fits k c = true ∨ c = 4 := by
  unfold cornersOf
  rw [List.mem_append, List.mem_filter, List.mem_range, List.mem_singleton]
theorem gow_iff {S : Uw49.Sheet} {l : List Nat} {c : Nat} : goesWith S l c = true ↔ c = 4 ∨ ∀ j, Uw49.stands l j = true → S.clash j (l.getD j 4) l.length c = false := by
  unfold goesWith
  rw [Bool.or_eq_true, beq_iff_eq, Bool.not_eq_true', List.any_eq_false]
  constructor
  · rintro (h | h)
    · exact .inl h
    · refine .inr fun j hj => ?_
      have := h j (List.mem_filter.mpr ⟨List.mem_range.mpr (stands_len hj), hj⟩)
      simpa using this
  · rintro (h | h)
    · exact .inl h
    · refine .inr fun j hj => ?_
      rw [h j (List.mem_filter.mp hj).2]
      exact Bool.false_ne_true
theorem plok_app {S : Uw49.Sheet} {l : List Nat} {c : Nat} (hc : c ≤ 4) : PlOk S (l ++ [c]) ↔ PlOk S l ∧ (c < 4 ∧ S.fits l.length c = true ∨ c = 4) ∧ (c = 4 ∨ ∀ j, Uw49.stands l j = true → S.clash j (l.getD j 4) l.length c = false) := by
  constructor
  · rintro ⟨h1, h2⟩
    refine ⟨⟨fun i hi => ?_, fun i j hij hi hj => ?_⟩, ?_, ?_⟩
    · have q := stands_len hi
      have := h1 i (by rw [stands_app, if_pos q]; exact hi)
      rw [getD_app, if_pos q] at this
      exact this
    · have q1 := stands_len hi
      have q2 := stands_len hj
      have := h2 i j hij (by rw [stands_app, if_pos q1]; exact hi) (by rw [stands_app, if_pos q2]; exact hj)
      rw [getD_app, if_pos q1, getD_app, if_pos q2] at this
      exact this
    · by_cases e : c = 4
      · exact .inr e
      · have := h1 l.length (by rw [stands_app, if_neg (by omega), if_pos rfl]; simpa using e)
        rw [getD_app, if_neg (by omega), if_pos rfl] at this
        exact .inl ⟨by omega, this⟩
    · by_cases e : c = 4
      · exact .inl e
      · refine .inr fun j hj => ?_
        have q := stands_len hj
        have := h2 j l.length q (by rw [stands_app, if_pos q]; exact hj) (by rw [stands_app, if_neg (by omega), if_pos rfl]; simpa using e)
        rw [getD_app, if_pos q, getD_app, if_neg (by omega), if_pos rfl] at this
        exact this
  · rintro ⟨⟨h1, h2⟩, h3, h4⟩
    refine ⟨fun i hi => ?_, fun i j hij hi hj => ?_⟩
    · rw [stands_app] at hi
      rw [getD_app]
      by_cases q : i < l.length
      · rw [if_pos q] at hi ⊢; exact h1 i hi
      · rw [if_neg q] at hi ⊢
        by_cases q2 : i = l.length
        · rw [if_pos q2] at hi ⊢
          have : c ≠ 4 := by simpa using hi
          rcases h3 with h3 | h3
          · rw [q2]; exact h3.2
          · exact absurd h3 this
        · rw [if_neg q2] at hi; cases hi
    · rw [stands_app] at hi hj
      rw [getD_app, getD_app]
      by_cases q : j < l.length
      · have q1 : i < l.length := by omega
        rw [if_pos q] at hj ⊢
        rw [if_pos q1] at hi ⊢
        exact h2 i j hij hi hj
      · rw [if_neg q] at hj ⊢
        by_cases q2 : j = l.length
        · rw [if_pos q2] at hj ⊢
          have q1 : i < l.length := by omega
          rw [if_pos q1] at hi ⊢
          have : c ≠ 4 := by simpa using hj
          rcases h4 with h4 | h4
          · exact absurd h4 this
          · rw [q2]; exact h4 i hi
        · rw [if_neg q2] at hj; cases hj
theorem mem_plans (S : Uw49.Sheet) : ∀ k l, l ∈ plansTo S k ↔ l.length = k ∧ (∀ c ∈ l, c ≤ 4) ∧ PlOk S l
  | 0, l => by
    have : plansTo S 0 = [[]] := rfl
    rw [this, List.mem_singleton]
    constructor
    · rintro rfl
      exact ⟨rfl, fun c hc => (by cases hc), ⟨fun i hi => absurd (stands_len hi) (Nat.not_lt_zero i), fun i j _ hi => absurd (stands_len hi) (Nat.not_lt_zero i)⟩⟩
    · rintro ⟨h, _⟩; exact List.length_eq_zero_iff.mp h
  | k + 1, l => by
    rw [plansTo_succ]
    unfold planStep
    rw [List.mem_flatMap]
    constructor
    · rintro ⟨m, hm, h⟩
      obtain ⟨c, hc, rfl⟩ := List.mem_map.mp h
      obtain ⟨h1, h2, h3⟩ := (mem_plans S k m).mp hm
      obtain ⟨c1, c2⟩ := List.mem_filter.mp hc
      have c4 := corners_mem c1
      refine ⟨by rw [List.length_append, h1]; rfl, fun d hd => ?_, (plok_app c4).mpr ⟨h3, ?_, gow_iff.mp c2⟩⟩
      · rcases List.mem_append.mp hd with q | q
        · exact h2 d q
        · have : d = c := by simpa using q
          omega
      · rw [h1]; exact mem_corners.mp c1
    · rintro ⟨h1, h2, h3⟩
      obtain ⟨m, c, rfl⟩ : ∃ m c, l = m ++ [c] := ⟨l.dropLast, l.getLast (by intro e; rw [e] at h1; cases h1), (List.dropLast_concat_getLast _).symm⟩
      have c4 := h2 c (by simp)
      obtain ⟨p1, p2, p3⟩ := (plok_app c4).mp h3
      have hl : m.length = k := by rw [List.length_append] at h1; simpa using h1
      refine ⟨m, (mem_plans S k m).mpr ⟨hl, fun d hd => h2 d (by simp [hd]), p1⟩, List.mem_map.mpr ⟨c, List.mem_filter.mpr ⟨mem_corners.mpr (by rw [hl] at p2; exact p2), gow_iff.mpr p3⟩, rfl⟩⟩
theorem plans_nodup (S : Uw49.Sheet) : ∀ k, (plansTo S k).Nodup
  | 0 => List.pairwise_singleton _ _
  | k + 1 => by
    rw [plansTo_succ]
    unfold planStep
    rw [List.Nodup, List.pairwise_flatMap]
    refine ⟨fun l _ => ?_, (plans_nodup S k).imp fun {x y} h u hu v hv e => ?_⟩
    · rw [List.pairwise_map]
      have : (cornersOf S k).Nodup := by
        unfold cornersOf
        rw [List.nodup_append]
        refine ⟨List.Pairwise.filter _ List.nodup_range, List.pairwise_singleton _ _, fun u hu v hv e => ?_⟩
        have := List.mem_range.mp (List.mem_filter.mp hu).1
        have : v = 4 := by simpa using hv
        omega
      exact (List.Pairwise.filter _ this).imp fun {u v} h e => h (by simpa using e)
    · obtain ⟨c, _, rfl⟩ := List.mem_map.mp hu
      obtain ⟨d, _, rfl⟩ := List.mem_map.mp hv
      exact h (List.append_inj_left' e rfl)
theorem names_iff {S : Uw49.Sheet} {l : List Nat} (hl : l.length = S.towns.length) : S.badName l = none ∧ S.clashes l = none ↔ PlOk S l := by
  unfold Uw49.Sheet.badName Uw49.Sheet.clashes Uw49.Sheet.pairs Uw49.Sheet.count
  rw [List.find?_eq_none, List.find?_eq_none]
  constructor
  · rintro ⟨h1, h2⟩
    refine ⟨fun i hi => ?_, fun i j hij hi hj => ?_⟩
    · have := h1 i (List.mem_range.mpr (by have := stands_len hi; omega))
      rw [hi] at this
      simpa using this
    · have q1 := stands_len hi
      have q2 := stands_len hj
      have := h2 (i, j) (List.mem_flatMap.mpr ⟨i, List.mem_range.mpr (by omega), List.mem_map.mpr ⟨j, List.mem_filter.mpr ⟨List.mem_range.mpr (by omega), decide_eq_true hij⟩, rfl⟩⟩)
      simp only [hi, hj, Bool.true_and] at this
      simpa using this
  · rintro ⟨h1, h2⟩
    refine ⟨fun i _ => ?_, fun x hx => ?_⟩
    · cases hs : Uw49.stands l i with
      | false => simp
      | true => rw [h1 i hs]; exact Bool.false_ne_true
    · obtain ⟨i, hi, hx⟩ := List.mem_flatMap.mp hx
      obtain ⟨j, hj, rfl⟩ := List.mem_map.mp hx
      have hij := of_decide_eq_true (List.mem_filter.mp hj).2
      simp only []
      cases s1 : Uw49.stands l i with
      | false => simp
      | true =>
        cases s2 : Uw49.stands l j with
        | false => simp
        | true => simp only [Bool.true_and]; rw [h2 i j hij s1 s2]; exact Bool.false_ne_true
theorem clear_iff {S : Uw49.Sheet} {c l : List Nat} (hl : l.length = S.towns.length) (h4 : ∀ x ∈ l, x ≤ 4) : isClear l (cornersHit S c) = true ↔ S.crossed c l = none := by
  rw [crossed_eq, List.findSome?_eq_none_iff]
  unfold isClear
  rw [Bool.not_eq_true', List.any_eq_false]
  unfold cornersHit Uw49.Sheet.count
  constructor
  · intro h i hi
    have hi' : i < l.length := by have := List.mem_range.mp hi; omega
    unfold crossAt
    cases hs : Uw49.stands l i with
    | false => simp
    | true =>
      rw [if_pos rfl, Option.map_eq_none_iff]
      have g : l.getD i 4 = l[i] := by rw [List.getD_eq_getElem?_getD, List.getElem?_eq_getElem hi']; rfl
      have := h (l[i], (List.range 4).filter fun m => (thr S c i m).isSome) (List.mem_iff_getElem?.mpr ⟨i, List.getElem?_zip_eq_some.mpr ⟨List.getElem?_eq_getElem hi', by rw [List.getElem?_map, List.getElem?_range (by omega)]; rfl⟩⟩)
      simp only [decide_eq_true_eq, List.mem_filter, List.mem_range] at this
      have l4 := h4 l[i] (List.getElem_mem hi')
      have n4 : l[i] ≠ 4 := by
        unfold Uw49.stands at hs
        rw [g] at hs
        simpa using hs
      rw [g]
      cases ht : thr S c i l[i] with
      | none => rfl
      | some v => exact absurd ⟨by omega, by rw [ht]; rfl⟩ this
  · rintro h ⟨x, hs⟩ hx
    obtain ⟨i, hi⟩ := List.mem_iff_getElem?.mp hx
    obtain ⟨h1, h2⟩ := List.getElem?_zip_eq_some.mp hi
    have hi' : i < l.length := (List.getElem?_eq_some_iff.mp h1).1
    rw [List.getElem?_map, List.getElem?_range (by omega)] at h2
    simp only [Option.map_some, Option.some.injEq] at h2
    simp only [] at h1
    rw [← h2]
    simp only [decide_eq_true_eq, List.mem_filter, List.mem_range]
    rintro ⟨q1, q2⟩
    have := h i (List.mem_range.mpr (by omega))
    unfold crossAt at this
    have g : l.getD i 4 = x := getD_of h1 4
    rw [show Uw49.stands l i = true by unfold Uw49.stands; rw [g]; simp; omega, if_pos rfl, Option.map_eq_none_iff, g] at this
    rw [this] at q2
    cases q2
theorem told_iff {S : Uw49.Sheet} {l : List Nat} : S.told l = true ↔ l.length = S.towns.length ∧ ∀ x ∈ l, x ≤ 4 := by
  unfold Uw49.Sheet.told Uw49.Sheet.count
  simp only [Bool.and_eq_true, beq_iff_eq, List.all_eq_true, decide_eq_true_eq]
theorem right_iff {S : Uw49.Sheet} {c l : List Nat} : S.right c l = true ↔ S.chosen c = true ∧ S.told l = true ∧ S.badStep c = none ∧ S.badName l = none ∧ S.clashes l = none ∧ S.crossed c l = none := by
  unfold Uw49.Sheet.right
  simp only [Bool.and_eq_true, Option.isNone_iff_eq_none, and_assoc]
theorem mem_good {S : Uw49.Sheet} {l : List Nat} : l ∈ goodPlans S ↔ S.told l = true ∧ S.badName l = none ∧ S.clashes l = none := by
  unfold goodPlans
  rw [mem_plans, told_iff]
  constructor
  · rintro ⟨h1, h2, h3⟩
    have := (names_iff h1).mpr h3
    exact ⟨⟨h1, h2⟩, this.1, this.2⟩
  · rintro ⟨⟨h1, h2⟩, h3⟩
    exact ⟨h1, h2, (names_iff h1).mp h3⟩
theorem mem_meas {S : Uw49.Sheet} {cs ls : List (List Nat)} {x : Dr} : x ∈ measL S cs ls ↔ x.1 ∈ cs ∧ x.2 ∈ ls ∧ isClear x.2 (cornersHit S x.1) = true := by
  obtain ⟨c, l⟩ := x
  unfold measL
  rw [List.mem_flatMap]
  constructor
  · rintro ⟨c', hc, h⟩
    obtain ⟨l', hl, e⟩ := List.mem_map.mp h
    obtain ⟨rfl, rfl⟩ : c' = c ∧ l' = l := by simpa using e
    obtain ⟨h1, h2⟩ := List.mem_filter.mp hl
    exact ⟨hc, h1, h2⟩
  · rintro ⟨h1, h2, h3⟩
    exact ⟨c, h1, List.mem_map.mpr ⟨l, List.mem_filter.mpr ⟨h2, h3⟩, rfl⟩⟩
theorem meas_nodup {S : Uw49.Sheet} {cs ls : List (List Nat)} (h1 : cs.Nodup) (h2 : ls.Nodup) : ((measL S cs ls).map sw).Nodup := by
  rw [List.Nodup, List.pairwise_map]
  unfold measL
  rw [List.pairwise_flatMap]
  refine ⟨fun c _ => ?_, h1.imp fun {x y} h u hu v hv e => ?_⟩
  · rw [List.pairwise_map]
    exact (List.Pairwise.filter _ h2).imp fun {u v} h e => h (by simpa using e)
  · obtain ⟨_, _, rfl⟩ := List.mem_map.mp hu
    obtain ⟨_, _, rfl⟩ := List.mem_map.mp hv
    exact h (congrArg Prod.snd e)
theorem ltp_nodup {D : List Dr} (h : D.Pairwise ltp) : D.Nodup := h.imp fun {x y} q e => by subst e; exact ltp_irr _ q
theorem sw_mem {D : List Dr} {x : Dr} : x ∈ D.map sw ↔ sw x ∈ D := by
  rw [List.mem_map]
  constructor
  · rintro ⟨y, hy, rfl⟩; exact hy
  · intro h; exact ⟨sw x, h, rfl⟩
/-- what both have in common -/
theorem joined {S : Uw49.Sheet} {cs ls : List (List Nat)} {d : List Dr} (h1 : cs.Nodup) (h2 : ls.Nodup) (hd : d.Pairwise ltp) (hm : ∀ l c, (l, c) ∈ d ∧ S.right c l = true ↔ c ∈ cs ∧ l ∈ ls ∧ isClear l (cornersHit S c) = true) :
    (measL S cs ls = [] → S.bestOf d = none) ∧ ∀ q qs, measL S cs ls = q :: qs → ∃ b, S.bestOf d = some b ∧ Uw49Neutral.out (Uw49.told b) = (toldB S q qs).map fun (n : Nat) => (n : Int) := by
  have hD : (d.filter fun x => S.right x.2 x.1).Pairwise ltp := List.Pairwise.filter _ hd
  have hp : ((measL S cs ls).map sw).Perm (d.filter fun x => S.right x.2 x.1) := by
    rw [List.perm_ext_iff_of_nodup (meas_nodup h1 h2) (ltp_nodup hD)]
    rintro ⟨l, c⟩
    rw [sw_mem, mem_meas, List.mem_filter, ← hm l c]
  refine ⟨fun e => ?_, fun q qs e => ?_⟩
  · rw [e] at hp
    rw [bestOf_eq, List.nil_perm.mp hp]
    rfl
  · rw [e] at hp
    rw [bestOf_eq]
    exact best_law S _ hD q qs hp
section
variable {S : Uw49.Sheet} (wf : Wf S)
include wf
theorem good_nodup : (goodChoices S).Nodup := List.Pairwise.filter _ ((choices_perm wf).nodup_iff.mpr (lx_nodup (choices_sorted wf)))
theorem mem_goodCh {c : List Nat} : c ∈ goodChoices S ↔ c ∈ S.choices ∧ S.badStep c = none := by
  unfold goodChoices
  rw [List.mem_filter, (choices_perm wf).mem_iff, Option.isNone_iff_eq_none]
omit wf in
theorem plain_ok : S.told (List.replicate S.towns.length 4) = true ∧ PlOk S (List.replicate S.towns.length 4) ∧ ∀ c, S.crossed c (List.replicate S.towns.length 4) = none := by
  have hs : ∀ i, Uw49.stands (List.replicate S.towns.length 4) i = false := fun i => by
    unfold Uw49.stands
    rw [List.getD_eq_getElem?_getD, List.getElem?_replicate]
    split <;> rfl
  refine ⟨told_iff.mpr ⟨List.length_replicate, fun x hx => by have := List.eq_of_mem_replicate hx; omega⟩, ⟨fun i hi => absurd hi (by rw [hs]; exact Bool.false_ne_true), fun i j _ hi => absurd hi (by rw [hs]; exact Bool.false_ne_true)⟩, fun c => ?_⟩
  rw [crossed_eq]
  refine findSome_none fun j _ => ?_
  unfold crossAt
  rw [hs]
  rfl
omit wf in
theorem plain_in : List.replicate S.towns.length 4 ∈ goodPlans S := by
  obtain ⟨h1, h2, h3⟩ := plain_ok (S := S)
  have := (names_iff (told_iff.mp h1).1).mpr h2
  exact mem_good.mpr ⟨h1, this.1, this.2⟩
omit wf in
theorem plain_clear (c : List Nat) : isClear (List.replicate S.towns.length 4) (cornersHit S c) = true := by
  obtain ⟨h1, h2, h3⟩ := plain_ok (S := S)
  exact (clear_iff (told_iff.mp h1).1 (told_iff.mp h1).2).mpr (h3 c)
theorem best_eq : ∃ q qs, measL S (goodChoices S) (goodPlans S) = q :: qs ∧ outC S .best = (toldB S q qs).map fun (n : Nat) => (n : Int) := by
  have hd : ((Uw49.rows S.count).flatMap fun l => S.choices.map fun c => (l, c)).Pairwise ltp := by
    rw [List.pairwise_flatMap]
    refine ⟨fun l _ => ?_, (rows_sorted _).imp fun {x y} h u hu v hv => ?_⟩
    · rw [List.pairwise_map]
      exact (choices_sorted wf).imp fun h => .inr ⟨rfl, h⟩
    · obtain ⟨_, _, rfl⟩ := List.mem_map.mp hu
      obtain ⟨_, _, rfl⟩ := List.mem_map.mp hv
      exact .inl h
  obtain ⟨-, m2⟩ := joined (S := S) (good_nodup wf) (plans_nodup S S.towns.length) hd fun l c => by
    rw [List.mem_flatMap, right_iff, mem_goodCh wf, show plansTo S S.towns.length = goodPlans S from rfl, mem_good]
    constructor
    · rintro ⟨⟨l', hl, h⟩, h1, h2, h3, h4, h5, h6⟩
      obtain ⟨c', hc, e⟩ := List.mem_map.mp h
      obtain ⟨rfl, rfl⟩ : l' = l ∧ c' = c := by simpa using e
      exact ⟨⟨hc, h3⟩, ⟨h2, h4, h5⟩, (clear_iff (told_iff.mp h2).1 (told_iff.mp h2).2).mpr h6⟩
    · rintro ⟨⟨hc, h3⟩, ⟨h2, h4, h5⟩, h6⟩
      exact ⟨⟨l, (mem_rows _ _).mpr (told_iff.mp h2), List.mem_map.mpr ⟨c, hc, rfl⟩⟩, choices_chosen wf hc, h2, h3, h4, h5, (clear_iff (told_iff.mp h2).1 (told_iff.mp h2).2).mp h6⟩
  have hne : (List.range S.points.length, List.replicate S.towns.length 4) ∈ measL S (goodChoices S) (goodPlans S) := mem_meas.mpr ⟨(mem_goodCh wf).mpr ⟨full_in wf, full_drawn wf⟩, plain_in, plain_clear _⟩
  cases e : measL S (goodChoices S) (goodPlans S) with
  | nil => rw [e] at hne; cases hne
  | cons q qs =>
    obtain ⟨b, hb, ho⟩ := m2 q qs e
    refine ⟨q, qs, rfl, ?_⟩
    rw [← ho]
    unfold outC Uw49.step Uw49.Sheet.best
    rw [hb]
theorem along_eq {c : List Nat} (h1 : S.chosen c = true) (h3 : S.badStep c = none) : ∃ q qs, measL S [c] (goodPlans S) = q :: qs ∧ outC S (.along c) = (toldB S q qs).map fun (n : Nat) => (n : Int) := by
  have hd : ((Uw49.rows S.count).map fun l => (l, c)).Pairwise ltp := by
    rw [List.pairwise_map]
    exact (rows_sorted _).imp fun h => .inl h
  obtain ⟨-, m2⟩ := joined (S := S) (cs := [c]) (List.pairwise_singleton _ _) (plans_nodup S S.towns.length) hd fun l c' => by
    rw [List.mem_map, right_iff, List.mem_singleton, show plansTo S S.towns.length = goodPlans S from rfl, mem_good]
    constructor
    · rintro ⟨⟨l', hl, e⟩, _, h2, h3, h4, h5, h6⟩
      obtain ⟨rfl, rfl⟩ : l' = l ∧ c = c' := by simpa using e
      exact ⟨rfl, ⟨h2, h4, h5⟩, (clear_iff (told_iff.mp h2).1 (told_iff.mp h2).2).mpr h6⟩
    · rintro ⟨rfl, ⟨h2, h4, h5⟩, h6⟩
      exact ⟨⟨l, (mem_rows _ _).mpr (told_iff.mp h2), rfl⟩, h1, h2, h3, h4, h5, (clear_iff (told_iff.mp h2).1 (told_iff.mp h2).2).mp h6⟩
  have hne : (c, List.replicate S.towns.length 4) ∈ measL S [c] (goodPlans S) := mem_meas.mpr ⟨List.mem_singleton.mpr rfl, plain_in, plain_clear _⟩
  cases e : measL S [c] (goodPlans S) with
  | nil => rw [e] at hne; cases hne
  | cons q qs =>
    obtain ⟨b, hb, ho⟩ := m2 q qs e
    refine ⟨q, qs, rfl, ?_⟩
    rw [← ho]
    unfold outC Uw49.step Uw49.Sheet.along
    simp only [h1, h3, hb, Bool.true_eq_false, if_false]
theorem round_eq {l : List Nat} (h2 : S.told l = true) (h4 : S.badName l = none) (h5 : S.clashes l = none) : (measL S (goodChoices S) [l] = [] → outC S (.round l) = [-9]) ∧ ∀ q qs, measL S (goodChoices S) [l] = q :: qs → outC S (.round l) = (toldB S q qs).map fun (n : Nat) => (n : Int) := by
  have hd : (S.choices.map fun c => (l, c)).Pairwise ltp := by
    rw [List.pairwise_map]
    exact (choices_sorted wf).imp fun h => .inr ⟨rfl, h⟩
  obtain ⟨m1, m2⟩ := joined (S := S) (ls := [l]) (good_nodup wf) (List.pairwise_singleton _ _) hd fun l' c => by
    rw [List.mem_map, right_iff, List.mem_singleton, mem_goodCh wf]
    constructor
    · rintro ⟨⟨c', hc, e⟩, _, h2, h3, _, _, h6⟩
      obtain ⟨rfl, rfl⟩ : l = l' ∧ c' = c := by simpa using e
      exact ⟨⟨hc, h3⟩, rfl, (clear_iff (told_iff.mp h2).1 (told_iff.mp h2).2).mpr h6⟩
    · rintro ⟨⟨hc, h3⟩, rfl, h6⟩
      exact ⟨⟨c, hc, rfl⟩, choices_chosen wf hc, h2, h3, h4, h5, (clear_iff (told_iff.mp h2).1 (told_iff.mp h2).2).mp h6⟩
  refine ⟨fun e => ?_, fun q qs e => ?_⟩
  · unfold outC Uw49.step Uw49.Sheet.round
    simp only [h2, h4, h5, m1 e, Bool.true_eq_false, if_false]
    rfl
  · obtain ⟨b, hb, ho⟩ := m2 q qs e
    rw [← ho]
    unfold outC Uw49.step Uw49.Sheet.round
    simp only [h2, h4, h5, hb, Bool.true_eq_false, if_false]
end
end Md

namespace Md
open PySem PySem.Spec PyProof.Rows L2
open Evl (Ex)
local macro_rules | `(tactic| walk_at "ed") => `(tactic| first
  | with_reducible exact ed_int | with_reducible exact ed_bl | with_reducible exact ed_non
  | ((with_reducible show ED (tVar _) _ _ _); refine ed_var rfl ?_; first | assumption | exact Dn.int _ | exact Dn.bl _)
  | ((with_reducible show CP (tVar _ _) _ _); refine cp_var rfl ?_; assumption)
  | with_reducible apply ed_add | with_reducible apply ed_sub | with_reducible apply ed_mul
  | with_reducible apply ed_lt | with_reducible apply ed_le | with_reducible apply ed_gt | with_reducible apply ed_ge
  | with_reducible apply ed_eq | with_reducible apply ed_ne | with_reducible apply ed_neg | with_reducible apply ed_isN | with_reducible apply ed_notN
  | ((with_reducible apply ed_swide); assumption) | ((with_reducible apply ed_shigh); assumption) | ((with_reducible apply ed_soff); assumption) | ((with_reducible apply ed_spoints); assumption)
  | ((with_reducible apply ed_twide); assumption) | ((with_reducible apply ed_thigh); assumption) | ((with_reducible apply ed_tworth); assumption) | ((with_reducible apply ed_tplace); assumption)
  | ((with_reducible apply cp_stowns); assumption) | ((with_reducible apply cp_dsheet); assumption)
  | with_reducible apply ed_ixT | with_reducible apply ed_ixL | with_reducible exact at_0 | with_reducible exact at_1 | with_reducible exact at_2 | with_reducible exact at_3 | with_reducible exact at_4
  | with_reducible apply ed_tup | with_reducible apply ed_lst | ((with_reducible show List.length _ ≤ 100000); exact Nat.le_of_ble_eq_true rfl)
  | with_reducible exact ea_nil | with_reducible apply ea_cons
  | with_reducible apply et_test | with_reducible apply et_B)
theorem canLay_ms (S : Uw49.Sheet) (q : Dr) : PyData.canLay0 (dMs S q) = true := by
  have h1 : PyData.canLay0 (dNs q.2) = true := by
    have := canLay_ints (q.2.map fun (n : Nat) => (n : Int))
    rw [List.map_map] at this
    exact this
  have h2 : PyData.canLay0 (dNs q.1) = true := by
    have := canLay_ints (q.1.map fun (n : Nat) => (n : Int))
    rw [List.map_map] at this
    exact this
  unfold dMs
  rw [PyData.canLay0, PyData.canLayAll0, PyData.canLayAll0, PyData.canLayAll0, PyData.canLayAll0, PyData.canLayAll0, PyData.canLayAll0, h1, h2]
  rfl
theorem canLay_mss (S : Uw49.Sheet) : ∀ qs : List Dr, PyData.canLayAll0 (qs.map (dMs S)) = true
  | [] => by simp [PyData.canLayAll0]
  | q :: qs => by rw [List.map_cons, PyData.canLayAll0, canLay_ms, canLay_mss S qs]; rfl
theorem shaped_ms (S : Uw49.Sheet) (qs : List Dr) : SeqAt.shaped (.list (qs.map (dMs S))) = true := by
  unfold SeqAt.shaped
  rw [PyData.canLay0, canLay_mss, Bool.true_and]
  refine decide_eq_true ?_
  have := depths_ms S qs
  cases qs with
  | nil => simp [PyData.depth, PyData.depthAll]
  | cons q qs => rw [PyData.depth]; omega
theorem is_ns (l : List Nat) : dIs (l.map fun (n : Nat) => (n : Int)) = dNs l := by
  show PyData.list _ = PyData.list _
  rw [List.map_map]
  rfl
theorem meas_few {S : Uw49.Sheet} {cs ls : List (List Nat)} (ok : MsOk S cs ls) : (measL S cs ls).length ≤ 20000 := by
  unfold measL
  have cf := ok.cf
  refine Nat.le_trans (flat_len _ 625 _ fun c _ => ?_) (by omega)
  rw [List.length_map]
  exact Nat.le_trans (List.length_filter_le _ _) ok.lf
theorem meas_short {S : Uw49.Sheet} (wf : Wf S) {cs ls : List (List Nat)} (ok : MsOk S cs ls) : ∀ q ∈ measL S cs ls, q.1.length ≤ 100 ∧ q.2.length ≤ 100 := fun q hq => by
  obtain ⟨h1, h2, _⟩ := mem_meas.mp hq
  have := wf.t
  have := ok.pl _ h2
  exact ⟨(ok.ch _ h1).len, by omega⟩
section
variable {S : Uw49.Sheet}
theorem goodCh_ok (wf : Wf S) : (∀ c ∈ goodChoices S, ChIn S c) ∧ (goodChoices S).length ≤ 32 := by
  have := wf.p2
  have h := all_few (last := S.points.length - 1) (by omega)
  refine ⟨fun c hc => all_ch wf (List.mem_filter.mp hc).1, ?_⟩
  unfold goodChoices
  exact Nat.le_trans (List.length_filter_le _ _) h
theorem goodPl_ok (wf : Wf S) : (∀ l ∈ goodPlans S, l.length = S.towns.length) ∧ (goodPlans S).length ≤ 625 := ⟨fun l hl => (plans_ok S _ l hl).1, plans_few wf (Nat.le_refl _)⟩
theorem ms_best (wf : Wf S) : MsOk S (goodChoices S) (goodPlans S) := ⟨(goodCh_ok wf).1, (goodPl_ok wf).1, (goodCh_ok wf).2, (goodPl_ok wf).2⟩
theorem ms_along (wf : Wf S) {c : List Nat} (ch : ChIn S c) : MsOk S [c] (goodPlans S) := ⟨fun c' h => List.eq_of_mem_singleton h ▸ ch, (goodPl_ok wf).1, Nat.le_of_ble_eq_true rfl, (goodPl_ok wf).2⟩
theorem ms_round (wf : Wf S) {l : List Nat} (pl : PlanOk S l) : MsOk S (goodChoices S) [l] := ⟨(goodCh_ok wf).1, fun l' h => List.eq_of_mem_singleton h ▸ pl.len, (goodCh_ok wf).2, Nat.le_of_ble_eq_true rfl⟩
variable {a : Ad} {σ : L2.St} {H : Hp} {t1 t2 t3 : TE} {cs ls : List (List Nat)} {q : Dr} {qs : List Dr}
theorem cp_meas (wf : Wf S) (h1 : CP (t1 σ) H (SheetAt a S)) (h2 : ED t2 σ H (dNss cs)) (h3 : ED t3 σ H (dNss ls)) (ok : MsOk S cs ls) : ED (tCall (sp_measures a) [] E0 (tCons t1 (tCons t2 (tCons t3 tNil)))) σ H (.list ((measL S cs ls).map (dMs S))) :=
  cp_call (x := (S, cs, ls)) (ca_cons (mono_sheet S) mono_all h1 (ea_cons h2 (ea_cons h3 ea_nil))) fun vs G _ ⟨x, xs, e, p, q⟩ => by
    obtain ⟨y, z, rfl, q1, q2⟩ := dn2 q
    exact ⟨x, y, z, e, p, wf, q1, q2, ok⟩
theorem cp_told (h : ED t1 σ H (.list ((q :: qs).map (dMs S)))) (hl : qs.length ≤ 40000) (hz : ∀ r ∈ q :: qs, r.1.length ≤ 100 ∧ r.2.length ≤ 100) : ED (tCall (sp_told_best a) [] E0 (tCons t1 tNil)) σ H (dNs (toldB S q qs)) :=
  cp_call (x := (S, q, qs)) (ea_cons h ea_nil) fun vs G _ q => by
    obtain ⟨y, rfl, q1⟩ := dn1 q
    exact ⟨y, rfl, q1, hl, hz⟩
/-- the best of the measures, told -/
theorem cp_best (wf : Wf S) (h : ED t1 σ H (.list ((measL S cs ls).map (dMs S)))) (ok : MsOk S cs ls) (e : measL S cs ls = q :: qs) : ED (tCall (sp_told_best a) [] E0 (tCons t1 tNil)) σ H (dNs (toldB S q qs)) := by
  have h1 := meas_few ok
  have h2 := meas_short wf ok
  rw [e] at h h1 h2
  exact cp_told h (by rw [List.length_cons] at h1; omega) h2
variable {c l : List Nat}
theorem al_bad (h : S.chosen c = false) : outC S (.along c) = [-1] := by simp [outC, Uw49.step, Uw49Neutral.out, Uw49.ok, h]
theorem al_step {i : Nat} (h1 : S.chosen c = true) (h3 : S.badStep c = some i) : outC S (.along c) = [-6, (i : Int)] := by simp [outC, Uw49.step, Uw49Neutral.out, h1, h3]
theorem ro_bad (h : S.told l = false) : outC S (.round l) = [-1] := by simp [outC, Uw49.step, Uw49Neutral.out, Uw49.ok, h]
theorem ro_name {i : Nat} (h2 : S.told l = true) (h4 : S.badName l = some i) : outC S (.round l) = [-7, (i : Int)] := by simp [outC, Uw49.step, Uw49Neutral.out, h2, h4]
theorem ro_clash {x : Nat × Nat} (h2 : S.told l = true) (h4 : S.badName l = none) (h5 : S.clashes l = some x) : outC S (.round l) = [-8, (x.1 : Int), (x.2 : Int)] := by simp [outC, Uw49.step, Uw49Neutral.out, h2, h4, h5]
end
section
variable {P : Program} {w : World} {K : PySem.W.Frag} {mg : Str → Option Value} {base : Heap} {a : Ad}
def sp_Desk_best (a : Ad) : Sp := Pur (fun (x : Uw49.Sheet) vs H => ∃ v, vs = [v] ∧ DeskAt a x v H ∧ Wf x) (fun x v G => Dn G v (dIs (outC x .best)))
theorem len_Desk_best {vs : List V} {H : Hp} {Q : VK} {E : XK} (h : sp_Desk_best a vs H Q E) : vs.length = 1 := by obtain ⟨_, _, _, ⟨_, h, _⟩, _⟩ := h; rw [h]; rfl
theorem ok_Desk_best {f : Addr} {fd : FuncData} (F : Fun K "best" "Desk.best" s_Desk_best f fd) (T : Tx K mg a) (c_told_best : Cal P w K mg base CX0 1 "told_best" ["found"] (sp_told_best a)) (c_measures : Cal P w K mg base CX0 6 "measures" ["sheet", "choices", "plans"] (sp_measures a)) (c_good_plans : Cal P w K mg base CX0 4 "good_plans" ["sheet"] (sp_good_plans a)) (c_good_choices : Cal P w K mg base CX0 5 "good_choices" ["sheet"] (sp_good_choices a)) : FnOk P w K mg base CX0 7 f fd ["self"] (sp_Desk_best a) := by
  refine F.ok sc_Desk_best (fun vs H Q E h => ?_) (fun cdv A outer s H vs Q E hr h => ?_)
  · exact len_Desk_best h
  · refine ⟨_, (pss_one (ps_ret (pe_cal c_told_best (hr.mono (by decide)) rfl pass0 (by exact (pa_cons (pe_cal c_measures (hr.mono (by decide)) rfl pass0 (by exact (pa_cons (pe_fldK (K := K) rfl (pv 0) rfl) (pa_cons (pe_cal c_good_choices (hr.mono (by decide)) rfl pass0 (by exact (pa_cons (pe_fldK (K := K) rfl (pv 0) rfl) pa_nil))) (pa_cons (pe_cal c_good_plans (hr.mono (by decide)) rfl pass0 (by exact (pa_cons (pe_fldK (K := K) rfl (pv 0) rfl) pa_nil))) pa_nil))))) pa_nil))))), ?_⟩
    refine pur_body h fun S H0 hp => ?_
    obtain ⟨v, rfl, hD, wf⟩ := hp
    obtain ⟨q, qs, e1, e2⟩ := best_eq wf
    rw [e2, is_ns]
    exact bk_ret (cp_best wf (cp_meas wf (by repeat' walk_at "ed") (cp_sheet wf (by repeat' walk_at "ed")) (cp_sheet wf (by repeat' walk_at "ed")) (ms_best wf)) (ms_best wf) e1)
def sp_Desk_with_choice (a : Ad) : Sp := PurX a (fun (x : Uw49.Sheet × List Nat) vs H => ∃ v w, vs = [v, w] ∧ DeskAt a x.1 v H ∧ Wf x.1 ∧ Dn H w (dNs x.2) ∧ x.2.length ≤ 100) (fun x v G => Dn G v (dIs (outC x.1 (.along x.2)))) (fun x ns => ns = outC x.1 (.along x.2))
theorem len_Desk_with_choice {vs : List V} {H : Hp} {Q : VK} {E : XK} (h : sp_Desk_with_choice a vs H Q E) : vs.length = 2 := by obtain ⟨_, _, _, ⟨_, _, h, _⟩, _⟩ := h; rw [h]; rfl
theorem ok_Desk_with_choice {f : Addr} {fd : FuncData} (F : Fun K "with_choice" "Desk.with_choice" s_Desk_with_choice f fd) (T : Tx K mg a) (c_Desk_want_choice : MCal P w K mg base (L2.CX P w) 4 a.desk "want_choice" ["self", "choice"] (sp_Desk_want_choice a)) (c_Desk_want_drawn : MCal P w K mg base (L2.CX P w) 5 a.desk "want_drawn" ["self", "choice"] (sp_Desk_want_drawn a)) (c_told_best : Cal P w K mg base CX0 1 "told_best" ["found"] (sp_told_best a)) (c_measures : Cal P w K mg base CX0 6 "measures" ["sheet", "choices", "plans"] (sp_measures a)) (c_good_plans : Cal P w K mg base CX0 4 "good_plans" ["sheet"] (sp_good_plans a)) : FnOk P w K mg base (L2.CX P w) 7 f fd ["self", "choice"] (sp_Desk_with_choice a) := by
  refine F.okX sc_Desk_with_choice (fun vs H Q E h => ?_) (fun cdv A outer s H vs Q E hr h => ?_)
  · exact len_Desk_with_choice h
  · refine ⟨_, (pss_cons (ps_expr (pe_mt c_Desk_want_choice (by exact (pv 0)) (hr.mono (by decide)) (passes_call (takes_of rfl rfl rfl rfl) (fun _ _ _ _ h => h)) (by exact (pa_cons (pv 1) pa_nil)))) (pss_cons (ps_expr (pe_mt c_Desk_want_drawn (by exact (pv 0)) (hr.mono (by decide)) (passes_call (takes_of rfl rfl rfl rfl) (fun _ _ _ _ h => h)) (by exact (pa_cons (pv 1) pa_nil)))) (pss_one (ps_ret (pe_cal c_told_best (hr.mono (by decide)) rfl pass0 (by exact (pa_cons (pe_cal c_measures (hr.mono (by decide)) rfl pass0 (by exact (pa_cons (pe_fldK (K := K) rfl (pv 0) rfl) (pa_cons (pe_lst (pa_cons (pv 1) pa_nil)) (pa_cons (pe_cal c_good_plans (hr.mono (by decide)) rfl pass0 (by exact (pa_cons (pe_fldK (K := K) rfl (pv 0) rfl) pa_nil))) pa_nil))))) pa_nil))))))), ?_⟩
    refine purX_body h fun x H0 hp => ?_
    obtain ⟨S, c⟩ := x
    obtain ⟨v, w, rfl, hD, wf, hw, lc⟩ := hp
    simp only [] at hD wf hw lc
    refine bx_call (cx_dm1 (C := fun _ c => c.length ≤ 100) (by decide +kernel) wf (by walk_at "ed") (by walk_at "ed") lc) (fun ns ⟨h1, h2⟩ => h2.trans (al_bad h1).symm) fun _ G e ⟨h1, _⟩ => ?_
    replace hD := mono_desk _ _ _ _ e hD
    replace hw := hw.mono e
    simp only [] at h1
    have ch := chosen_in wf h1 lc
    refine bx_call (cx_dm1 (C := ChIn) (by decide +kernel) wf (by walk_at "ed") (by walk_at "ed") ch) (fun ns ⟨i, h3, h4⟩ => h4.trans (al_step h1 h3).symm) fun _ G e ⟨h3, _⟩ => ?_
    replace hD := mono_desk _ _ _ _ e hD
    replace hw := hw.mono e
    simp only [] at h3
    obtain ⟨q, qs, e1, e2⟩ := along_eq wf h1 h3
    refine Bk.x (bk_ret (ed_is (cp_best wf (cp_meas (cs := [c]) wf (by repeat' walk_at "ed") (show ED _ _ _ (.list [dNs c]) from by repeat' walk_at "ed") (cp_sheet wf (by repeat' walk_at "ed")) (ms_along wf ch)) (ms_along wf ch) e1) ?_))
    show _ = dIs (outC S (.along c))
    rw [e2, is_ns]
def sp_Desk_with_plan (a : Ad) : Sp := PurX a (fun (x : Uw49.Sheet × List Nat) vs H => ∃ v w, vs = [v, w] ∧ DeskAt a x.1 v H ∧ Wf x.1 ∧ Dn H w (dNs x.2) ∧ x.2.length ≤ 100) (fun x v G => Dn G v (dIs (outC x.1 (.round x.2)))) (fun x ns => ns = outC x.1 (.round x.2))
theorem len_Desk_with_plan {vs : List V} {H : Hp} {Q : VK} {E : XK} (h : sp_Desk_with_plan a vs H Q E) : vs.length = 2 := by obtain ⟨_, _, _, ⟨_, _, h, _⟩, _⟩ := h; rw [h]; rfl
theorem ok_Desk_with_plan {f : Addr} {fd : FuncData} (F : Fun K "with_plan" "Desk.with_plan" s_Desk_with_plan f fd) (T : Tx K mg a) (c_Desk_want_plan : MCal P w K mg base (L2.CX P w) 4 a.desk "want_plan" ["self", "plan"] (sp_Desk_want_plan a)) (c_Desk_want_names : MCal P w K mg base (L2.CX P w) 4 a.desk "want_names" ["self", "plan"] (sp_Desk_want_names a)) (c_measures : Cal P w K mg base CX0 6 "measures" ["sheet", "choices", "plans"] (sp_measures a)) (c_good_choices : Cal P w K mg base CX0 5 "good_choices" ["sheet"] (sp_good_choices a)) (c_want : Cal P w K mg base (L2.CX P w) 3 "want" ["truth", "numbers"] (sp_want a)) (c_told_best : Cal P w K mg base CX0 1 "told_best" ["found"] (sp_told_best a)) : FnOk P w K mg base (L2.CX P w) 7 f fd ["self", "plan"] (sp_Desk_with_plan a) := by
  obtain ⟨t_THROUGH, h_THROUGH⟩ := T.g_THROUGH
  refine F.okX sc_Desk_with_plan (fun vs H Q E h => ?_) (fun cdv A outer s H vs Q E hr h => ?_)
  · exact len_Desk_with_plan h
  · refine ⟨_, (pss_cons (ps_expr (pe_mt c_Desk_want_plan (by exact (pv 0)) (hr.mono (by decide)) (passes_call (takes_of rfl rfl rfl rfl) (fun _ _ _ _ h => h)) (by exact (pa_cons (pv 1) pa_nil)))) (pss_cons (ps_expr (pe_mt c_Desk_want_names (by exact (pv 0)) (hr.mono (by decide)) (passes_call (takes_of rfl rfl rfl rfl) (fun _ _ _ _ h => h)) (by exact (pa_cons (pv 1) pa_nil)))) (pss_cons (ps_set (i := 2) sc_Desk_with_plan.nd rfl (Or.inl rfl) (pe_cal c_measures (hr.mono (by decide)) rfl pass0 (by exact (pa_cons (pe_fldK (K := K) rfl (pv 0) rfl) (pa_cons (pe_cal c_good_choices (hr.mono (by decide)) rfl pass0 (by exact (pa_cons (pe_fldK (K := K) rfl (pv 0) rfl) pa_nil))) (pa_cons (pe_lst (pa_cons (pv 1) pa_nil)) pa_nil)))))) (pss_cons (ps_expr (pe_cal c_want (hr.mono (by decide)) rfl (passes_call (takes_of rfl rfl rfl rfl) (fun _ _ _ _ h => h)) (by exact (pa_cons (pe_cmpR (neDK (K := K) rfl hr.units) (pv 2) (pe_lst pa_nil) (nomark _)) (pa_cons (pe_lst (pa_cons (pe_glob (v := .int (-9)) rfl h_THROUGH ⟨_, rfl⟩) pa_nil)) pa_nil))))) (pss_one (ps_ret (pe_cal c_told_best (hr.mono (by decide)) rfl pass0 (by exact (pa_cons (pv 2) pa_nil))))))))), ?_⟩
    refine purX_body h fun x H0 hp => ?_
    obtain ⟨S, l⟩ := x
    obtain ⟨v, w, rfl, hD, wf, hw, lc⟩ := hp
    simp only [] at hD wf hw lc
    refine bx_call (cx_dm1 (C := fun _ c => c.length ≤ 100) (by decide +kernel) wf (by walk_at "ed") (by walk_at "ed") lc) (fun ns ⟨h1, h2⟩ => h2.trans (ro_bad h1).symm) fun _ G e ⟨h2, _⟩ => ?_
    replace hD := mono_desk _ _ _ _ e hD
    replace hw := hw.mono e
    simp only [] at h2
    have pl := told_plan h2
    refine bx_call (cx_dm1 (C := PlanOk) (by decide +kernel) wf (by walk_at "ed") (by walk_at "ed") pl) (fun ns hx => ?_) fun _ G e ⟨⟨h4, h5⟩, _⟩ => ?_
    · rcases hx with ⟨i, h4, h5⟩ | ⟨h4, q, h5, h6⟩
      · exact h5.trans (ro_name h2 h4).symm
      · exact h6.trans (ro_clash h2 h4 h5).symm
    replace hD := mono_desk _ _ _ _ e hD
    replace hw := hw.mono e
    simp only [] at h4 h5
    obtain ⟨r1, r2⟩ := round_eq wf h2 h4 h5
    refine bx_asg (R := fun v G => Dn G v (.list ((measL S (goodChoices S) [l]).map (dMs S)))) (cp_meas (ls := [l]) wf (by repeat' walk_at "ed") (cp_sheet wf (by repeat' walk_at "ed")) (show ED _ _ _ (.list [dNs l]) from by repeat' walk_at "ed") (ms_round wf pl)) fun f G e hf => ?_
    refine bx_call (cx_want (b := !(measL S (goodChoices S) [l]).isEmpty) (ns := [-9]) (ed_is (ed_neD (by walk_at "ed") (by repeat' walk_at "ed") (shaped_ms _ _) (by rfl)) (by rw [eqv_nil, List.isEmpty_map])) (show ED _ _ _ (.list [.int (-9)]) from by repeat' walk_at "ed")) (fun ns ⟨h1, h2⟩ => h2.trans (r1 (by simpa using h1)).symm) fun _ G e ⟨h1, _⟩ => ?_
    replace hf := hf.mono e
    cases e1 : measL S (goodChoices S) [l] with
    | nil => rw [e1] at h1; cases h1
    | cons q qs =>
      refine Bk.x (bk_ret (ed_is (cp_best wf (by walk_at "ed") (ms_round wf pl) e1) ?_))
      show _ = dIs (outC S (.round l))
      rw [r2 q qs e1, is_ns]
end
end Md

/-! defs that change the desk -/
namespace Md
open PySem PySem.Spec PyProof.Rows L2
open Evl (Ex)
mutual
theorem Dn.kind {H G : Hp} (e1 : ∀ a xs, H a = some (.lst xs) → G a = some (.lst xs)) (e2 : ∀ a xs, H a = some (.tup xs) → G a = some (.tup xs)) : ∀ {d : Dt} {v : V}, Dn H v d → Dn G v d
  | _, _, .non => .non
  | _, _, .bl b => .bl b
  | _, _, .int i => .int i
  | _, _, .lst h q => .lst (e1 _ _ h) (DnAll.kind e1 e2 q)
  | _, _, .tup h q => .tup (e2 _ _ h) (DnAll.kind e1 e2 q)
theorem DnAll.kind {H G : Hp} (e1 : ∀ a xs, H a = some (.lst xs) → G a = some (.lst xs)) (e2 : ∀ a xs, H a = some (.tup xs) → G a = some (.tup xs)) : ∀ {ds : List Dt} {vs : List V}, DnAll H vs ds → DnAll G vs ds
  | _, _, .nil => .nil
  | _, _, .cons h q => .cons (Dn.kind e1 e2 h) (DnAll.kind e1 e2 q)
end
/-- data does not hang on what stands at an instance's place -/
theorem Dn.past {G : Hp} {p C dx : Addr} {fs : List (Str × V)} {o : HO} {v : V} {d : Dt} (hp : G p = some (.ins C dx fs)) (h : Dn G v d) : Dn (upd G p o) v d :=
  h.kind (fun a xs q => by rw [upd_ne (fun z => by rw [z, hp] at q; cases q)]; exact q) (fun a xs q => by rw [upd_ne (fun z => by rw [z, hp] at q; cases q)]; exact q)
/-- a point does not hang on what stands at a list's place -/
theorem Dn.pt {G : Hp} {p : Addr} {xs : List V} {o : HO} {v : V} {x : Int × Int} (hp : G p = some (.lst xs)) (h : Dn G v (dPt x)) : Dn (upd G p o) v (dPt x) := by
  obtain ⟨a, ys, rfl, h1, h2⟩ := dn_tup h
  refine .tup (a := a) (xs := ys) (by rw [upd_ne (fun z => by rw [z, hp] at h1; cases h1)]; exact h1) ?_
  obtain ⟨y1, y2, rfl, q1, q2⟩ := dn2 h2
  rw [dn_int q1, dn_int q2]
  exact .cons (.int _) (.cons (.int _) .nil)
/-! ### the desk, with its places -/
def DeskTl (a : Ad) (S : Uw49.Sheet) (p tl : Addr) (H : Hp) : Prop := ∃ dx sv, H p = some (.ins a.desk dx (kF sv)) ∧ SheetTl a S sv tl H
theorem DeskTl.mono {a : Ad} {S : Uw49.Sheet} {p tl : Addr} {G G' : Hp} (e : Ex G G') : DeskTl a S p tl G → DeskTl a S p tl G' := fun ⟨dx, sv, h1, h2⟩ => ⟨dx, sv, e _ _ h1, h2.mono e⟩
theorem DeskTl.at {a : Ad} {S : Uw49.Sheet} {p tl : Addr} {G : Hp} : DeskTl a S p tl G → DeskAt a S (.ref p) G := fun ⟨dx, sv, h1, h2⟩ => ⟨p, dx, sv, rfl, h1, h2.at⟩
theorem DeskTl.pn {a : Ad} {S : Uw49.Sheet} {p tl : Addr} {G : Hp} (h : DeskTl a S p tl G) : G p ≠ none := by obtain ⟨dx, sv, h1, h2⟩ := h; rw [h1]; simp
theorem DeskTl.tn {a : Ad} {S : Uw49.Sheet} {p tl : Addr} {G : Hp} (h : DeskTl a S p tl G) : G tl ≠ none := by obtain ⟨dx, sv, h1, _, _, _, _, _, _, _, h2, _⟩ := h; rw [h2]; simp
/-! ### extension but for two places -/
structure ExtM (p tl : Addr) (H H1 G H2 : Hp) : Prop where
  hg : ∀ x o, H x = some o → x ≠ p → x ≠ tl → G x = some o
  gb : Ex G H2
  ab : ∀ x o, H1 x = some o → x ≠ p → x ≠ tl → H2 x = some o
  sep : ∀ x, H x = none → H1 x ≠ none → G x = none
section
variable {p tl : Addr} {H H1 G H2 G' H3 : Hp}
theorem Ext.m (x : Ext H H1 G H2) : ExtM p tl H H1 G H2 := ⟨fun y o h _ _ => x.hg y o h, x.gb, fun y o h _ _ => x.ab y o h, x.sep⟩
theorem some_on (e : Ex H1 H2) {y : Addr} (h : H1 y ≠ none) : H2 y ≠ none := fun z => h (Evl.fresh_back e z)
theorem Ext.transM (x : Ext H H1 G H2) (y : ExtM p tl G H2 G' H3) : ExtM p tl H H1 G' H3 := ⟨fun z o h h1 h2 => y.hg z o (x.hg z o h) h1 h2, y.gb, fun z o h h1 h2 => y.ab z o (x.ab z o h) h1 h2, fun z h1 h2 => y.sep z (x.sep z h1 h2) (some_on x.ab h2)⟩
theorem Ext.backM (x : Ext H H1 G H2) (y : ExtM p tl H H2 G' H3) : ExtM p tl H H1 G' H3 := ⟨y.hg, y.gb, fun z o h h1 h2 => y.ab z o (x.ab z o h) h1 h2, fun z h1 h2 => y.sep z h1 (some_on x.ab h2)⟩
end
/-- a block that gives something back, and may change what stands at p and tl, or refuses -/
def BkM (a : Ad) (E : XK) (p tl : Addr) (ts : TS) (σ : L2.St) (H : Hp) (P : V → Hp → Prop) (X : List Int → Prop) : Prop := ∀ H1, Ex H H1 → ∀ D : Ends, (∀ v G H2, ExtM p tl H H1 G H2 → P v G → D.rt v H2) → (∀ ns, X ns → Rf a H H1 E ns) → ts D σ H1
section
variable {a : Ad} {E : XK} {p tl : Addr} {σ : L2.St} {H : Hp} {te : TE} {t u : TS} {tt : TT} {P R : V → Hp → Prop} {M : L2.St → Hp → Prop} {X : List Int → Prop}
theorem bm_of (h : BkX a E t σ H P (fun _ _ => False) X) : BkM a E p tl t σ H P X := fun H1 e D r z => h H1 e D (fun v G H2 x q => r v G H2 x.m q) (fun _ _ _ _ f => f.elim) z
theorem bm_pre (h : BkX a E t σ H (fun _ _ => False) M X) (k : ∀ σ' G, Ex H G → M σ' G → BkM a E p tl u σ' G P X) : BkM a E p tl (tSeq t u) σ H P X := fun H1 e D r z =>
  h H1 e { D with nx := u D } (fun _ _ _ _ f => f.elim) (fun σ' G H2 x m => k σ' G x.hg m H2 x.gb D (fun v G' H3 y q => r v G' H3 (x.transM y) q) fun ns hx => (z ns hx).on x) z
theorem bm_asg {i : Nat} (h : CP (te σ) H R) (k : ∀ v G, Ex H G → R v G → BkM a E p tl u (σ.set i (some v)) G P X) : BkM a E p tl (tSeq (tAsg te (gName i)) u) σ H P X :=
  bm_pre (M := fun σ' G => ∃ v, σ' = σ.set i (some v) ∧ R v G) (Bk.x (bk_asgG h fun v G e q => CP.ret ⟨v, rfl, q⟩)) fun σ' G e ⟨v, h1, h2⟩ => by subst h1; exact k v G e h2
theorem bm_call {X' : List Int → Prop} (h : CPX a E (te σ) H R X') (hx : ∀ ns, X' ns → X ns) (k : ∀ v G, Ex H G → R v G → BkM a E p tl u σ G P X) : BkM a E p tl (tSeq (tDrop te) u) σ H P X :=
  bm_pre (M := fun σ' G => σ' = σ ∧ ∃ v, R v G) (bx_drop (X := X) (fun H1 e Q q z => h H1 e Q q fun ns hn => z ns (hx ns hn)) fun v G e q => ⟨rfl, v, q⟩) fun σ' G e ⟨h1, v, q⟩ => by subst h1; exact k v G e q
theorem bm_when {b : Bool} (h : ET tt σ H b) (h1 : b = true → BkM a E p tl t σ H P X) (h2 : b = false → BkM a E p tl u σ H P X) : BkM a E p tl (tSeq (tIfS tt t tNext) u) σ H P X := fun H1 e D r z => h H1 e _ fun c G H2 x q => by
  subst q
  cases c with
  | true => exact h1 rfl H2 (e.trans x.ab) _ (fun v G' H3 y q => r v G' H3 (x.backM y) q) fun ns hx => (z ns hx).back x
  | false => exact h2 rfl H2 (e.trans x.ab) D (fun v G' H3 y q => r v G' H3 (x.backM y) q) fun ns hx => (z ns hx).back x
end
/-! ### promises -/
def PostC (a : Ad) (S : Uw49.Sheet) (c : Uw49.Call) (p tl : Addr) (H : Hp) : V → Hp → Prop := fun v G => ∃ tl', DeskTl a (Uw49.step S c).1 p tl' G ∧ (tl' = tl ∨ H tl' = none) ∧ Dn G v (dIs (outC S c))
def ExcC (S : Uw49.Sheet) (c : Uw49.Call) (ns : List Int) : Prop := (Uw49.step S c).1 = S ∧ ns = outC S c
/-- a call c of the desk, told by args; it answers as the document says, or refuses with just that -/
def Chg (a : Ad) (args : Uw49.Call → List V → Hp → Prop) : Sp := fun vs H1 Q E => ∃ S c p tl H us, Ex H H1 ∧ vs = .ref p :: us ∧ DeskTl a S p tl H ∧ Wf S ∧ args c us H ∧ (∀ v G H2, ExtM p tl H H1 G H2 → PostC a S c p tl H v G → Q v H2) ∧ ((Uw49.step S c).1 = S → Rf a H H1 E (outC S c))
section
variable {a : Ad} {E : XK} {p tl : Addr} {σ : L2.St} {H : Hp} {te : TE} {t : TS} {S : Uw49.Sheet} {c : Uw49.Call} {args : Uw49.Call → List V → Hp → Prop}
theorem chg_body {vs : List V} {H1 : Hp} {Q : VK} {s0 : L2.St} (h : Chg a args vs H1 Q E) (hb : ∀ S c p tl H us, vs = .ref p :: us → DeskTl a S p tl H → Wf S → args c us H → BkM a E p tl t s0 H (PostC a S c p tl H) (ExcC S c)) : t { nx := fun _ H' => Q .non H', rt := Q } s0 H1 := by
  obtain ⟨S, c, p, tl, H, us, e, hv, hD, wf, ha, k, k2⟩ := h
  exact hb S c p tl H us hv hD wf ha H1 e _ k fun ns hx => by rw [hx.2]; exact k2 hx.1
/-- return self.m(..), m a method that changes the desk -/
theorem bm_retM {m : Str} {ta : TA} {A : List V → Hp → Prop} (hm : (m == ("sheet" : Str)) = false) (hv : σ[0]? = some (some (.ref p))) (hD : DeskTl a S p tl H) (wf : Wf S) (h : CP (ta σ) H A) (hA : ∀ us G, Ex H G → A us G → args c us G) :
    BkM a E p tl (tRet (tMeth a.desk m (Chg a args) [] E (tVar 0) ta)) σ H (PostC a S c p tl H) (ExcC S c) := fun H1 e D r z => by
  obtain ⟨dx, sv, h1, h2⟩ := id hD
  refine ⟨_, hv, p, dx, _, rfl, e _ _ h1, kF_none hm, h H1 e _ fun vs G H2 y q => ?_⟩
  rw [List.append_nil]
  exact ⟨S, c, p, tl, G, vs, y.gb, rfl, hD.mono y.hg, wf, hA vs G y.hg q, fun v G' H3 x ⟨tl', d1, d2, d3⟩ => r v G' H3 (y.transM x) ⟨tl', d1, d2.imp id (fun n => Evl.fresh_back y.hg n), d3⟩, fun hs => (z _ ⟨hs, rfl⟩).on y⟩
/-- return self.m(..), m a method that changes nothing -/
theorem bm_retP (hs : (Uw49.step S c).1 = S) (hD : DeskTl a S p tl H) (h : CPX a E (te σ) H (fun v G => Dn G v (dIs (outC S c))) (fun ns => ns = outC S c)) : BkM a E p tl (tRet te) σ H (PostC a S c p tl H) (ExcC S c) :=
  bm_of (bx_retX (h.imp (fun v G e q => ⟨tl, by rw [hs]; exact hD.mono e, .inl rfl, q⟩) fun ns q => ⟨hs, q⟩))
theorem CP.x {m : Cm V} {P : V → Hp → Prop} {X : List Int → Prop} (h : CP m H P) : CPX a E m H P X := fun H1 e Q q _ => h H1 e Q q
theorem fst_ite {α β : Type} {q : Prop} [Decidable q] {x : α} {y z : β} : (if q then (x, y) else (x, z)).1 = x := by split <;> rfl
theorem st_best : (Uw49.step S .best).1 = S := rfl
theorem st_check {c l : List Nat} : (Uw49.step S (.check c l)).1 = S := fst_ite
theorem st_along {c : List Nat} : (Uw49.step S (.along c)).1 = S := fst_ite
theorem st_round {l : List Nat} : (Uw49.step S (.round l)).1 = S := fst_ite
theorem st_thr {i k j m : Nat} : (Uw49.step S (.through i k j m)).1 = S := fst_ite
end
end Md

namespace Md
open PySem PySem.Spec PyProof.Rows L2
open Evl (Ex)
local macro_rules | `(tactic| walk_at "ed") => `(tactic| first
  | with_reducible exact ed_int | with_reducible exact ed_bl | with_reducible exact ed_non
  | ((with_reducible show ED (tVar _) _ _ _); refine ed_var rfl ?_; first | assumption | exact Dn.int _ | exact Dn.bl _)
  | ((with_reducible show CP (tVar _ _) _ _); refine cp_var rfl ?_; assumption)
  | with_reducible apply ed_add | with_reducible apply ed_sub | with_reducible apply ed_mul
  | with_reducible apply ed_lt | with_reducible apply ed_le | with_reducible apply ed_gt | with_reducible apply ed_ge
  | with_reducible apply ed_eq | with_reducible apply ed_ne | with_reducible apply ed_neg | with_reducible apply ed_isN | with_reducible apply ed_notN
  | ((with_reducible apply ed_swide); assumption) | ((with_reducible apply ed_shigh); assumption) | ((with_reducible apply ed_soff); assumption) | ((with_reducible apply ed_spoints); assumption)
  | ((with_reducible apply ed_twide); assumption) | ((with_reducible apply ed_thigh); assumption) | ((with_reducible apply ed_tworth); assumption) | ((with_reducible apply ed_tplace); assumption)
  | ((with_reducible apply cp_stowns); assumption) | ((with_reducible apply cp_dsheet); assumption)
  | with_reducible apply ed_ixT | with_reducible apply ed_ixL | with_reducible exact at_0 | with_reducible exact at_1 | with_reducible exact at_2 | with_reducible exact at_3 | with_reducible exact at_4
  | with_reducible apply ed_tup | with_reducible apply ed_lst | ((with_reducible show List.length _ ≤ 100000); exact Nat.le_of_ble_eq_true rfl)
  | with_reducible exact ea_nil | with_reducible apply ea_cons
  | with_reducible apply et_test | with_reducible apply et_B)
def flatP (ps : List (Nat × Nat)) : List Nat := ps.flatMap fun q => [q.1, q.2]
theorem flatP_cons (q : Nat × Nat) (ps : List (Nat × Nat)) : flatP (q :: ps) = q.1 :: q.2 :: flatP ps := rfl
theorem flatP_len : ∀ ps : List (Nat × Nat), (flatP ps).length = 2 * ps.length
  | [] => rfl
  | q :: ps => by rw [flatP_cons, List.length_cons, List.length_cons, List.length_cons, flatP_len ps]; omega
theorem evens_cons {α : Type} (x : α) (r : List α) : evens (x :: r) = x :: evens (r.drop 1) := by cases r <;> rfl
theorem evens_fst {β : Type} (f : Nat → β) : ∀ ps : List (Nat × Nat), evens ((flatP ps).map f) = ps.map fun q => f q.1
  | [] => rfl
  | q :: ps => by rw [flatP_cons, List.map_cons, List.map_cons, evens_cons, List.drop_succ_cons, List.drop_zero, evens_fst f ps, List.map_cons]
theorem evens_snd {β : Type} (f : Nat → β) : ∀ ps : List (Nat × Nat), evens (((flatP ps).map f).drop 1) = ps.map fun q => f q.2
  | [] => rfl
  | q :: ps => by rw [flatP_cons, List.map_cons, List.map_cons, List.drop_succ_cons, List.drop_zero, evens_cons, evens_snd f ps, List.map_cons]
theorem zip_pts (ps : List (Nat × Nat)) : (((ps.map fun q => PyData.int (q.1 : Int)).zip (ps.map fun q => PyData.int (q.2 : Int))).map fun z => PyData.tuple [z.1, z.2]) = ps.map fun p => dPt ((p.1 : Int), (p.2 : Int)) := by
  rw [List.zip_map', List.map_map]
  rfl
theorem sheet_m {a : Ad} {S : Uw49.Sheet} : ∀ v G, SheetAt a S v G → ∃ p dx fs, v = .ref p ∧ G p = some (.ins a.sheet dx fs) ∧ fs.lookup ("has" : Str) = none := fun v G ⟨q, dx, pv, tv, h1, h2, h3, h4⟩ => ⟨q, dx, _, h1, h2, sF_has⟩
section
variable {S : Uw49.Sheet} {w h o : Nat} {ps : List (Nat × Nat)} {T : Uw49.Town}
abbrev bgBad (w h o : Nat) (ps : List (Nat × Nat)) : Prop := w < 1 ∨ 60 < w ∨ h < 1 ∨ 60 < h ∨ 10000 < o ∨ ps.length < 2 ∨ 7 < ps.length ∨ (ps.all fun x => decide (x.1 ≤ w) && decide (x.2 ≤ h)) = false
theorem bg_bad (q : bgBad w h o ps) : ExcC S (.begins w h o ps) [-1] := by
  have e : Uw49.step S (.begins w h o ps) = (S, Uw49.ok (-1)) := if_pos q
  unfold ExcC outC
  rw [e]
  exact ⟨rfl, rfl⟩
theorem bg_ok (q : ¬ bgBad w h o ps) : Uw49.step S (.begins w h o ps) = (⟨w, h, o, ps, []⟩, Uw49.ok (ps.length : Nat)) := if_neg q
abbrev twBad (S : Uw49.Sheet) (T : Uw49.Town) : Prop := S.wide < T.x ∨ S.high < T.y ∨ T.wide < 1 ∨ 60 < T.wide ∨ T.high < 1 ∨ 60 < T.high ∨ 1000 < T.worth
theorem tw_bad (q : twBad S T) : ExcC S (.town T) [-1] := by
  have e : Uw49.step S (.town T) = (S, Uw49.ok (-1)) := if_pos q
  unfold ExcC outC
  rw [e]
  exact ⟨rfl, rfl⟩
theorem tw_full (q : ¬ twBad S T) (q2 : 4 ≤ S.towns.length) : ExcC S (.town T) [-5] := by
  have e : Uw49.step S (.town T) = (S, Uw49.ok (-5)) := (if_neg q).trans (if_pos q2)
  unfold ExcC outC
  rw [e]
  exact ⟨rfl, rfl⟩
theorem tw_ok (q : ¬ twBad S T) (q2 : ¬ 4 ≤ S.towns.length) : Uw49.step S (.town T) = ({ S with towns := S.towns ++ [T] }, Uw49.ok (S.towns.length : Nat)) := (if_neg q).trans (if_neg q2)
end
section
variable {a : Ad} {S : Uw49.Sheet} {p tl : Addr} {G : Hp} {T : Uw49.Town} {y v : V} {ts : List V} {o : HO}
theorem SheetTl.past {dx : Addr} {s0 : V} (hp : G p = some (.ins a.desk dx (kF s0))) (h : SheetTl a S v tl G) (hT : S.towns = []) : SheetTl a S v tl (upd G p o) := by
  obtain ⟨q, dx', pv, ts, rfl, h2, h3, h4, h5⟩ := h
  have n1 : q ≠ p := fun z => by
    rw [z, hp] at h2
    have h2' := Option.some.inj h2
    injection h2' with _ _ hf
    exact absurd (show (1 : Nat) = 5 from congrArg List.length hf) (by decide)
  have n2 : tl ≠ p := fun z => by rw [z, hp] at h4; cases h4
  rw [hT] at h5
  cases h5
  refine ⟨q, dx', pv, [], rfl, by rw [upd_ne n1]; exact h2, h3.past hp, by rw [upd_ne n2]; exact h4, ?_⟩
  rw [hT]
  exact .nil
theorem town_past (ht : G tl = some (.lst ts)) (h : TownAt a T v G) : TownAt a T v (upd G tl o) := by
  obtain ⟨q, dx, pv, rfl, h2, h3⟩ := h
  exact ⟨q, dx, pv, rfl, by rw [upd_ne (fun z => by rw [z, ht] at h2; cases h2)]; exact h2, h3.pt ht⟩
theorem pts_past (ht : G tl = some (.lst ts)) : ∀ {ps : List (Nat × Nat)} {xs : List V}, DnAll G xs (ps.map fun p => dPt ((p.1 : Int), (p.2 : Int))) → DnAll (upd G tl o) xs (ps.map fun p => dPt ((p.1 : Int), (p.2 : Int)))
  | [], _, h => by cases h; exact .nil
  | q :: ps, _, h => by
    cases h with
    | cons h1 h2 => exact .cons (h1.pt ht) (pts_past ht h2)
theorem desk_add (hD : DeskTl a S p tl G) (hy : TownAt a T y G) (h0 : S.points ≠ []) (ht : G tl = some (.lst ts)) : DeskTl a { S with towns := S.towns ++ [T] } p tl (upd G tl (.lst (ts ++ [y]))) := by
  obtain ⟨dx, sv, h1, q, dx', pv, ts', rfl, h2, h3, h4, h5⟩ := hD
  obtain rfl : ts' = ts := by rw [ht] at h4; cases h4; rfl
  have n1 : p ≠ tl := fun z => by rw [z, ht] at h1; cases h1
  have n2 : q ≠ tl := fun z => by rw [z, ht] at h2; cases h2
  obtain ⟨pl, xs, rfl, g1, g2⟩ := dn_lst h3
  have n3 : pl ≠ tl := fun z => by
    rw [z, ht] at g1
    cases g1
    obtain ⟨p0, pr, hp⟩ : ∃ p0 pr, S.points = p0 :: pr := by
      cases e : S.points with
      | nil => exact absurd e h0
      | cons x r => exact ⟨x, r, rfl⟩
    rw [hp] at g2
    cases g2 with
    | cons u1 u2 =>
      obtain ⟨t0, _, e0, k0, _⟩ := dn_tup u1
      generalize S.towns = tw at h5
      cases h5 with
      | cons w1 w2 =>
        obtain ⟨q0, _, _, e1, k1, _⟩ := w1
        rw [e0] at e1
        cases e1
        rw [k0] at k1
        cases k1
  refine ⟨dx, .ref q, by rw [upd_ne n1]; exact h1, q, dx', .ref pl, ts' ++ [y], rfl, by rw [upd_ne n2]; exact h2, .lst (by rw [upd_ne n3]; exact g1) (pts_past ht g2), upd_same, ?_⟩
  exact (h5.imp fun b x h => town_past ht h).app (.cons (town_past ht hy) .nil)
variable {σ : L2.St} {H : Hp} {ta : TA} {K : PySem.W.Frag} {mg : Str → Option Value}
theorem cp_mkTown (h : EA ta σ H [dPt ((T.x : Int), (T.y : Int)), .int T.wide, .int T.high, .int T.worth]) : CP (tMake a.town (sp_Town_init a) [] E0 ta σ) H (TownAt a T) := fun H1 e Q k => h H1 e _ fun vs G H2 y hv q dx hq hdx hne => by
  obtain ⟨pv, v2, v3, v4, rfl, q1, q2, q3, q4⟩ := dn4 hv
  rw [dn_int q2, dn_int q3, dn_int q4]
  refine ⟨q, dx, pv, T, rfl, upd_same, fun H' hH' kp => ⟨rfl, ?_⟩⟩
  have x1 := Ext.new y.gb (o := .own q) hdx
  have hq1 : upd H2 dx (.own q) q = none := by rw [upd_ne (Ne.symm hne)]; exact hq
  have x2 := Ext.new x1.gb (o := .ins a.town dx (tF pv T)) hq1
  have x3 := (y.trans x1).trans x2
  have gH : Ex (upd (upd H2 dx (.own q)) q (.ins a.town dx (tF pv T))) H' := fun b u hb => by
    by_cases b1 : b = q
    · subst b1; rw [upd_same] at hb; rw [hH']; exact hb
    · rw [upd_ne b1] at hb
      exact kp b u (by rw [upd_ne b1]; exact hb) b1
  refine k _ _ _ (⟨x3.hg, x3.gb.trans gH, x3.ab.trans gH, x3.sep⟩ : Ext H H1 _ H') ⟨q, dx, pv, rfl, upd_same, q1.mono (x1.trans x2).hg⟩
theorem cp_stl (X : Tx K mg a) (hv : σ[0]? = some (some (.ref p))) (hD : DeskTl a S p tl H) : CP (tFld K (tFld K (tVar 0) "sheet") "towns" σ) H (fun v _ => v = .ref tl) :=
  cp_fld (O := fun v G => SheetTl a S v tl G) X.cS X.nS_towns (cp_fld (O := fun v G => v = .ref p ∧ DeskTl a S p tl G) X.cD X.nD_sheet (fun H1 e Q k => ⟨_, hv, k _ _ _ (Ext.refl e) ⟨rfl, hD⟩⟩) fun v G ⟨e, dx, sv, h1, h2⟩ => ⟨p, dx, _, sv, e, h1, kF_sheet, h2⟩) fun v G ⟨q, dx, pv, ts, h1, h2, h3, h4, h5⟩ => ⟨q, dx, _, _, h1, h2, sF_towns, rfl⟩
end
theorem cp_side {a : Ad} {σ : L2.St} {H : Hp} {t1 : TE} {n : Int} (h1 : ED t1 σ H (.int n)) : ED (tCall (sp_is_side a) [] E0 (tCons t1 tNil)) σ H (.bool (decide (1 ≤ n) && decide (n ≤ 60))) :=
  cp_call (x := n) (ea_cons h1 ea_nil) fun vs G _ q => by
    obtain ⟨y, rfl, q1⟩ := dn1 q
    rw [dn_int q1]
theorem cp_has {a : Ad} {σ : L2.St} {H : Hp} {to t1 : TE} {S : Uw49.Sheet} {q : Int × Int} (ho : CP (to σ) H (SheetAt a S)) (h1 : ED t1 σ H (dPt q)) : ED (tMeth a.sheet "has" (sp_Sheet_has a) [] E0 to (tCons t1 tNil)) σ H (.bool (decide (q.1 ≤ (S.wide : Int)) && decide (q.2 ≤ (S.high : Int)))) :=
  cp_meth (x := (S, q)) (mono_sheet S) mono_all ho sheet_m (ea_cons h1 ea_nil) fun v vs G _ hO z => by
    obtain ⟨y, rfl, z1⟩ := dn1 z
    exact ⟨v, y, rfl, hO, z1⟩
theorem run_ret {te : TE} {σ : L2.St} {H H1 : Hp} {d : Dt} {D : Ends} (e : Ex H H1) (k : ∀ v G H2, Ext H H1 G H2 → Dn G v d → D.rt v H2) (h : ED te σ H d) : tRet te D σ H1 := h H1 e _ k
theorem run_app {a : Ad} {K : PySem.W.Frag} {mg : Str → Option Value} {S : Uw49.Sheet} {T : Uw49.Town} {p tl : Addr} {ts : List V} {te : TE} {u : TS} {σ : L2.St} {H H1 : Hp} {D : Ends} (X : Tx K mg a) (hv : σ[0]? = some (some (.ref p))) (hD : DeskTl a S p tl H) (ht : H tl = some (.lst ts)) (hl : ts.length ≤ 3) (e : Ex H H1) (h : CP (te σ) H (TownAt a T))
    (k : ∀ x G H2, Ext H H1 G H2 → DeskTl a S p tl G → TownAt a T x G → G tl = some (.lst ts) → u D σ (upd H2 tl (.lst (ts ++ [x])))) : tSeq (tDrop (tBM K "list" rAppend (tFld K (tFld K (tVar 0) "sheet") "towns") (tCons te tNil))) u D σ H1 := by
  show (tFld K (tFld K (tVar 0) "sheet") "towns") σ H1 (fun x H2 => tyV K "list" x H2 ∧ (tCons te tNil) σ H2 fun xs H3 => rAppend x xs H3 (fun _ H4 => u D σ H4))
  refine cp_stl X hv hD H1 e _ fun v0 G0 H2 y0 hv0 => ?_
  subst hv0
  refine ⟨Or.inl ⟨rfl, ts, SqL.of (y0.gb _ _ (y0.hg _ _ ht))⟩, ?_⟩
  refine (ca_cons (mono_town (a := a) T) mono_all (h.mono (mono_town T) y0.hg) ea_nil) H2 y0.gb _ fun vs G3 H3 y1 hvs => ?_
  obtain ⟨x, xs, rfl, hx, hnil⟩ := hvs
  cases hnil
  have y := y0.trans y1
  exact ⟨tl, ts, x, rfl, rfl, y1.gb _ _ (y.hg _ _ ht), sz_lt (by omega), k x G3 H3 y (hD.mono y.hg) hx (y.hg _ _ ht)⟩
section
variable {P : Program} {w : World} {K : PySem.W.Frag} {mg : Str → Option Value} {base : Heap} {a : Ad}
def aBegins (c : Uw49.Call) (us : List V) (H : Hp) : Prop := ∃ (w h o : Nat) (ps : List (Nat × Nat)) (rv : V), c = .begins w h o ps ∧ us = [.int (w : Int), .int (h : Int), .int (o : Int), rv] ∧ Dn H rv (dNs (flatP ps)) ∧ ps.length ≤ 100
def sp_Desk_begins (a : Ad) : Sp := Chg a aBegins
theorem len_Desk_begins {vs : List V} {H : Hp} {Q : VK} {E : XK} (h : sp_Desk_begins a vs H Q E) : vs.length = 5 := by obtain ⟨_, _, _, _, _, _, _, h, _, _, ⟨_, _, _, _, _, _, h2, _⟩, _⟩ := h; rw [h, h2]; rfl
theorem ok_Desk_begins {f : Addr} {fd : FuncData} (F : Fun K "begins" "Desk.begins" s_Desk_begins f fd) (T : Tx K mg a) (c_want : Cal P w K mg base (L2.CX P w) 3 "want" ["truth", "numbers"] (sp_want a)) (c_is_side : Cal P w K mg base CX0 1 "is_side" ["number"] (sp_is_side a)) (c_Sheet_init : MkC P w K mg base 1 a.sheet "Sheet" ["self", "wide", "high", "off", "points"] (sp_Sheet_init a)) (c_Sheet_has : MCal P w K mg base CX0 1 a.sheet "has" ["self", "place"] (sp_Sheet_has a)) : FnOk P w K mg base (L2.CX P w) 4 f fd ["self", "wide", "high", "off", "row"] (sp_Desk_begins a) := by
  obtain ⟨t_MOST_OFF, h_MOST_OFF⟩ := T.g_MOST_OFF
  obtain ⟨t_BAD, h_BAD⟩ := T.g_BAD
  obtain ⟨t_FEWEST_POINTS, h_FEWEST_POINTS⟩ := T.g_FEWEST_POINTS
  obtain ⟨t_MOST_POINTS, h_MOST_POINTS⟩ := T.g_MOST_POINTS
  refine F.okX sc_Desk_begins (fun vs H Q E h => ?_) (fun cdv A outer s H vs Q E hr h => ?_)
  · exact len_Desk_begins h
  · refine ⟨_, (pss_cons (ps_expr (pe_cal c_want (hr.mono (by decide)) rfl (passes_call (takes_of rfl rfl rfl rfl) (fun _ _ _ _ h => h)) (by exact (pa_cons (pe_and (pe_cal c_is_side (hr.mono (by decide)) rfl pass0 (by exact (pa_cons (pv 1) pa_nil))) (pe_and (pe_cal c_is_side (hr.mono (by decide)) rfl pass0 (by exact (pa_cons (pv 2) pa_nil))) (pe_one (pe_cmpR op_le (pv 3) (pe_glob (v := .int (10000)) rfl h_MOST_OFF ⟨_, rfl⟩) (nomark _))))) (pa_cons (pe_lst (pa_cons (pe_glob (v := .int (-1)) rfl h_BAD ⟨_, rfl⟩) pa_nil)) pa_nil))))) (pss_cons (ps_expr (pe_cal c_want (hr.mono (by decide)) rfl (passes_call (takes_of rfl rfl rfl rfl) (fun _ _ _ _ h => h)) (by exact (pa_cons (pe_and (pe_cmpR op_le (pe_op op_mul pe_int (pe_glob (v := .int (2)) rfl h_FEWEST_POINTS ⟨_, rfl⟩)) (pe_callB call_len_seq rfl T.b_len PySem.boot_len (pa_cons (pv 4) pa_nil)) (nomark _)) (pe_one (pe_cmpR op_le (pe_callB call_len_seq rfl T.b_len PySem.boot_len (pa_cons (pv 4) pa_nil)) (pe_op op_mul pe_int (pe_glob (v := .int (7)) rfl h_MOST_POINTS ⟨_, rfl⟩)) (nomark _)))) (pa_cons (pe_lst (pa_cons (pe_glob (v := .int (-1)) rfl h_BAD ⟨_, rfl⟩) pa_nil)) pa_nil))))) (pss_cons (ps_set (i := 5) sc_Desk_begins.nd rfl (Or.inl rfl) (pe_listZip rfl rfl T.b_list (by decide +kernel) rfl T.b_zip (pa_cons (pe_step0 (pv 4)) (pa_cons (pe_step1 (pv 4)) pa_nil)))) (pss_cons (ps_set (i := 6) sc_Desk_begins.nd rfl (Or.inr rfl) (pe_mk c_Sheet_init (hr.mono (by decide)) rfl pass0 (pa_cons (pv 1) (pa_cons (pv 2) (pa_cons (pv 3) (pa_cons (pv 5) pa_nil)))))) (pss_cons (ps_expr (pe_cal c_want (hr.mono (by decide)) rfl (passes_call (takes_of rfl rfl rfl rfl) (fun _ _ _ _ h => h)) (by exact (pa_cons (pe_callB (cr_all rfl) rfl T.b_all (by decide +kernel) (pa_cons (pe_lc (own := [("place", 7)]) rfl sc_Desk_begins.nd (pi_list (pv 5)) (blkOk_by (own := [("place", 7)]) (N := ["self", "wide", "high", "off", "row", "points", "sheet", "place"]) (sc := defScope s_Desk_begins) (by decide +kernel)) (by intros; exact (pg_name (i := 7) sc_Desk_begins.nd rfl (Or.inl rfl))) (by intros; exact pts_nil) (by intros; exact (pe_mt c_Sheet_has (by exact (pv 6)) (hr.mono (by decide)) pass0 (by exact (pa_cons (pv 7) pa_nil))))) pa_nil)) (pa_cons (pe_lst (pa_cons (pe_glob (v := .int (-1)) rfl h_BAD ⟨_, rfl⟩) pa_nil)) pa_nil))))) (pss_cons (ps_fld (pv 0) (pv 6) rfl) (pss_one (ps_ret (pe_lst (pa_cons (pe_callB call_len_seq rfl T.b_len PySem.boot_len (pa_cons (pv 5) pa_nil)) pa_nil)))))))))), ?_⟩
    refine chg_body h fun S c p tl H0 us hv hD wf ha => ?_
    obtain ⟨w, hi, o, ps, rv, rfl, rfl, hr, hl⟩ := ha
    subst hv
    have L := flatP_len ps
    have Lr : ∀ {σ : L2.St} {H : Hp} {te : TE}, ED te σ H (dNs (flatP ps)) → ED (tCB (fun xs H Q => ∃ p ys, xs = [.ref p] ∧ (SqL K H p ys ∨ SqT K H p ys) ∧ Q (.int ys.length) H) (tCons te tNil)) σ H (.int ((2 * ps.length : Nat) : Int)) := fun h => ed_is (ed_lenN h) (by rw [L])
    refine bm_call (cx_want (b := (decide (1 ≤ (w : Int)) && decide ((w : Int) ≤ 60)) && ((decide (1 ≤ (hi : Int)) && decide ((hi : Int) ≤ 60)) && decide ((o : Int) ≤ 10000))) (ns := [-1]) (ed_and (cp_side (by walk_at "ed")) fun _ => ed_and (cp_side (by walk_at "ed")) fun _ => ed_le (by walk_at "ed") (by walk_at "ed")) (show ED _ _ _ (.list [.int (-1)]) from by repeat' walk_at "ed")) (fun ns ⟨h1, h2⟩ => by
      rw [h2]
      refine bg_bad ?_
      simp only [Bool.and_eq_false_iff, decide_eq_false_iff_not] at h1
      omega) fun _ G e ⟨h1, _⟩ => ?_
    have eG := e
    replace hD := hD.mono e
    replace hr := hr.mono e
    simp only [Bool.and_eq_true, decide_eq_true_eq] at h1
    refine bm_call (cx_want (b := decide (4 ≤ ((2 * ps.length : Nat) : Int)) && decide (((2 * ps.length : Nat) : Int) ≤ 14)) (ns := [-1]) (ed_and (ed_le (ed_is (ed_mul (by walk_at "ed") (by walk_at "ed") (cm_l (by unfold Sm; omega))) (by rfl)) (Lr (by walk_at "ed"))) fun _ => ed_le (Lr (by walk_at "ed")) (ed_is (ed_mul (by walk_at "ed") (by walk_at "ed") (cm_l (by unfold Sm; omega))) (by rfl))) (show ED _ _ _ (.list [.int (-1)]) from by repeat' walk_at "ed")) (fun ns ⟨h1, h2⟩ => by
      rw [h2]
      refine bg_bad ?_
      simp only [Bool.and_eq_false_iff, decide_eq_false_iff_not] at h1
      omega) fun _ G e ⟨h2, _⟩ => ?_
    replace eG := eG.trans e
    replace hD := hD.mono e
    replace hr := hr.mono e
    simp only [Bool.and_eq_true, decide_eq_true_eq] at h2
    refine bm_asg (R := fun v G => Dn G v (dPts ps)) (ed_is (ed_zip (ea_cons (ed_is (ed_step (lo := 0) (by walk_at "ed") (Nat.zero_le _)) (by rw [List.drop_zero, evens_fst])) (ea_cons (ed_is (ed_step (lo := 1) (by walk_at "ed") (by rw [List.length_map, L]; omega)) (by rw [evens_snd])) ea_nil))) (by rw [zip_pts])) fun pv G e hp => ?_
    replace eG := eG.trans e
    replace hD := hD.mono e
    refine bm_asg (R := fun v G' => ∃ tl', G tl' = none ∧ SheetTl a ⟨w, hi, o, ps, []⟩ v tl' G') (cp_mkSheet (S := ⟨w, hi, o, ps, []⟩) rfl (show EA _ _ _ [.int (w : Int), .int (hi : Int), .int (o : Int), dPts ps] from by repeat' walk_at "ed")) fun sv G2 e hs => ?_
    obtain ⟨tl', hn, hs⟩ := hs
    replace hn := Evl.fresh_back eG hn
    replace hD := hD.mono e
    replace hp := hp.mono e
    have hsa := hs.at
    refine bm_call (cx_want (b := ps.all fun q => decide ((q.1 : Int) ≤ (w : Int)) && decide ((q.2 : Int) ≤ (hi : Int))) (ns := [-1]) (ed_is (ed_all (bs := ps.map fun (q : Nat × Nat) => decide ((q.1 : Int) ≤ (w : Int)) && decide ((q.2 : Int) ≤ (hi : Int))) (ed_is (ed_lc (D := Pp) (items := ps) (fun _ => true) (fun q => .bool (decide ((q.1 : Int) ≤ (w : Int)) && decide ((q.2 : Int) ≤ (hi : Int)))) (src_map (f := fun (p : Nat × Nat) => dPt ((p.1 : Int), (p.2 : Int))) (src_list (by walk_at "ed"))) (by omega) fun q x G3 hq e3 hx => ?_) (congrArg PyData.list (map_bools _ _)))) (by rw [all_id])) (show ED _ _ _ (.list [.int (-1)]) from by repeat' walk_at "ed")) (fun ns ⟨h1, h2⟩ => by
      rw [h2]
      refine bg_bad (.inr (.inr (.inr (.inr (.inr (.inr (.inr ?_)))))))
      simp only [Int.ofNat_le] at h1
      exact h1) fun _ G3 e3 ⟨h3, _⟩ => ?_
    · have hx' : Dn G3 x (dPt ((q.1 : Int), (q.2 : Int))) := hx
      have hs3 := mono_sheet _ _ _ _ e3 hsa
      exact cp_name ⟨rfl, et_yes, fun _ => ed_is (cp_has (S := ⟨w, hi, o, ps, []⟩) (q := ((q.1 : Int), (q.2 : Int))) (by walk_at "ed") (by walk_at "ed")) rfl⟩
    simp only [Int.ofNat_le] at h3
    replace hD := hD.mono e3
    replace hp := hp.mono e3
    replace hs := hs.mono e3
    have hok := bg_ok (S := S) (w := w) (h := hi) (o := o) (ps := ps) (by
      rintro (q | q | q | q | q | q | q | q)
      · omega
      · omega
      · omega
      · omega
      · omega
      · omega
      · omega
      · rw [h3] at q; cases q)
    intro H1 e1 D r z
    obtain ⟨dx, s0, hp0, hS0⟩ := hD
    refine ⟨sv, rfl, .ref p, rfl, p, _, dx, _, rfl, e1 _ _ hp0, T.cD, T.nD_sheet, (by show 1 < 1000; decide), ?_⟩
    rw [show putF ("sheet" : Str) sv (kF s0) = kF sv from put_here]
    have eN : Ex (upd G3 p (.ins a.desk dx (kF sv))) (upd H1 p (.ins a.desk dx (kF sv))) := fun b u hb => by
      by_cases b1 : b = p
      · subst b1; rw [upd_same] at hb ⊢; exact hb
      · rw [upd_ne b1] at hb ⊢; exact e1 b u hb
    have hpN : Dn (upd G3 p (.ins a.desk dx (kF sv))) pv (dPts ps) := hp.past hp0
    dsimp only
    refine run_ret (d := .list [.int (ps.length : Int)]) eN (fun v G4 H4 y q => ?_) (ed_lst (ea_cons (ed_is (ed_len (ds := ps.map fun p => dPt ((p.1 : Int), (p.2 : Int))) (by walk_at "ed")) (by rw [List.length_map])) ea_nil) (Nat.le_of_ble_eq_true rfl))
    refine r v G4 H4 ⟨fun b u hb n1 n2 => y.hg b u (by rw [upd_ne n1]; exact hb), y.gb, fun b u hb n1 n2 => y.ab b u (by rw [upd_ne n1]; exact hb), fun b n1 n2 => ?_⟩ ⟨tl', ?_, .inr hn, ?_⟩
    · have bp : b ≠ p := fun z => by rw [z, hp0] at n1; cases n1
      exact y.sep b (by rw [upd_ne bp]; exact n1) (by rw [upd_ne bp]; exact n2)
    · rw [hok]
      exact DeskTl.mono y.hg ⟨dx, sv, upd_same, hs.past hp0 rfl⟩
    · unfold outC
      rw [hok]
      exact q
def aTown (c : Uw49.Call) (us : List V) (H : Hp) : Prop := ∃ (T : Uw49.Town) (pv : V), c = .town T ∧ us = [pv, .int (T.wide : Int), .int (T.high : Int), .int (T.worth : Int)] ∧ Dn H pv (dPt ((T.x : Int), (T.y : Int)))
def sp_Desk_town (a : Ad) : Sp := Chg a aTown
theorem len_Desk_town {vs : List V} {H : Hp} {Q : VK} {E : XK} (h : sp_Desk_town a vs H Q E) : vs.length = 5 := by obtain ⟨_, _, _, _, _, _, _, h, _, _, ⟨_, _, _, h2, _⟩, _⟩ := h; rw [h, h2]; rfl
theorem ok_Desk_town {f : Addr} {fd : FuncData} (F : Fun K "town" "Desk.town" s_Desk_town f fd) (T : Tx K mg a) (c_want : Cal P w K mg base (L2.CX P w) 3 "want" ["truth", "numbers"] (sp_want a)) (c_Sheet_has : MCal P w K mg base CX0 1 a.sheet "has" ["self", "place"] (sp_Sheet_has a)) (c_is_side : Cal P w K mg base CX0 1 "is_side" ["number"] (sp_is_side a)) (c_Town_init : MkC P w K mg base 1 a.town "Town" ["self", "place", "wide", "high", "worth"] (sp_Town_init a)) : FnOk P w K mg base (L2.CX P w) 4 f fd ["self", "place", "wide", "high", "worth"] (sp_Desk_town a) := by
  obtain ⟨t_MOST_WORTH, h_MOST_WORTH⟩ := T.g_MOST_WORTH
  obtain ⟨t_BAD, h_BAD⟩ := T.g_BAD
  obtain ⟨t_MOST_TOWNS, h_MOST_TOWNS⟩ := T.g_MOST_TOWNS
  obtain ⟨t_FULL, h_FULL⟩ := T.g_FULL
  refine F.okX sc_Desk_town (fun vs H Q E h => ?_) (fun cdv A outer s H vs Q E hr h => ?_)
  · exact len_Desk_town h
  · refine ⟨_, (pss_cons (ps_expr (pe_cal c_want (hr.mono (by decide)) rfl (passes_call (takes_of rfl rfl rfl rfl) (fun _ _ _ _ h => h)) (by exact (pa_cons (pe_and (pe_mt c_Sheet_has (by exact (pe_fldK (K := K) rfl (pv 0) rfl)) (hr.mono (by decide)) pass0 (by exact (pa_cons (pv 1) pa_nil))) (pe_and (pe_cal c_is_side (hr.mono (by decide)) rfl pass0 (by exact (pa_cons (pv 2) pa_nil))) (pe_and (pe_cal c_is_side (hr.mono (by decide)) rfl pass0 (by exact (pa_cons (pv 3) pa_nil))) (pe_one (pe_cmpR op_le (pv 4) (pe_glob (v := .int (1000)) rfl h_MOST_WORTH ⟨_, rfl⟩) (nomark _)))))) (pa_cons (pe_lst (pa_cons (pe_glob (v := .int (-1)) rfl h_BAD ⟨_, rfl⟩) pa_nil)) pa_nil))))) (pss_cons (ps_expr (pe_cal c_want (hr.mono (by decide)) rfl (passes_call (takes_of rfl rfl rfl rfl) (fun _ _ _ _ h => h)) (by exact (pa_cons (pe_cmpR op_lt (pe_callB call_len_seq rfl T.b_len PySem.boot_len (pa_cons (pe_fldK (K := K) rfl (pe_fldK (K := K) rfl (pv 0) rfl) rfl) pa_nil)) (pe_glob (v := .int (4)) rfl h_MOST_TOWNS ⟨_, rfl⟩) (nomark _)) (pa_cons (pe_lst (pa_cons (pe_glob (v := .int (-5)) rfl h_FULL ⟨_, rfl⟩) pa_nil)) pa_nil))))) (pss_cons (ps_expr (pe_bm PySem.F.plainAttrs_list PySem.F.slot_list_append PySem.F.type_list_append mt_append (pe_fldK (K := K) rfl (pe_fldK (K := K) rfl (pv 0) rfl) rfl) (pa_cons (pe_mk c_Town_init (hr.mono (by decide)) rfl pass0 (pa_cons (pv 1) (pa_cons (pv 2) (pa_cons (pv 3) (pa_cons (pv 4) pa_nil))))) pa_nil))) (pss_one (ps_ret (pe_lst (pa_cons (pe_op op_sub (pe_callB call_len_seq rfl T.b_len PySem.boot_len (pa_cons (pe_fldK (K := K) rfl (pe_fldK (K := K) rfl (pv 0) rfl) rfl) pa_nil)) pe_int) pa_nil))))))), ?_⟩
    refine chg_body h fun S c p tl H0 us hv hD wf ha => ?_
    obtain ⟨t, pv, rfl, rfl, hp⟩ := ha
    subst hv
    have hDa := hD.at
    refine bm_call (cx_want (b := (decide ((t.x : Int) ≤ (S.wide : Int)) && decide ((t.y : Int) ≤ (S.high : Int))) && ((decide (1 ≤ (t.wide : Int)) && decide ((t.wide : Int) ≤ 60)) && ((decide (1 ≤ (t.high : Int)) && decide ((t.high : Int) ≤ 60)) && decide ((t.worth : Int) ≤ 1000)))) (ns := [-1]) (ed_and (cp_has (S := S) (q := ((t.x : Int), (t.y : Int))) (by repeat' walk_at "ed") (by walk_at "ed")) fun _ => ed_and (cp_side (by walk_at "ed")) fun _ => ed_and (cp_side (by walk_at "ed")) fun _ => ed_le (by walk_at "ed") (by walk_at "ed")) (show ED _ _ _ (.list [.int (-1)]) from by repeat' walk_at "ed")) (fun ns ⟨h1, h2⟩ => by
      rw [h2]
      refine tw_bad ?_
      simp only [Bool.and_eq_false_iff, decide_eq_false_iff_not] at h1
      omega) fun _ G e ⟨h1, _⟩ => ?_
    replace hD := hD.mono e
    replace hDa := mono_desk _ _ _ _ e hDa
    replace hp := hp.mono e
    simp only [Bool.and_eq_true, decide_eq_true_eq] at h1
    have nb : ¬ twBad S t := by rintro (q | q | q | q | q | q | q) <;> omega
    refine bm_call (cx_want (b := decide ((S.towns.length : Int) < 4)) (ns := [-5]) (ed_lt (ed_lenLs mono_town (by repeat' walk_at "ed")) (by walk_at "ed")) (show ED _ _ _ (.list [.int (-5)]) from by repeat' walk_at "ed")) (fun ns ⟨h1, h2⟩ => by
      rw [h2]
      refine tw_full nb ?_
      simp only [decide_eq_false_iff_not] at h1
      omega) fun _ G e ⟨h2, _⟩ => ?_
    replace hD := hD.mono e
    replace hp := hp.mono e
    simp only [decide_eq_true_eq] at h2
    have hok := tw_ok nb (by omega)
    intro H1 e1 D r z
    obtain ⟨ts, htl⟩ : ∃ ts, G tl = some (.lst ts) := by obtain ⟨_, _, _, _, _, _, ts, _, _, _, h4, _⟩ := hD; exact ⟨ts, h4⟩
    have lts : ts.length ≤ 3 := by
      obtain ⟨_, _, _, _, _, _, ts', _, _, _, h4, h5⟩ := hD
      rw [htl] at h4
      cases h4
      rw [h5.len]
      omega
    refine run_app T rfl hD htl lts e1 (cp_mkTown (T := t) (show EA _ _ _ [dPt ((t.x : Int), (t.y : Int)), .int t.wide, .int t.high, .int t.worth] from by repeat' walk_at "ed")) fun x G3 H3 y01 hD hx htl => ?_
    have hD' := desk_add hD hx (fun z => by have := wf.p1; rw [z] at this; simp at this) htl
    have eN : Ex (upd G3 tl (.lst (ts ++ [x]))) (upd H3 tl (.lst (ts ++ [x]))) := fun b u hb => by
      by_cases b1 : b = tl
      · subst b1; rw [upd_same] at hb ⊢; exact hb
      · rw [upd_ne b1] at hb ⊢; exact y01.gb b u hb
    have hDa' := hD'.at
    refine run_ret (d := .list [.int (S.towns.length : Int)]) eN (fun v G4 H4 y q => ?_) (ed_lst (ea_cons (ed_is (ed_sub (ed_lenLs (mono_town (a := a)) (bs := S.towns ++ [t]) (cp_stowns (S := { S with towns := S.towns ++ [t] }) T (by repeat' walk_at "ed"))) (by walk_at "ed")) (by simp)) ea_nil) (Nat.le_of_ble_eq_true rfl))
    refine r v G4 H4 ⟨fun b u hb n1 n2 => y.hg b u (by rw [upd_ne n2]; exact y01.hg b u hb), y.gb, fun b u hb n1 n2 => y.ab b u (by rw [upd_ne n2]; exact y01.ab b u hb), fun b n1 n2 => ?_⟩ ⟨tl, ?_, .inl rfl, ?_⟩
    · have bp : b ≠ tl := fun z => hD.tn (by rw [← z]; exact y01.sep b n1 n2)
      exact y.sep b (by rw [upd_ne bp]; exact y01.sep b n1 n2) (by rw [upd_ne bp]; exact some_on y01.ab n2)
    · rw [hok]
      exact hD'.mono y.hg
    · unfold outC
      rw [hok]
      exact q
end
end Md

namespace Md
open PySem PySem.Spec PyProof.Rows L2
open Evl (Ex)
local macro_rules | `(tactic| walk_at "ed") => `(tactic| first
  | with_reducible exact ed_int | with_reducible exact ed_bl | with_reducible exact ed_non
  | ((with_reducible show ED (tVar _) _ _ _); refine ed_var rfl ?_; first | assumption | exact Dn.int _ | exact Dn.bl _)
  | ((with_reducible show CP (tVar _ _) _ _); refine cp_var rfl ?_; assumption)
  | with_reducible apply ed_add | with_reducible apply ed_sub | with_reducible apply ed_mul
  | with_reducible apply ed_lt | with_reducible apply ed_le | with_reducible apply ed_gt | with_reducible apply ed_ge
  | with_reducible apply ed_eq | with_reducible apply ed_ne | with_reducible apply ed_neg | with_reducible apply ed_isN | with_reducible apply ed_notN
  | ((with_reducible apply ed_swide); assumption) | ((with_reducible apply ed_shigh); assumption) | ((with_reducible apply ed_soff); assumption) | ((with_reducible apply ed_spoints); assumption)
  | ((with_reducible apply ed_twide); assumption) | ((with_reducible apply ed_thigh); assumption) | ((with_reducible apply ed_tworth); assumption) | ((with_reducible apply ed_tplace); assumption)
  | ((with_reducible apply cp_stowns); assumption) | ((with_reducible apply cp_dsheet); assumption)
  | with_reducible apply ed_ixT | with_reducible apply ed_ixL | with_reducible exact at_0 | with_reducible exact at_1 | with_reducible exact at_2 | with_reducible exact at_3 | with_reducible exact at_4
  | with_reducible apply ed_tup | with_reducible apply ed_lst | ((with_reducible show List.length _ ≤ 100000); exact Nat.le_of_ble_eq_true rfl)
  | with_reducible exact ea_nil | with_reducible apply ea_cons
  | with_reducible apply et_test | with_reducible apply et_B)
/-- a call's number, its numbers, its rows -/
def encC : Uw49.Call → Int × List Nat × List (List Nat)
  | .begins w h o ps => (0, [w, h, o], [flatP ps])
  | .town T => (1, [T.x, T.y, T.wide, T.high, T.worth], [])
  | .best => (2, [], [])
  | .check c l => (3, [], [c, l])
  | .along c => (4, [], [c])
  | .round l => (5, [], [l])
  | .through i k j m => (6, [i, k, j, m], [])
def smallC : Uw49.Call → Prop
  | .begins _ _ _ ps => ps.length ≤ 100
  | .check c l => c.length ≤ 100 ∧ l.length ≤ 100
  | .along c => c.length ≤ 100
  | .round l => l.length ≤ 100
  | _ => True
def aCall (c : Uw49.Call) (us : List V) (H : Hp) : Prop := ∃ nv rv, us = [.int (encC c).1, nv, rv] ∧ Dn H nv (dNs (encC c).2.1) ∧ Dn H rv (dNss (encC c).2.2) ∧ smallC c
def ChgN (a : Ad) (args : Uw49.Call → List V → Hp → Prop) : Sp := fun vs H1 Q _ => ∃ S c p tl H us, Ex H H1 ∧ vs = .ref p :: us ∧ DeskTl a S p tl H ∧ Wf S ∧ args c us H ∧ ∀ v G H2, ExtM p tl H H1 G H2 → PostC a S c p tl H v G → Q v H2
/-- o.m(e, ..) within a try: what it raises is wished for at the slots as they stand -/
def tMethW (C : Addr) (m : Str) (sp : Sp) (E : L2.St → XK) (ta : TE) (t : TA) : TE := fun σ H Q => ta σ H fun x H1 => ∃ b dx fs, x = .ref b ∧ H1 b = some (.ins C dx fs) ∧ fs.lookup m = none ∧ t σ H1 fun vs H2 => sp (x :: vs) H2 Q (E σ)
theorem pe_mtW {X : Cx} {CX : CXT} {k : Nat} {C : Addr} {ps : List Str} {sp : Sp} {E : L2.St → XK} {m : Str} {pos apos : Pos} {e o : Expr} {es : List Expr} {ta : TE} {t : TA} {pl : Sem Bool} (mc : MCal X.prog X.w X.K X.mg X.base CX k C m ps sp) (he : PE X o ta)
    (hr : Room k X.A) (hx : ∀ σ, PassesAt CX X σ (E σ)) (ha : PA X (e :: es) t)
    (hst : starEach (e :: es) X.env = (false, eval e X.env) :: starEach es X.env := by rfl) (hpl : (backTo pos (starEach es X.env)).any (·.1) = false := by rfl)
    (ht : eval (.Call (.Attribute o m apos) (e :: es) [] pos) X.env = (do
      let ov ← eval o X.env
      standAt apos.atName
      let (f, first) ← holding [ov] (getMethod ov m pl)
      callWith pos f first (backTo pos (starEach (e :: es) X.env)) (backToKw pos (keywordEach [] X.env))) := by rfl) :
    PE X (.Call (.Attribute o m apos) (e :: es) [] pos) (tMethW C m sp E ta t) := by
  obtain ⟨f, fd, F, hm, c, hb⟩ := mc
  refine ⟨fun pins s σ H Q I h => ?_⟩
  refine PySem.W.methodCall_KW (pl := pl) (thn (he.run pins s σ H _ I h) fun u s1 ⟨x, H1, I1, rx, b, dx, fs, ex, ea, l, q⟩ => ?_) ht
  subst ex
  obtain rfl : u = Value.ref b := rx
  refine getmeth_ok I1 ea c hm l ?_
  refine PySem.W.callWith_K (first := [.ref b]) (h₀ := X.base) I.ok.mod.kin hm.kp (thn (ha.run pos pins s1 σ H1 _ I1 q) fun us s2 ⟨vs, H2, I2, r, q2⟩ => ⟨I2.kIn, ?_⟩) hst hpl
  exact run_fnS (us := .ref b :: us) (vs := .ref b :: vs) F hr hb (hx σ) I2 (.cons rfl r) q2
section
variable {P : Program} {w : World} {K : PySem.W.Frag} {mg : Str → Option Value} {base : Heap} {a : Ad}
def sp_Desk_called (a : Ad) : Sp := Chg a aCall
theorem len_Desk_called {vs : List V} {H : Hp} {Q : VK} {E : XK} (h : sp_Desk_called a vs H Q E) : vs.length = 4 := by obtain ⟨_, _, _, _, _, _, _, h, _, _, ⟨_, _, h2, _⟩, _⟩ := h; rw [h, h2]; rfl
theorem ok_Desk_called {f : Addr} {fd : FuncData} (F : Fun K "called" "Desk.called" s_Desk_called f fd) (T : Tx K mg a) (c_Desk_begins : MCal P w K mg base (L2.CX P w) 4 a.desk "begins" ["self", "wide", "high", "off", "row"] (sp_Desk_begins a)) (c_Desk_town : MCal P w K mg base (L2.CX P w) 4 a.desk "town" ["self", "place", "wide", "high", "worth"] (sp_Desk_town a)) (c_Desk_best : MCal P w K mg base CX0 7 a.desk "best" ["self"] (sp_Desk_best a)) (c_Desk_check : MCal P w K mg base (L2.CX P w) 6 a.desk "check" ["self", "choice", "plan"] (sp_Desk_check a)) (c_Desk_with_choice : MCal P w K mg base (L2.CX P w) 7 a.desk "with_choice" ["self", "choice"] (sp_Desk_with_choice a)) (c_Desk_with_plan : MCal P w K mg base (L2.CX P w) 7 a.desk "with_plan" ["self", "plan"] (sp_Desk_with_plan a)) (c_Desk_through : MCal P w K mg base (L2.CX P w) 4 a.desk "through" ["self", "begin", "end", "k", "corner"] (sp_Desk_through a)) : FnOk P w K mg base (L2.CX P w) 8 f fd ["self", "call", "n", "rows"] (sp_Desk_called a) := by
  refine F.okX sc_Desk_called (fun vs H Q E h => ?_) (fun cdv A outer s H vs Q E hr h => ?_)
  · exact len_Desk_called h
  · refine ⟨_, (pss_cons (ps_if (pt_cmpR op_eq (pv 1) pe_int (nomark _)) (pss_one (ps_ret (pe_mt c_Desk_begins (by exact (pv 0)) (hr.mono (by decide)) (passes_call (takes_of rfl rfl rfl rfl) (fun _ _ _ _ h => h)) (by exact (pa_cons (pe_ix (ix_listK (K := K) rfl) (pv 2) pe_int (fun _ _ => rfl)) (pa_cons (pe_ix (ix_listK (K := K) rfl) (pv 2) pe_int (fun _ _ => rfl)) (pa_cons (pe_ix (ix_listK (K := K) rfl) (pv 2) pe_int (fun _ _ => rfl)) (pa_cons (pe_ix (ix_listK (K := K) rfl) (pv 3) pe_int (fun _ _ => rfl)) pa_nil)))))))) pss_nil) (pss_cons (ps_if (pt_cmpR op_eq (pv 1) pe_int (nomark _)) (pss_one (ps_ret (pe_mt c_Desk_town (by exact (pv 0)) (hr.mono (by decide)) (passes_call (takes_of rfl rfl rfl rfl) (fun _ _ _ _ h => h)) (by exact (pa_cons (pe_tup (pa_cons (pe_ix (ix_listK (K := K) rfl) (pv 2) pe_int (fun _ _ => rfl)) (pa_cons (pe_ix (ix_listK (K := K) rfl) (pv 2) pe_int (fun _ _ => rfl)) pa_nil))) (pa_cons (pe_ix (ix_listK (K := K) rfl) (pv 2) pe_int (fun _ _ => rfl)) (pa_cons (pe_ix (ix_listK (K := K) rfl) (pv 2) pe_int (fun _ _ => rfl)) (pa_cons (pe_ix (ix_listK (K := K) rfl) (pv 2) pe_int (fun _ _ => rfl)) pa_nil)))))))) pss_nil) (pss_cons (ps_if (pt_cmpR op_eq (pv 1) pe_int (nomark _)) (pss_one (ps_ret (pe_mt0 c_Desk_best (pv 0) (hr.mono (by decide)) pass0))) pss_nil) (pss_cons (ps_if (pt_cmpR op_eq (pv 1) pe_int (nomark _)) (pss_one (ps_ret (pe_mt c_Desk_check (by exact (pv 0)) (hr.mono (by decide)) (passes_call (takes_of rfl rfl rfl rfl) (fun _ _ _ _ h => h)) (by exact (pa_cons (pe_ix (ix_listK (K := K) rfl) (pv 3) pe_int (fun _ _ => rfl)) (pa_cons (pe_ix (ix_listK (K := K) rfl) (pv 3) pe_int (fun _ _ => rfl)) pa_nil)))))) pss_nil) (pss_cons (ps_if (pt_cmpR op_eq (pv 1) pe_int (nomark _)) (pss_one (ps_ret (pe_mt c_Desk_with_choice (by exact (pv 0)) (hr.mono (by decide)) (passes_call (takes_of rfl rfl rfl rfl) (fun _ _ _ _ h => h)) (by exact (pa_cons (pe_ix (ix_listK (K := K) rfl) (pv 3) pe_int (fun _ _ => rfl)) pa_nil))))) pss_nil) (pss_cons (ps_if (pt_cmpR op_eq (pv 1) pe_int (nomark _)) (pss_one (ps_ret (pe_mt c_Desk_with_plan (by exact (pv 0)) (hr.mono (by decide)) (passes_call (takes_of rfl rfl rfl rfl) (fun _ _ _ _ h => h)) (by exact (pa_cons (pe_ix (ix_listK (K := K) rfl) (pv 3) pe_int (fun _ _ => rfl)) pa_nil))))) pss_nil) (pss_one (ps_ret (pe_mt c_Desk_through (by exact (pv 0)) (hr.mono (by decide)) (passes_call (takes_of rfl rfl rfl rfl) (fun _ _ _ _ h => h)) (by exact (pa_cons (pe_ix (ix_listK (K := K) rfl) (pv 2) pe_int (fun _ _ => rfl)) (pa_cons (pe_ix (ix_listK (K := K) rfl) (pv 2) pe_int (fun _ _ => rfl)) (pa_cons (pe_ix (ix_listK (K := K) rfl) (pv 2) pe_int (fun _ _ => rfl)) (pa_cons (pe_ix (ix_listK (K := K) rfl) (pv 2) pe_int (fun _ _ => rfl)) pa_nil)))))))))))))), ?_⟩
    refine chg_body h fun S c p tl H0 us hv hD wf ha => ?_
    obtain ⟨nv, rv, rfl, hn, hr', hs⟩ := ha
    subst hv
    have hDa := hD.at
    cases c with
    | begins w hi o ps =>
      have hn' : Dn H0 nv (.list [.int (w : Int), .int (hi : Int), .int (o : Int)]) := hn
      have hr2 : Dn H0 rv (.list [dNs (flatP ps)]) := hr'
      refine bm_when (b := true) (et_is (a := decide ((0 : Int) = 0)) (by repeat' walk_at "ed") rfl) (fun _ => ?_) (fun z => by cases z)
      refine bm_retM (args := aBegins) (by decide +kernel) rfl hD wf (show EA _ _ _ [.int (w : Int), .int (hi : Int), .int (o : Int), dNs (flatP ps)] from by repeat' walk_at "ed") fun us G _ q => ?_
      obtain ⟨v1, v2, v3, v4, rfl, q1, q2, q3, q4⟩ := dn4 q
      rw [dn_int q1, dn_int q2, dn_int q3]
      exact ⟨w, hi, o, ps, v4, rfl, rfl, q4, hs⟩
    | town t =>
      have hn' : Dn H0 nv (.list [.int (t.x : Int), .int (t.y : Int), .int (t.wide : Int), .int (t.high : Int), .int (t.worth : Int)]) := hn
      refine bm_when (b := false) (et_is (a := decide ((1 : Int) = 0)) (by repeat' walk_at "ed") rfl) (fun z => by cases z) (fun _ => ?_)
      refine bm_when (b := true) (et_is (a := decide ((1 : Int) = 1)) (by repeat' walk_at "ed") rfl) (fun _ => ?_) (fun z => by cases z)
      refine bm_retM (args := aTown) (by decide +kernel) rfl hD wf (show EA _ _ _ [dPt ((t.x : Int), (t.y : Int)), .int (t.wide : Int), .int (t.high : Int), .int (t.worth : Int)] from by repeat' walk_at "ed") fun us G _ q => ?_
      obtain ⟨v1, v2, v3, v4, rfl, q1, q2, q3, q4⟩ := dn4 q
      rw [dn_int q2, dn_int q3, dn_int q4]
      exact ⟨t, v1, rfl, rfl, q1⟩
    | best =>
      refine bm_when (b := false) (et_is (a := decide ((2 : Int) = 0)) (by repeat' walk_at "ed") rfl) (fun z => by cases z) (fun _ => ?_)
      refine bm_when (b := false) (et_is (a := decide ((2 : Int) = 1)) (by repeat' walk_at "ed") rfl) (fun z => by cases z) (fun _ => ?_)
      refine bm_when (b := true) (et_is (a := decide ((2 : Int) = 2)) (by repeat' walk_at "ed") rfl) (fun _ => ?_) (fun z => by cases z)
      exact bm_retP st_best hD (CP.x (cp_meth (x := S) (mono_desk S) mono_all (by walk_at "ed") (desk_m (by decide +kernel)) ea_nil fun v vs G _ hO q => by
        cases q
        exact ⟨v, rfl, hO, wf⟩))
    | check c l =>
      have hr2 : Dn H0 rv (.list [dNs c, dNs l]) := hr'
      refine bm_when (b := false) (et_is (a := decide ((3 : Int) = 0)) (by repeat' walk_at "ed") rfl) (fun z => by cases z) (fun _ => ?_)
      refine bm_when (b := false) (et_is (a := decide ((3 : Int) = 1)) (by repeat' walk_at "ed") rfl) (fun z => by cases z) (fun _ => ?_)
      refine bm_when (b := false) (et_is (a := decide ((3 : Int) = 2)) (by repeat' walk_at "ed") rfl) (fun z => by cases z) (fun _ => ?_)
      refine bm_when (b := true) (et_is (a := decide ((3 : Int) = 3)) (by repeat' walk_at "ed") rfl) (fun _ => ?_) (fun z => by cases z)
      exact bm_retP st_check hD (CPX.imp (cx_meth (x := (S, c, l)) (mono_desk S) mono_all (by walk_at "ed") (desk_m (by decide +kernel)) (show EA _ _ _ [dNs c, dNs l] from by repeat' walk_at "ed") fun v vs G _ hO q => by
        obtain ⟨v1, v2, rfl, q1, q2⟩ := dn2 q
        exact ⟨v, v1, v2, rfl, hO, wf, q1, q2, hs.1, hs.2⟩) (fun v G _ q => q) fun ns q => q)
    | along c =>
      have hr2 : Dn H0 rv (.list [dNs c]) := hr'
      refine bm_when (b := false) (et_is (a := decide ((4 : Int) = 0)) (by repeat' walk_at "ed") rfl) (fun z => by cases z) (fun _ => ?_)
      refine bm_when (b := false) (et_is (a := decide ((4 : Int) = 1)) (by repeat' walk_at "ed") rfl) (fun z => by cases z) (fun _ => ?_)
      refine bm_when (b := false) (et_is (a := decide ((4 : Int) = 2)) (by repeat' walk_at "ed") rfl) (fun z => by cases z) (fun _ => ?_)
      refine bm_when (b := false) (et_is (a := decide ((4 : Int) = 3)) (by repeat' walk_at "ed") rfl) (fun z => by cases z) (fun _ => ?_)
      refine bm_when (b := true) (et_is (a := decide ((4 : Int) = 4)) (by repeat' walk_at "ed") rfl) (fun _ => ?_) (fun z => by cases z)
      exact bm_retP st_along hD (CPX.imp (cx_dm1 (C := fun _ c => c.length ≤ 100) (by decide +kernel) wf (by walk_at "ed") (show ED _ _ _ (dNs c) from by repeat' walk_at "ed") hs) (fun v G _ q => q) fun ns q => q)
    | round l =>
      have hr2 : Dn H0 rv (.list [dNs l]) := hr'
      refine bm_when (b := false) (et_is (a := decide ((5 : Int) = 0)) (by repeat' walk_at "ed") rfl) (fun z => by cases z) (fun _ => ?_)
      refine bm_when (b := false) (et_is (a := decide ((5 : Int) = 1)) (by repeat' walk_at "ed") rfl) (fun z => by cases z) (fun _ => ?_)
      refine bm_when (b := false) (et_is (a := decide ((5 : Int) = 2)) (by repeat' walk_at "ed") rfl) (fun z => by cases z) (fun _ => ?_)
      refine bm_when (b := false) (et_is (a := decide ((5 : Int) = 3)) (by repeat' walk_at "ed") rfl) (fun z => by cases z) (fun _ => ?_)
      refine bm_when (b := false) (et_is (a := decide ((5 : Int) = 4)) (by repeat' walk_at "ed") rfl) (fun z => by cases z) (fun _ => ?_)
      refine bm_when (b := true) (et_is (a := decide ((5 : Int) = 5)) (by repeat' walk_at "ed") rfl) (fun _ => ?_) (fun z => by cases z)
      exact bm_retP st_round hD (CPX.imp (cx_dm1 (C := fun _ c => c.length ≤ 100) (by decide +kernel) wf (by walk_at "ed") (show ED _ _ _ (dNs l) from by repeat' walk_at "ed") hs) (fun v G _ q => q) fun ns q => q)
    | through i k j m =>
      have hn' : Dn H0 nv (.list [.int (i : Int), .int (k : Int), .int (j : Int), .int (m : Int)]) := hn
      refine bm_when (b := false) (et_is (a := decide ((6 : Int) = 0)) (by repeat' walk_at "ed") rfl) (fun z => by cases z) (fun _ => ?_)
      refine bm_when (b := false) (et_is (a := decide ((6 : Int) = 1)) (by repeat' walk_at "ed") rfl) (fun z => by cases z) (fun _ => ?_)
      refine bm_when (b := false) (et_is (a := decide ((6 : Int) = 2)) (by repeat' walk_at "ed") rfl) (fun z => by cases z) (fun _ => ?_)
      refine bm_when (b := false) (et_is (a := decide ((6 : Int) = 3)) (by repeat' walk_at "ed") rfl) (fun z => by cases z) (fun _ => ?_)
      refine bm_when (b := false) (et_is (a := decide ((6 : Int) = 4)) (by repeat' walk_at "ed") rfl) (fun z => by cases z) (fun _ => ?_)
      refine bm_when (b := false) (et_is (a := decide ((6 : Int) = 5)) (by repeat' walk_at "ed") rfl) (fun z => by cases z) (fun _ => ?_)
      exact bm_retP st_thr hD (CPX.imp (cx_meth (x := (S, i, k, j, m)) (mono_desk S) mono_all (by walk_at "ed") (desk_m (by decide +kernel)) (show EA _ _ _ [.int (i : Int), .int (k : Int), .int (j : Int), .int (m : Int)] from by repeat' walk_at "ed") fun v vs G _ hO q => by
        obtain ⟨v1, v2, v3, v4, rfl, q1, q2, q3, q4⟩ := dn4 q
        rw [dn_int q1, dn_int q2, dn_int q3, dn_int q4]
        exact ⟨v, rfl, hO, wf⟩) (fun v G _ q => q) fun ns q => q)
end
end Md

namespace Md
open PySem PySem.Spec PyProof.Rows L2
open Evl (Ex)
local macro_rules | `(tactic| walk_at "ed") => `(tactic| first
  | with_reducible exact ed_int | with_reducible exact ed_bl | with_reducible exact ed_non
  | ((with_reducible show ED (tVar _) _ _ _); refine ed_var rfl ?_; first | assumption | exact Dn.int _ | exact Dn.bl _)
  | ((with_reducible show CP (tVar _ _) _ _); refine cp_var rfl ?_; assumption)
  | with_reducible apply ed_add | with_reducible apply ed_sub | with_reducible apply ed_mul
  | with_reducible apply ed_lt | with_reducible apply ed_le | with_reducible apply ed_gt | with_reducible apply ed_ge
  | with_reducible apply ed_eq | with_reducible apply ed_ne | with_reducible apply ed_neg | with_reducible apply ed_isN | with_reducible apply ed_notN
  | ((with_reducible apply ed_swide); assumption) | ((with_reducible apply ed_shigh); assumption) | ((with_reducible apply ed_soff); assumption) | ((with_reducible apply ed_spoints); assumption)
  | ((with_reducible apply ed_twide); assumption) | ((with_reducible apply ed_thigh); assumption) | ((with_reducible apply ed_tworth); assumption) | ((with_reducible apply ed_tplace); assumption)
  | ((with_reducible apply cp_stowns); assumption) | ((with_reducible apply cp_dsheet); assumption)
  | with_reducible apply ed_ixT | with_reducible apply ed_ixL | with_reducible exact at_0 | with_reducible exact at_1 | with_reducible exact at_2 | with_reducible exact at_3 | with_reducible exact at_4
  | with_reducible apply ed_tup | with_reducible apply ed_lst | ((with_reducible show List.length _ ≤ 100000); exact Nat.le_of_ble_eq_true rfl)
  | with_reducible exact ea_nil | with_reducible apply ea_cons
  | with_reducible apply et_test | with_reducible apply et_B)
/-! reading the calls -/
theorem sq_mono {K : PySem.W.Frag} {H G : Hp} {a : Addr} {xs : List V} (e : Ex H G) (h : SqL K H a xs) : SqL K G a xs := Same.seq e h
section
variable {K : PySem.W.Frag} {σ : L2.St} {H : Hp} {tb : TE} {cl : Addr} {xs : List Int} {k : Nat}
theorem ed_ixS {i n : Int} (hs : SqL K H cl (xs.map V.int)) (hv : σ[k]? = some (some (.ref cl))) (hb : ED tb σ H (.int i)) (h : atI xs i = some n) : ED (tOp (rIxL K) (tVar k) tb) σ H (.int n) :=
  CP.bind2 (k := fun x y => rIxL K x y) (P := fun v G => v = .ref cl) (R := fun v G => Dn G v (.int i)) mono_eq mono_dn (fun H1 e Q q => ⟨_, hv, q _ _ _ (Ext.refl e) rfl⟩) hb fun x y G eG hx hy => by
    subst hx
    rw [dn_int hy]
    refine fun H1 e Q q => ⟨cl, _, i, .int n, rfl, rfl, sq_mono (eG.trans e) hs, ?_, q _ _ _ (Ext.refl e) (.int n)⟩
    unfold atI at h ⊢
    rw [List.length_map]
    cases e : ixN xs.length i with
    | none => rw [e] at h; cases h
    | some k =>
      rw [e] at h
      show (xs.map V.int)[k]? = _
      rw [List.getElem?_map]
      rw [show xs[k]? = some n from h]
      rfl
theorem ed_slS {tl th : TO} {lo hi : Option Int} (hs : SqL K H cl (xs.map V.int)) (hv : σ[k]? = some (some (.ref cl))) (h1 : EO tl σ H lo) (h2 : EO th σ H hi) : ED (tSl (rSlL K) (tVar k) tl th) σ H (.list (cutD (xs.map PyData.int) lo hi)) :=
  CP.bind (k := fun (x : V) (H1 : Hp) (Q : VK) => tl σ H1 fun l H2 => th σ H2 fun u H3 => rSlL K x l u H3 Q) (P := fun v _ => v = .ref cl) (fun H1 e Q q => ⟨_, hv, q _ _ _ (Ext.refl e) rfl⟩) fun x G e hx =>
  CP.bind (k := fun (l : Option Int) (H2 : Hp) (Q : VK) => th σ H2 fun u H3 => rSlL K x l u H3 Q) (h1.mono mono_eq e) fun l G1 e1 hl =>
  CP.bind (k := fun u => rSlL K x l u) (h2.mono mono_eq (e.trans e1)) fun u G2 e2 hu => by
    subst hl hu hx
    refine fun H1 e' Q q => ⟨cl, xs.map V.int, rfl, sq_mono (((e.trans e1).trans e2).trans e') hs, ?_⟩
    exact CP.new (H := G2) (P := fun v G => Dn G v (.list (cutD (xs.map PyData.int) l u))) (fun p G ee hp => .lst hp (cut_dn (ints_dn xs) l u)) H1 e' Q q
theorem ed_lenS (hs : SqL K H cl (xs.map V.int)) (hv : σ[k]? = some (some (.ref cl))) : ED (tCB (fun xs H Q => ∃ p ys, xs = [.ref p] ∧ (SqL K H p ys ∨ SqT K H p ys) ∧ Q (.int ys.length) H) (tCons (tVar k) tNil)) σ H (.int (xs.length : Int)) := fun H1 e Q q =>
  ⟨_, hv, cl, _, rfl, .inl (sq_mono e hs), q _ _ _ (Ext.refl e) (by rw [List.length_map]; exact .int _)⟩
theorem ac_then {t : TS} {p : Addr} {ds : List Dt} {i j : Nat} {N : L2.St → Prop} (h : Ac t σ H p ds fun σ' => ∃ v, σ'[j]? = some (some v) ∧ N (σ'.set i (some v))) : Ac (tSeq t (tAsg (tVar j) (gName i))) σ H p ds N := fun np H1 e acc ha hz D n =>
  h np H1 e acc ha hz { D with nx := tAsg (tVar j) (gName i) D } fun σ' G2 H2 new a1 a2 a3 a4 a5 a6 a7 ⟨v, hv, hN⟩ => ⟨v, hv, n _ G2 H2 new a1 a2 a3 a4 a5 a6 a7 hN⟩
end
/-- a call as it stands in the list -/
def flatR (rows : List (List Nat)) : List Int := rows.flatMap fun r => (r.length : Int) :: r.map fun (n : Nat) => (n : Int)
structure RawAt (xs : List Int) (i : Nat) (c : Uw49.Call) (nx : Nat) : Prop where
  eq : ∃ rest, xs.drop i = (encC c).1 :: (((encC c).2.1.map fun (n : Nat) => (n : Int)) ++ (flatR (encC c).2.2 ++ rest))
  nx : nx = i + 1 + (encC c).2.1.length + (flatR (encC c).2.2).length
theorem tabN (c : Uw49.Call) : atI ([3, 5, 0, 0, 0, 0, 4] : List Int) (encC c).1 = some (((encC c).2.1.length : Nat) : Int) := by cases c <;> rfl
theorem tabR (c : Uw49.Call) : atI ([1, 0, 0, 2, 1, 1, 0] : List Int) (encC c).1 = some (((encC c).2.2.length : Nat) : Int) := by cases c <;> rfl
theorem tabS (c : Uw49.Call) : (encC c).2.2.length ≤ 2 ∧ (encC c).2.1.length ≤ 5 := by cases c <;> exact ⟨Nat.le_of_ble_eq_true rfl, Nat.le_of_ble_eq_true rfl⟩
theorem flatR_app (l m : List (List Nat)) : flatR (l ++ m) = flatR l ++ flatR m := List.flatMap_append
theorem flatR_cons (r : List Nat) (m : List (List Nat)) : flatR (r :: m) = (r.length : Int) :: ((r.map fun (n : Nat) => (n : Int)) ++ flatR m) := rfl
theorem drop_at {α : Type} {xs : List α} {e : Nat} {x : α} {r : List α} (h : xs.drop e = x :: r) : xs[e]? = some x ∧ xs.drop (e + 1) = r := by
  constructor
  · have : (xs.drop e)[0]? = some x := by rw [h]; rfl
    rw [List.getElem?_drop] at this
    exact this
  · rw [← List.drop_drop, h]
    rfl
theorem drop_past {α : Type} {xs l r : List α} {e : Nat} (h : xs.drop e = l ++ r) : xs.drop (e + l.length) = r ∧ (xs.drop e).take l.length = l := by
  constructor
  · rw [← List.drop_drop, h, List.drop_left]
  · rw [h, List.take_left]
theorem raw_row {xs : List Int} {e : Nat} {rows : List (List Nat)} {rest : List Int} (h : xs.drop e = flatR rows ++ rest) {i : Nat} {r : List Nat} (hi : rows[i]? = some r) : ∃ rest', xs.drop (e + (flatR (rows.take i)).length) = (r.length : Int) :: ((r.map fun (n : Nat) => (n : Int)) ++ rest') := by
  have sp : rows = rows.take i ++ r :: rows.drop (i + 1) := by
    obtain ⟨q1, q2⟩ := List.getElem?_eq_some_iff.mp hi
    rw [← q2, List.getElem_cons_drop, List.take_append_drop]
  have h' : xs.drop e = flatR (rows.take i) ++ ((r.length : Int) :: ((r.map fun (n : Nat) => (n : Int)) ++ (flatR (rows.drop (i + 1)) ++ rest))) := by
    have h2 := h
    rw [sp, flatR_app, flatR_cons] at h2
    rw [h2]
    simp
  exact ⟨_, (drop_past h').1⟩
theorem take_snoc {α : Type} {l : List α} {i : Nat} {x : α} (h : l[i]? = some x) : l.take (i + 1) = l.take i ++ [x] := by rw [List.take_add_one, h]; rfl
theorem rows_map (rows : List (List Nat)) : ((List.range rows.length).flatMap fun i => [dNs (rows.getD i [])]) = rows.map dNs := by
  rw [flat_one]
  apply List.ext_getElem?
  intro i
  rw [List.getElem?_map, List.getElem?_map]
  by_cases h : i < rows.length
  · rw [List.getElem?_range h, List.getElem?_eq_getElem h]
    show some (dNs (rows.getD i [])) = some (dNs rows[i])
    rw [List.getD_eq_getElem?_getD, List.getElem?_eq_getElem h]
    rfl
  · rw [List.getElem?_eq_none (by rw [List.length_range]; omega), List.getElem?_eq_none (by omega)]
    rfl
theorem cut_ints {xs : List Int} {e n : Nat} {r : List Nat} {rest : List Int} (h : xs.drop e = (r.map fun (n : Nat) => (n : Int)) ++ rest) (hn : n = r.length) : cutD (xs.map PyData.int) (some (e : Int)) (some ((e + n : Nat) : Int)) = r.map fun (n : Nat) => PyData.int (n : Int) := by
  rw [cut_nat, show e + n - e = n by omega, ← List.map_drop, ← List.map_take, h, hn]
  rw [show r.length = (r.map fun (n : Nat) => (n : Int)).length by rw [List.length_map], List.take_left, List.map_map]
  rfl
section
variable {P : Program} {w : World} {K : PySem.W.Frag} {mg : Str → Option Value} {base : Heap} {a : Ad}
def sp_Desk_answer (a : Ad) : Sp := ChgN a aCall
theorem len_Desk_answer {vs : List V} {H : Hp} {Q : VK} {E : XK} (h : sp_Desk_answer a vs H Q E) : vs.length = 4 := by obtain ⟨_, _, _, _, _, _, _, h, _, _, ⟨_, _, h2, _⟩, _⟩ := h; rw [h, h2]; rfl
theorem ok_Desk_answer {f : Addr} {fd : FuncData} (F : Fun K "answer" "Desk.answer" s_Desk_answer f fd) (T : Tx K mg a) (c_Desk_called : MCal P w K mg base (L2.CX P w) 8 a.desk "called" ["self", "call", "n", "rows"] (sp_Desk_called a)) : FnOk P w K mg base CX0 9 f fd ["self", "call", "n", "rows"] (sp_Desk_answer a) := by
  refine F.ok sc_Desk_answer (fun vs H Q E h => ?_) (fun cdv A outer s H vs Q E hr h => ?_)
  · exact len_Desk_answer h
  · refine ⟨_, (pss_one (ps_try_as (i := 4) (tb := fun W => tRet (tMethW a.desk "called" (sp_Desk_called a) (WE W) (tVar 0) (tCons (tVar 1) (tCons (tVar 2) (tCons (tVar 3) tNil))))) (ts := fun a0 cls d => tRet (tXf a0 cls d a.ref "numbers" (tVar 4))) (Wout := fun _ _ _ _ => False) rfl rfl sc_Desk_answer.nd rfl rfl ⟨rfl, by decide, Or.inl T.gR⟩ takes0 (fun W pn xe tk _ => pss_one (ps_ret (by exact (pe_mtW c_Desk_called (pv 0) (hr.mono (by decide)) (fun σ => passAt tk σ) (by exact (pa_cons (pv 1) (pa_cons (pv 2) (pa_cons (pv 3) pa_nil)))))))) (fun a0 oe cls d pn hz hf => pss_one (ps_ret (by exact (pe_xf T.xf T.noNum hz hf (pv 4))))))), ?_⟩
    obtain ⟨S, c, p, tl, H0, us, e, rfl, hD, wf, ha, k⟩ := h
    obtain ⟨nv, rv, rfl, hn, hr', hs⟩ := ha
    obtain ⟨dx, sv, h1, h2⟩ := id hD
    refine ⟨.ref p, rfl, p, dx, _, rfl, e _ _ h1, kF_none (by decide +kernel), _, rfl, _, rfl, _, rfl, ?_⟩
    refine ⟨S, c, p, tl, H0, _, e, rfl, hD, wf, ⟨nv, rv, rfl, hn, hr', hs⟩, k, fun hst d l G H2 x g1 g2 => ?_⟩
    refine ⟨true, T.te, fun _ a0 ha0 => ?_, fun q => Bool.noConfusion q⟩
    refine ⟨.ref a0, rfl, rfl, rfl, d, _, .ref l, rfl, x.gb _ _ g1, lk_here, ?_⟩
    exact k _ G H2 x.m ⟨tl, by rw [hst]; exact hD.mono x.hg, .inl rfl, .lst g2 (ints_dn _)⟩
def sp_read_call (K : PySem.W.Frag) (_ : Ad) : Sp := Pur (fun (x : List Int × Nat × Uw49.Call × Nat) vs H => ∃ cl, vs = [.ref cl, .int (x.2.1 : Int)] ∧ SqL K H cl (x.1.map V.int) ∧ RawAt x.1 x.2.1 x.2.2.1 x.2.2.2) fun x v G => Dn G v (.tuple [.int (encC x.2.2.1).1, dNs (encC x.2.2.1).2.1, dNss (encC x.2.2.1).2.2, .int (x.2.2.2 : Int)])
theorem len_read_call {vs : List V} {H : Hp} {Q : VK} {E : XK} (h : sp_read_call K a vs H Q E) : vs.length = 2 := by obtain ⟨_, _, _, ⟨_, h, _⟩, _⟩ := h; rw [h]; rfl
theorem ok_read_call {f : Addr} {fd : FuncData} (F : Fun K "read_call" "read_call" s_read_call f fd) (T : Tx K mg a)  : FnOk P w K mg base CX0 1 f fd ["calls", "at"] (sp_read_call K a) := by
  refine F.ok sc_read_call (fun vs H Q E h => ?_) (fun cdv A outer s H vs Q E hr h => ?_)
  · exact len_read_call h
  · refine ⟨_, (pss_cons (ps_set (i := 2) sc_read_call.nd rfl (Or.inl rfl) (pe_ix (ix_listK (K := K) rfl) (pv 0) (pv 1) (fun _ _ => rfl))) (pss_cons (ps_set (i := 3) sc_read_call.nd rfl (Or.inl rfl) (pe_op op_add (pe_op op_add (pv 1) pe_int) (pe_ix (ix_tupK (K := K) rfl) (pe_glob (v := .ref a.nums) rfl T.g_NUMBERS rfl) (pv 2) (fun _ _ => rfl)))) (pss_cons (ps_set (i := 4) sc_read_call.nd rfl (Or.inl rfl) (pe_slice (sl_listK (K := K) rfl) (pv 0) (po_some (pe_op op_add (pv 1) pe_int)) (po_some (pv 3)))) (pss_cons (ps_set (i := 5) sc_read_call.nd rfl (Or.inl rfl) (pe_lst pa_nil)) (pss_cons (ps_for PassesOwn.never rfl (pi_range1 rfl T.b_range (pa_cons (pe_ix (ix_tupK (K := K) rfl) (pe_glob (v := .ref a.rows) rfl T.g_ROWS rfl) (pv 2) (fun _ _ => rfl)) pa_nil)) (pg_name (i := 6) sc_read_call.nd rfl (Or.inl rfl)) (pss_cons (ps_set (i := 7) sc_read_call.nd rfl (Or.inl rfl) (pe_op op_add (pe_op op_add (pv 3) pe_int) (pe_ix (ix_listK (K := K) rfl) (pv 0) (pv 3) (fun _ _ => rfl)))) (pss_cons (ps_expr (pe_bm PySem.F.plainAttrs_list PySem.F.slot_list_append PySem.F.type_list_append mt_append (pv 5) (pa_cons (pe_slice (sl_listK (K := K) rfl) (pv 0) (po_some (pe_op op_add (pv 3) pe_int)) (po_some (pv 7))) pa_nil))) (pss_one (ps_set (i := 3) sc_read_call.nd rfl (Or.inl rfl) (pv 7)))))) (pss_one (ps_ret (pe_tup (pa_cons (pv 2) (pa_cons (pv 4) (pa_cons (pv 5) (pa_cons (pv 3) pa_nil)))))))))))), ?_⟩
    refine pur_body h fun x H0 hp => ?_
    obtain ⟨xs, i, c, nx⟩ := x
    obtain ⟨cl, rfl, hs, raw⟩ := hp
    dsimp only at hs raw ⊢
    obtain ⟨⟨rest, he⟩, hnx⟩ := raw
    obtain ⟨g0, g1⟩ := drop_at he
    obtain ⟨t2, t5⟩ := tabS c
    generalize hk : (encC c).1 = kk at *
    have tN := tabN c
    have tR := tabR c
    rw [hk] at tN tR
    generalize hns : (encC c).2.1 = ns at *
    generalize hrs : (encC c).2.2 = rows at *
    have hw : (ns.map fun (n : Nat) => (n : Int)).length = ns.length := List.length_map ..
    obtain ⟨g2, g3⟩ := drop_past g1
    rw [hw] at g2
    refine bk_asgI (n := kk) (ed_ixS hs rfl (by walk_at "ed") (atI_nat g0)) ?_
    refine bk_asgI (n := ((i + 1 + ns.length : Nat) : Int)) (ed_is (ed_add (ed_add (by walk_at "ed") (by walk_at "ed")) (ed_ixW T.wN (fun H1 e Q q => q _ _ _ (Ext.refl e) rfl) (by walk_at "ed") tN)) (by congr 1)) ?_
    refine bk_asg (R := fun v G => Dn G v (dNs ns)) (ed_is (ed_slS (lo := some ((i + 1 : Nat) : Int)) (hi := some ((i + 1 + ns.length : Nat) : Int)) hs rfl (eo_some (ed_is (ed_add (by walk_at "ed") (by walk_at "ed")) (by congr 1))) (eo_some (by walk_at "ed"))) (by rw [cut_ints g1 rfl])) fun nv G e hn => ?_
    replace hs := sq_mono e hs
    refine bk_build (k := 5) (D := Nt) (items := List.range rows.length) (fun j => [dNs (rows.getD j [])]) (fun p => src_range (show EA _ _ _ [.int (rows.length : Int)] from ea_cons (ed_ixW T.wR (fun H1 e Q q => q _ _ _ (Ext.refl e) rfl) (by walk_at "ed") tR) ea_nil) (by omega)) (by rw [rows_map, List.length_map]; omega) (fun p j σ' => ∃ x6 x7, σ' = [some (.ref cl), some (.int (i : Int)), some (.int kk), some (.int ((i + 1 + ns.length + (flatR (rows.take j)).length : Nat) : Int)), some nv, some (.ref p), x6, x7]) (fun p => ⟨none, none, rfl⟩) (fun p j b x G1 σ' hb e1 hx hJ => ?_) (fun p σ' G1 e1 hp hJ => ?_)
    · obtain ⟨x6, x7, rfl⟩ := hJ
      have hj : j < rows.length := by have := (List.getElem?_eq_some_iff.mp hb).1; rwa [List.length_range] at this
      obtain rfl : j = b := by rw [List.getElem?_range hj] at hb; exact Option.some.inj hb
      obtain ⟨r, hr2⟩ : ∃ r, rows[j]? = some r := ⟨_, List.getElem?_eq_getElem hj⟩
      have hd : rows.getD j [] = r := by rw [List.getD_eq_getElem?_getD, hr2]; rfl
      obtain ⟨rest', h3⟩ := raw_row g2 hr2
      obtain ⟨k1, k2⟩ := drop_at h3
      have hs1 := sq_mono e1 hs
      obtain rfl := hx
      generalize hE : i + 1 + ns.length + (flatR (rows.take j)).length = E0' at *
      refine cp_name (ac_asg (R := fun v G => v = .int ((E0' + 1 + r.length : Nat) : Int)) (CP.imp (show ED _ _ _ (.int ((E0' + 1 + r.length : Nat) : Int)) from ed_is (ed_add (ed_add (by walk_at "ed") (by walk_at "ed")) (ed_ixS hs1 rfl (by walk_at "ed") (atI_nat k1))) (by congr 1)) fun v G _ q => dn_int q) fun v G2 e2 hv => ?_)
      subst hv
      have hs2 := sq_mono e2 hs1
      rw [hd]
      refine ac_then (ac_app rfl (ed_is (ed_slS (lo := some ((E0' + 1 : Nat) : Int)) (hi := some ((E0' + 1 + r.length : Nat) : Int)) hs2 rfl (eo_some (ed_is (ed_add (by walk_at "ed") (by walk_at "ed")) (by congr 1))) (eo_some (by walk_at "ed"))) (by rw [cut_ints k2 rfl])) ⟨_, rfl, some (.int (j : Int)), some (.int ((E0' + 1 + r.length : Nat) : Int)), ?_⟩)
      have : i + 1 + ns.length + (flatR (rows.take (j + 1))).length = E0' + 1 + r.length := by
        rw [take_snoc hr2, flatR_app, List.length_append, ← hE, flatR_cons]
        simp [flatR]
        omega
      rw [this]
      rfl
    · obtain ⟨x6, x7, rfl⟩ := hJ
      rw [rows_map] at hp
      replace hn := hn.mono e1
      refine bk_ret (ed_tup (ea_cons (by walk_at "ed") (ea_cons (by walk_at "ed") (ea_cons (by walk_at "ed") (ea_cons (ed_is (d1 := .int _) (by walk_at "ed") ?_) ea_nil)))) (Nat.le_of_ble_eq_true rfl))
      rw [List.length_range, List.take_length, hnx]
end
end Md

/-! the calls of the document, as they stand in the list -/
namespace Md
open PySem PySem.Spec PyProof.Rows L2
/-- what is answered to calls, one behind another -/
def runC : Uw49.Sheet → List Uw49.Call → List Int
  | _, [] => []
  | S, c :: cs => ((outC S c).length : Int) :: (outC S c ++ runC (Uw49.step S c).1 cs)
inductive Parse : List Int → List Uw49.Call → Prop
  | nil : Parse [] []
  | cons {l t : List Int} {c : Uw49.Call} {cs : List Uw49.Call} : l = (encC c).1 :: (((encC c).2.1.map fun (n : Nat) => (n : Int)) ++ (flatR (encC c).2.2 ++ t)) → smallC c → Parse t cs → Parse l (c :: cs)
def flatI (rows : List (List Int)) : List Int := rows.flatMap fun r => (r.length : Int) :: r
theorem row_spec {l x s : List Int} (h : PyFlat.row l = some (x, s)) : l = (x.length : Int) :: (x ++ s) := by
  cases l with
  | nil => cases h
  | cons n r =>
    unfold PyFlat.row at h
    simp only [] at h
    by_cases c : 0 ≤ n ∧ n.toNat ≤ r.length
    · rw [if_pos c] at h
      obtain ⟨rfl, rfl⟩ : r.take n.toNat = x ∧ r.drop n.toNat = s := by simpa using h
      rw [List.take_append_drop, List.length_take, Nat.min_eq_left c.2, Int.toNat_of_nonneg c.1]
    · rw [if_neg c] at h; cases h
theorem rows_spec : ∀ {k : Nat} {l t : List Int} {xs : List (List Int)}, PyFlat.rows k l = some (xs, t) → xs.length = k ∧ l = flatI xs ++ t
  | 0, l, t, xs, h => by
    unfold PyFlat.rows at h
    obtain ⟨rfl, rfl⟩ : [] = xs ∧ l = t := by simpa using h
    exact ⟨rfl, rfl⟩
  | k + 1, l, t, xs, h => by
    unfold PyFlat.rows at h
    cases h1 : PyFlat.row l with
    | none => rw [h1] at h; cases h
    | some y =>
      obtain ⟨x, s⟩ := y
      rw [h1] at h
      simp only [] at h
      cases h2 : PyFlat.rows k s with
      | none => rw [h2] at h; cases h
      | some z =>
        obtain ⟨ys, u⟩ := z
        rw [h2] at h
        obtain ⟨rfl, rfl⟩ : x :: ys = xs ∧ u = t := by simpa using h
        obtain ⟨i1, i2⟩ := rows_spec h2
        refine ⟨by rw [List.length_cons, i1], ?_⟩
        rw [row_spec h1, i2]
        unfold flatI
        rw [List.flatMap_cons]
        simp
theorem call_spec {l t : List Int} {rc : List (List Int)} (h : PyFlat.call PyUw49.shape l = some (rc, t)) : ∃ p nums rows n k, PyUw49.shape p = some (n, k) ∧ rc = (p :: nums) :: rows ∧ nums.length = n ∧ rows.length = k ∧ l = p :: (nums ++ (flatI rows ++ t)) := by
  cases l with
  | nil => cases h
  | cons p r =>
    unfold PyFlat.call at h
    simp only [] at h
    cases h1 : PyUw49.shape p with
    | none => rw [h1] at h; cases h
    | some y =>
      obtain ⟨n, k⟩ := y
      rw [h1] at h
      simp only [] at h
      by_cases c : r.length < n
      · rw [if_pos c] at h; cases h
      · rw [if_neg c] at h
        cases h2 : PyFlat.rows k (r.drop n) with
        | none => rw [h2] at h; cases h
        | some z =>
          obtain ⟨ys, u⟩ := z
          rw [h2] at h
          obtain ⟨rfl, rfl⟩ : (p :: r.take n) :: ys = rc ∧ u = t := by simpa using h
          obtain ⟨i1, i2⟩ := rows_spec h2
          refine ⟨p, r.take n, ys, n, k, h1, rfl, by rw [List.length_take]; omega, i1, ?_⟩
          rw [← i2, List.take_append_drop]
abbrev cst (l : List Nat) : List Int := l.map fun (n : Nat) => (n : Int)
theorem nat_back : ∀ {l : List Int}, l.all Uw49Neutral.nat = true → cst (l.map Int.toNat) = l
  | [], _ => rfl
  | x :: l, h => by
    rw [List.all_cons, Bool.and_eq_true] at h
    have hx : 0 ≤ x := by
      have := h.1
      unfold Uw49Neutral.nat at this
      rw [Bool.and_eq_true, decide_eq_true_eq] at this
      exact this.1
    show ((x.toNat : Nat) : Int) :: cst (l.map Int.toNat) = x :: l
    rw [nat_back h.2, Int.toNat_of_nonneg hx]
theorem pairs_flat : ∀ {r : List Nat} {ps : List (Nat × Nat)}, Uw49Neutral.pairsIn r = some ps → flatP ps = r
  | [], ps, h => by
    unfold Uw49Neutral.pairsIn at h
    obtain rfl : [] = ps := by simpa using h
    rfl
  | [x], ps, h => by
    unfold Uw49Neutral.pairsIn at h
    cases h
  | x :: y :: r, ps, h => by
    unfold Uw49Neutral.pairsIn at h
    cases h1 : Uw49Neutral.pairsIn r with
    | none => rw [h1] at h; cases h
    | some qs =>
      rw [h1] at h
      obtain rfl : (x, y) :: qs = ps := by simpa using h
      rw [flatP_cons, pairs_flat h1]
theorem call_of {l : List Int} {c : Uw49.Call} (h : Uw49Neutral.callOf l = some c) : l.all Uw49Neutral.nat = true ∧ Uw49Neutral.callIn (l.map Int.toNat) = some c := by
  unfold Uw49Neutral.callOf at h
  cases e : l.all Uw49Neutral.nat with
  | false => rw [e, if_pos rfl] at h; cases h
  | true => rw [e] at h; exact ⟨rfl, by simpa using h⟩
/-- the call c is told by p, nums, rows -/
def Tells (c : Uw49.Call) (p : Int) (nums : List Int) (rows : List (List Int)) : Prop := (encC c).1 = p ∧ cst (encC c).2.1 = nums ∧ flatR (encC c).2.2 = flatI rows ∧ smallC c
theorem flat1 {r : List Nat} {r0 : List Int} (h : cst r = r0) : flatR [r] = flatI [r0] := by
  subst h
  unfold flatR flatI
  simp
theorem flat2 {r q : List Nat} {r0 q0 : List Int} (h : cst r = r0) (h2 : cst q = q0) : flatR [r, q] = flatI [r0, q0] := by
  subst h
  subst h2
  unfold flatR flatI
  simp
theorem len_two {α : Type} : ∀ {l : List α}, l.length = 2 → ∃ x y, l = [x, y]
  | [x, y], _ => ⟨x, y, rfl⟩
theorem tells {p : Int} {nums : List Int} {rows : List (List Int)} {n k : Nat} {c : Uw49.Call} (hs : PyUw49.shape p = some (n, k)) (hn : nums.length = n) (hk : rows.length = k) (hc : Uw49Neutral.callOf ((PyUw49.whole ((p :: nums) :: rows)).headD []) = some c) : Tells c p nums rows := by
  unfold PyUw49.shape at hs
  by_cases c0 : p = 0
  · subst c0
    rw [if_pos rfl] at hs
    obtain ⟨rfl, rfl⟩ : 3 = n ∧ 1 = k := by simpa using hs
    match nums, hn, rows, hk, hc with
    | [x0, x1, x2], _, [r0], _, hc =>
      obtain ⟨h1, h2⟩ := call_of hc
      have b := nat_back h1
      have h2' : Uw49Neutral.callIn (0 :: x0.toNat :: x1.toNat :: x2.toNat :: r0.map Int.toNat) = some c := h2
      have b' : cst (0 :: x0.toNat :: x1.toNat :: x2.toNat :: r0.map Int.toNat) = 0 :: x0 :: x1 :: x2 :: r0 := b
      simp only [cst, List.map_cons, List.cons.injEq] at b'
      rw [Uw49Neutral.callIn] at h2'
      by_cases c1 : (r0.map Int.toNat).length ≤ 24
      · rw [if_pos c1] at h2'
        cases h3 : Uw49Neutral.pairsIn (r0.map Int.toNat) with
        | none => rw [h3] at h2'; cases h2'
        | some ps =>
          rw [h3] at h2'
          obtain rfl : Uw49.Call.begins x0.toNat x1.toNat x2.toNat ps = c := by simpa using h2'
          have e := pairs_flat h3
          have L := flatP_len ps
          refine ⟨rfl, ?_, flat1 (r := flatP ps) (by rw [e]; exact b'.2.2.2.2), ?_⟩
          · show [((x0.toNat : Nat) : Int), ((x1.toNat : Nat) : Int), ((x2.toNat : Nat) : Int)] = [x0, x1, x2]
            rw [b'.2.1, b'.2.2.1, b'.2.2.2.1]
          · show ps.length ≤ 100
            rw [e] at L
            omega
      · rw [if_neg c1] at h2'; cases h2'
  rw [if_neg c0] at hs
  by_cases c1 : p = 1
  · subst c1
    rw [if_pos rfl] at hs
    obtain ⟨rfl, rfl⟩ : 5 = n ∧ 0 = k := by simpa using hs
    match nums, hn, rows, hk, hc with
    | [x0, x1, x2, x3, x4], _, [], _, hc =>
      obtain ⟨h1, h2⟩ := call_of hc
      have h2' : Uw49Neutral.callIn [1, x0.toNat, x1.toNat, x2.toNat, x3.toNat, x4.toNat] = some c := h2
      have b' : cst [1, x0.toNat, x1.toNat, x2.toNat, x3.toNat, x4.toNat] = [1, x0, x1, x2, x3, x4] := nat_back h1
      simp only [cst, List.map_cons, List.cons.injEq] at b'
      rw [Uw49Neutral.callIn] at h2'
      obtain rfl : Uw49.Call.town ⟨x0.toNat, x1.toNat, x2.toNat, x3.toNat, x4.toNat⟩ = c := by simpa using h2'
      refine ⟨rfl, ?_, rfl, trivial⟩
      show [((x0.toNat : Nat) : Int), ((x1.toNat : Nat) : Int), ((x2.toNat : Nat) : Int), ((x3.toNat : Nat) : Int), ((x4.toNat : Nat) : Int)] = [x0, x1, x2, x3, x4]
      rw [b'.2.1, b'.2.2.1, b'.2.2.2.1, b'.2.2.2.2.1, b'.2.2.2.2.2.1]
  rw [if_neg c1] at hs
  by_cases c2 : p = 2
  · subst c2
    rw [if_pos rfl] at hs
    obtain ⟨rfl, rfl⟩ : 0 = n ∧ 0 = k := by simpa using hs
    match nums, hn, rows, hk, hc with
    | [], _, [], _, hc =>
      obtain ⟨h1, h2⟩ := call_of hc
      have h2' : Uw49Neutral.callIn [2] = some c := h2
      rw [Uw49Neutral.callIn] at h2'
      obtain rfl : Uw49.Call.best = c := by simpa using h2'
      exact ⟨rfl, rfl, rfl, trivial⟩
  rw [if_neg c2] at hs
  by_cases c3 : p = 3
  · subst c3
    rw [if_pos rfl] at hs
    obtain ⟨rfl, rfl⟩ : 0 = n ∧ 2 = k := by simpa using hs
    obtain rfl : nums = [] := List.length_eq_zero_iff.mp hn
    obtain ⟨r0, r1, rfl⟩ := len_two hk
    have hw : (PyUw49.whole [[3], r0, r1]).headD [] = 3 :: (r0.length : Int) :: (r0 ++ r1) := rfl
    rw [hw] at hc
    obtain ⟨h1, h2⟩ := call_of hc
    have e : ((3 : Int) :: (r0.length : Int) :: (r0 ++ r1)).map Int.toNat = 3 :: r0.length :: (r0.map Int.toNat ++ r1.map Int.toNat) := by
      rw [List.map_cons, List.map_cons, List.map_append, Int.toNat_natCast]
      rfl
    have h2' : Uw49Neutral.callIn (3 :: r0.length :: (r0.map Int.toNat ++ r1.map Int.toNat)) = some c := by rw [← e]; exact h2
    have h1' : ((3 : Int) :: (r0.length : Int) :: (r0 ++ r1)).all Uw49Neutral.nat = true := h1
    rw [List.all_cons, List.all_cons, List.all_append, Bool.and_eq_true, Bool.and_eq_true, Bool.and_eq_true] at h1'
    have b0 := nat_back h1'.2.2.1
    have b1 := nat_back h1'.2.2.2
    rw [Uw49Neutral.callIn] at h2'
    by_cases q : r0.length ≤ 12 ∧ r0.length ≤ (r0.map Int.toNat ++ r1.map Int.toNat).length ∧ (r0.map Int.toNat ++ r1.map Int.toNat).length ≤ r0.length + 8
    · rw [if_pos q] at h2'
      have l0 : (r0.map Int.toNat).length = r0.length := List.length_map ..
      have t1 : (r0.map Int.toNat ++ r1.map Int.toNat).take r0.length = r0.map Int.toNat := by rw [← l0, List.take_left]
      have t2 : (r0.map Int.toNat ++ r1.map Int.toNat).drop r0.length = r1.map Int.toNat := by rw [← l0, List.drop_left]
      rw [t1, t2] at h2'
      obtain rfl : Uw49.Call.check (r0.map Int.toNat) (r1.map Int.toNat) = c := by simpa using h2'
      refine ⟨rfl, rfl, flat2 b0 b1, ?_⟩
      rw [List.length_append, l0] at q
      show (r0.map Int.toNat).length ≤ 100 ∧ (r1.map Int.toNat).length ≤ 100
      omega
    · rw [if_neg q] at h2'; cases h2'
  rw [if_neg c3] at hs
  by_cases c4 : p = 4
  · subst c4
    rw [if_pos rfl] at hs
    obtain ⟨rfl, rfl⟩ : 0 = n ∧ 1 = k := by simpa using hs
    match nums, hn, rows, hk, hc with
    | [], _, [r0], _, hc =>
      obtain ⟨h1, h2⟩ := call_of hc
      have h2' : Uw49Neutral.callIn (4 :: r0.map Int.toNat) = some c := h2
      have h1' : ((4 : Int) :: r0).all Uw49Neutral.nat = true := h1
      rw [List.all_cons, Bool.and_eq_true] at h1'
      have b0 := nat_back h1'.2
      rw [Uw49Neutral.callIn] at h2'
      by_cases q : (r0.map Int.toNat).length ≤ 12
      · rw [if_pos q] at h2'
        obtain rfl : Uw49.Call.along (r0.map Int.toNat) = c := by simpa using h2'
        refine ⟨rfl, rfl, flat1 b0, ?_⟩
        show (r0.map Int.toNat).length ≤ 100
        omega
      · rw [if_neg q] at h2'; cases h2'
  rw [if_neg c4] at hs
  by_cases c5 : p = 5
  · subst c5
    rw [if_pos rfl] at hs
    obtain ⟨rfl, rfl⟩ : 0 = n ∧ 1 = k := by simpa using hs
    match nums, hn, rows, hk, hc with
    | [], _, [r0], _, hc =>
      obtain ⟨h1, h2⟩ := call_of hc
      have h2' : Uw49Neutral.callIn (5 :: r0.map Int.toNat) = some c := h2
      have h1' : ((5 : Int) :: r0).all Uw49Neutral.nat = true := h1
      rw [List.all_cons, Bool.and_eq_true] at h1'
      have b0 := nat_back h1'.2
      rw [Uw49Neutral.callIn] at h2'
      by_cases q : (r0.map Int.toNat).length ≤ 8
      · rw [if_pos q] at h2'
        obtain rfl : Uw49.Call.round (r0.map Int.toNat) = c := by simpa using h2'
        refine ⟨rfl, rfl, flat1 b0, ?_⟩
        show (r0.map Int.toNat).length ≤ 100
        omega
      · rw [if_neg q] at h2'; cases h2'
  rw [if_neg c5] at hs
  by_cases c6 : p = 6
  · subst c6
    rw [if_pos rfl] at hs
    obtain ⟨rfl, rfl⟩ : 4 = n ∧ 0 = k := by simpa using hs
    match nums, hn, rows, hk, hc with
    | [x0, x1, x2, x3], _, [], _, hc =>
      obtain ⟨h1, h2⟩ := call_of hc
      have h2' : Uw49Neutral.callIn [6, x0.toNat, x1.toNat, x2.toNat, x3.toNat] = some c := h2
      have b' : cst [6, x0.toNat, x1.toNat, x2.toNat, x3.toNat] = [6, x0, x1, x2, x3] := nat_back h1
      simp only [cst, List.map_cons, List.cons.injEq] at b'
      rw [Uw49Neutral.callIn] at h2'
      obtain rfl : Uw49.Call.through x0.toNat x1.toNat x2.toNat x3.toNat = c := by simpa using h2'
      refine ⟨rfl, ?_, rfl, trivial⟩
      show [((x0.toNat : Nat) : Int), ((x1.toNat : Nat) : Int), ((x2.toNat : Nat) : Int), ((x3.toNat : Nat) : Int)] = [x0, x1, x2, x3]
      rw [b'.2.1, b'.2.2.1, b'.2.2.2.1, b'.2.2.2.2.1]
  rw [if_neg c6] at hs
  cases hs
theorem step_of {l : List Int} {c : Uw49.Call} (S : Uw49.Sheet) (h : Uw49Neutral.callOf l = some c) : Uw49Neutral.step S l = ((Uw49.step S c).1, outC S c) := by
  unfold Uw49Neutral.step
  rw [h]
  rfl
theorem parse_of : ∀ (f : Nat) (l : List Int) (raw : List (List (List Int))), PyFlat.calls PyUw49.shape f l = some raw → (∀ rc ∈ raw, (Uw49Neutral.callOf ((PyUw49.whole rc).headD [])).isSome = true) →
    ∃ cs, Parse l cs ∧ ∀ S, PyFlat.told (PyFlat.played (fun s c => Uw49Neutral.step s (c.headD [])) S (raw.map PyUw49.whole)) = runC S cs
  | f, [], raw, h, _ => by
    have : PyFlat.calls PyUw49.shape f [] = some [] := by unfold PyFlat.calls; cases f <;> rfl
    rw [this] at h
    obtain rfl : [] = raw := Option.some.inj h
    exact ⟨[], .nil, fun S => rfl⟩
  | 0, _ :: _, raw, h, _ => by
    unfold PyFlat.calls at h
    cases h
  | f + 1, p :: r, raw, h, ha => by
    unfold PyFlat.calls at h
    cases h1 : PyFlat.call PyUw49.shape (p :: r) with
    | none => rw [h1] at h; cases h
    | some y =>
      obtain ⟨rc, t⟩ := y
      rw [h1] at h
      simp only [] at h
      cases h2 : PyFlat.calls PyUw49.shape f t with
      | none => rw [h2] at h; cases h
      | some cs0 =>
        rw [h2] at h
        obtain rfl : rc :: cs0 = raw := by simpa using h
        obtain ⟨cs, i1, i2⟩ := parse_of f t cs0 h2 fun z hz => ha z (List.mem_cons_of_mem _ hz)
        obtain ⟨c, hc⟩ := Option.isSome_iff_exists.mp (ha rc List.mem_cons_self)
        obtain ⟨p', nums, rows, n, k, s1, rfl, s3, s4, s5⟩ := call_spec h1
        obtain ⟨t1, t2, t3, t4⟩ := tells s1 s3 s4 hc
        refine ⟨c :: cs, .cons (t := t) ?_ t4 i1, fun S => ?_⟩
        · rw [s5, t1, t3]
          rw [← t2]
        · show ((Uw49Neutral.step S _).2.length : Int) :: ((Uw49Neutral.step S _).2 ++ PyFlat.told (PyFlat.played _ (Uw49Neutral.step S _).1 (cs0.map PyUw49.whole))) = _
          rw [step_of S hc, i2]
          rfl
/-- what is asked, as the walk needs it -/
theorem asked_parse {xs : List Int} (h : PyUw49.answers_asked xs = true) : ∃ cs, Parse xs cs ∧ PyUw49.answers xs = runC Uw49.init cs ∧ (runC Uw49.init cs).length ≤ 10000000 := by
  unfold PyUw49.answers_asked at h
  cases e : PyFlat.calls PyUw49.shape xs.length xs with
  | none => rw [e] at h; cases h
  | some raw =>
    rw [e] at h
    simp only [Bool.and_eq_true] at h
    obtain ⟨⟨⟨_, _⟩, ha⟩, hl⟩ := h
    unfold Uw49Neutral.asked at ha
    rw [Bool.and_eq_true] at ha
    obtain ⟨cs, i1, i2⟩ := parse_of _ _ _ e fun rc hrc => by
      have := List.all_eq_true.mp ha.1 ((PyUw49.whole rc).headD []) (by
        rw [List.map_map]
        exact List.mem_map.mpr ⟨rc, hrc, rfl⟩)
      exact this
    have ea : PyUw49.answers xs = runC Uw49.init cs := by
      unfold PyUw49.answers PyUw49.calls
      rw [e]
      exact i2 _
    refine ⟨cs, i1, ea, ?_⟩
    unfold PyFlat.short at hl
    rw [ea] at hl
    exact of_decide_eq_true hl
/-! the sheet stays well formed -/
theorem wf_init : Wf Uw49.init := ⟨by decide, by decide, by decide, by decide, by decide, by decide, by decide, by decide, by decide, fun T hT => by cases hT⟩
theorem wf_step {S : Uw49.Sheet} (wf : Wf S) (c : Uw49.Call) : Wf (Uw49.step S c).1 := by
  cases c with
  | begins w h o ps =>
    by_cases q : bgBad w h o ps
    · rw [(bg_bad (S := S) q).1]; exact wf
    · rw [bg_ok q]
      have q' : ¬ (ps.all fun x => decide (x.1 ≤ w) && decide (x.2 ≤ h)) = false := fun z => q (.inr (.inr (.inr (.inr (.inr (.inr (.inr z)))))))
      rw [Bool.not_eq_false, List.all_eq_true] at q'
      refine ⟨?_, ?_, ?_, ?_, ?_, ?_, ?_, fun p hp => by simpa using q' p hp, Nat.zero_le _, fun T hT => by cases hT⟩
      all_goals (simp only []; unfold bgBad at q; omega)
  | town T =>
    by_cases q : twBad S T
    · rw [(tw_bad q).1]; exact wf
    · by_cases q2 : 4 ≤ S.towns.length
      · rw [(tw_full q q2).1]; exact wf
      · rw [tw_ok q q2]
        refine ⟨wf.w1, wf.w2, wf.h1, wf.h2, wf.o, wf.p1, wf.p2, wf.pts, ?_, fun U hU => ?_⟩
        · show (S.towns ++ [T]).length ≤ 4
          rw [List.length_append]
          simp
          omega
        · rcases List.mem_append.mp hU with z | z
          · exact wf.tw U z
          · obtain rfl : U = T := by simpa using z
            unfold twBad at q
            show U.x ≤ S.wide ∧ U.y ≤ S.high ∧ 1 ≤ U.wide ∧ U.wide ≤ 60 ∧ 1 ≤ U.high ∧ U.high ≤ 60 ∧ U.worth ≤ 1000
            omega
  | best => exact wf
  | check c l => rw [st_check]; exact wf
  | along c => rw [st_along]; exact wf
  | round l => rw [st_round]; exact wf
  | through i k j m => rw [st_thr]; exact wf
end Md

namespace Md
open PySem PySem.Spec PyProof.Rows L2
open Evl (Ex)
local macro_rules | `(tactic| walk_at "ed") => `(tactic| first
  | with_reducible exact ed_int | with_reducible exact ed_bl | with_reducible exact ed_non
  | ((with_reducible show ED (tVar _) _ _ _); refine ed_var rfl ?_; first | assumption | exact Dn.int _ | exact Dn.bl _)
  | ((with_reducible show CP (tVar _ _) _ _); refine cp_var rfl ?_; assumption)
  | with_reducible apply ed_add | with_reducible apply ed_sub | with_reducible apply ed_mul
  | with_reducible apply ed_lt | with_reducible apply ed_le | with_reducible apply ed_gt | with_reducible apply ed_ge
  | with_reducible apply ed_eq | with_reducible apply ed_ne | with_reducible apply ed_neg | with_reducible apply ed_isN | with_reducible apply ed_notN
  | ((with_reducible apply ed_swide); assumption) | ((with_reducible apply ed_shigh); assumption) | ((with_reducible apply ed_soff); assumption) | ((with_reducible apply ed_spoints); assumption)
  | ((with_reducible apply ed_twide); assumption) | ((with_reducible apply ed_thigh); assumption) | ((with_reducible apply ed_tworth); assumption) | ((with_reducible apply ed_tplace); assumption)
  | ((with_reducible apply cp_stowns); assumption) | ((with_reducible apply cp_dsheet); assumption)
  | with_reducible apply ed_ixT | with_reducible apply ed_ixL | with_reducible exact at_0 | with_reducible exact at_1 | with_reducible exact at_2 | with_reducible exact at_3 | with_reducible exact at_4
  | with_reducible apply ed_tup | with_reducible apply ed_lst | ((with_reducible show List.length _ ≤ 100000); exact Nat.le_of_ble_eq_true rfl)
  | with_reducible exact ea_nil | with_reducible apply ea_cons
  | with_reducible apply et_test | with_reducible apply et_B)
theorem if_true_of {c : Bool} {A B : Prop} (hc : c = true) (h : A) : if c = true then A else B := by
  rw [if_pos hc]
  exact h
theorem if_false_of {c : Bool} {A B : Prop} (hc : c = false) (h : B) : if c = true then A else B := by
  rw [hc, if_neg Bool.false_ne_true]
  exact h
section
variable {P : Program} {w : World} {K : PySem.W.Frag} {mg : Str → Option Value} {base : Heap} {a : Ad}
def sp_answers (K : PySem.W.Frag) (_ : Ad) : Sp := fun vs H Q _ => ∃ (cl : Addr) (xs : List Int), vs = [.ref cl] ∧ SqL K H cl (xs.map V.int) ∧ PyUw49.answers_asked xs = true ∧ ∀ (H' : Hp) (p : Addr), H' p = some (.lst ((PyUw49.answers xs).map V.int)) → Q (.ref p) H'
theorem len_answers {vs : List V} {H : Hp} {Q : VK} {E : XK} (h : sp_answers K a vs H Q E) : vs.length = 1 := by obtain ⟨_, _, h, _⟩ := h; rw [h]; rfl
/-- what holds between the turns -/
def InvA (a : Ad) (K : PySem.W.Frag) (H0 : Hp) (cl p fl : Addr) (xs full : List Int) (m : Nat) (σ : L2.St) (H' : Hp) : Prop := ∃ (S : Uw49.Sheet) (cs : List Uw49.Call) (i : Nat) (acc : List Int) (G : Hp) (tl : Addr) (x4 x5 x6 x7 : Option V), m = cs.length ∧
  σ = [some (.ref cl), some (.ref p), some (.ref fl), some (.int (i : Int)), x4, x5, x6, x7] ∧ Ex H0 G ∧ Ex G H' ∧ DeskTl a S p tl G ∧ Wf S ∧ G fl = none ∧ H' fl = some (.lst (acc.map V.int)) ∧ H0 p = none ∧ H0 tl = none ∧ Parse (xs.drop i) cs ∧ acc ++ runC S cs = full
theorem cp_quad {K : PySem.W.Frag} {σ : L2.St} {H : Hp} {i j k l : Nat} {T : Addr} {x1 x2 x3 x4 : V} {P : L2.St → Hp → Prop} (hT : H T = some (.tup [x1, x2, x3, x4])) (h : P ((((σ.set i (some x1)).set j (some x2)).set k (some x3)).set l (some x4)) H) : CP (gTup K 4 (gCons (gName i) (gCons (gName j) (gCons (gName k) (gCons (gName l) gNil)))) (.ref T) σ) H P := fun H1 e Q q =>
  ⟨T, _, rfl, SqT.of (e _ _ hT), rfl, x1, _, rfl, x2, _, rfl, x3, _, rfl, x4, [], rfl, rfl, q _ _ _ (Ext.refl e) h⟩
theorem size_ok {n : Nat} (h : n ≤ 10000000) : n < sizeLine := by rw [sizeLine_eq]; omega
/-- call, numbers, rows, at = read_call(calls, at) -/
theorem bk_read {K : PySem.W.Frag} {H : Hp} {cl p fl : Addr} {xs : List Int} {i nx : Nat} {c : Uw49.Call} {x4 x5 x6 x7 : Option V} (hs : SqL K H cl (xs.map V.int)) (raw : RawAt xs i c nx) : Bk (tAsg (tCall (sp_read_call K a) [] E0 (tCons (tVar 0) (tCons (tVar 3) tNil))) (gTup K 4 (gCons (gName 4) (gCons (gName 5) (gCons (gName 6) (gCons (gName 3) gNil))))))
    [some (.ref cl), some (.ref p), some (.ref fl), some (.int (i : Int)), x4, x5, x6, x7] H (fun _ _ => False) fun σ' G => ∃ nv rv, σ' = [some (.ref cl), some (.ref p), some (.ref fl), some (.int (nx : Int)), some (.int (encC c).1), some nv, some rv, x7] ∧ Dn G nv (dNs (encC c).2.1) ∧ Dn G rv (dNss (encC c).2.2) := by
  refine bk_asgG (R := fun v G => Dn G v (.tuple [.int (encC c).1, dNs (encC c).2.1, dNss (encC c).2.2, .int (nx : Int)])) (cp_call (x := (xs, i, c, nx)) (A := fun vs _ => vs = [.ref cl, .int (i : Int)]) (fun H1 e Q q => ⟨_, rfl, _, rfl, q _ _ _ (Ext.refl e) rfl⟩) fun vs G e hv => ⟨cl, hv, sq_mono e hs, raw⟩) fun v G e hv => ?_
  obtain ⟨t, ys, rfl, h1, h2⟩ := dn_tup hv
  obtain ⟨v1, v2, v3, v4, rfl, q1, q2, q3, q4⟩ := dn4 h2
  rw [dn_int q1, dn_int q4] at h1
  exact cp_quad h1 ⟨v2, v3, rfl, q2, q3⟩
/-- found.append(len(told)); found.extend(told) -/
theorem run_told {K : PySem.W.Frag} {σ : L2.St} {H : Hp} {D : Ends} {fl l : Addr} {acc ns : List Int} (h2 : σ[2]? = some (some (.ref fl))) (h7 : σ[7]? = some (some (.ref l))) (hf : H fl = some (.lst (acc.map V.int))) (hl : H l = some (.lst (ns.map V.int))) (hne : l ≠ fl) (hz : acc.length + 1 + ns.length ≤ 10000000)
    (k : D.nx σ (upd (upd H fl (.lst ((acc ++ [(ns.length : Int)]).map V.int))) fl (.lst ((acc ++ (ns.length : Int) :: ns).map V.int)))) :
    tSeq (tDrop (tBM K "list" rAppend (tVar 2) (tCons (tCB (fun xs H Q => ∃ p ys, xs = [.ref p] ∧ (SqL K H p ys ∨ SqT K H p ys) ∧ Q (.int ys.length) H) (tCons (tVar 7) tNil)) tNil))) (tDrop (tBM K "list" rExtend (tVar 2) (tCons (tVar 7) tNil))) D σ H := by
  refine ⟨.ref fl, h2, Or.inl ⟨rfl, _, SqL.of hf⟩, .ref l, h7, l, ns.map V.int, rfl, .inl (SqL.of hl), fl, acc.map V.int, .int ((ns.map V.int).length : Nat), rfl, rfl, hf, by rw [List.length_map]; exact size_ok (by omega), ?_⟩
  have e1 : acc.map V.int ++ [.int ((ns.map V.int).length : Nat)] = (acc ++ [(ns.length : Int)]).map V.int := by rw [List.map_append, List.length_map]; rfl
  rw [e1]
  refine ⟨.ref fl, h2, Or.inl ⟨rfl, _, SqL.of upd_same⟩, .ref l, h7, fl, l, (acc ++ [(ns.length : Int)]).map V.int, ns.map V.int, rfl, rfl, upd_same, by rw [upd_ne hne]; exact hl, ?_, ?_⟩
  · rw [List.length_map, List.length_map, List.length_append]
    refine Nat.le_of_lt (size_ok ?_)
    simpa using hz
  · have e2 : (acc ++ [(ns.length : Int)]).map V.int ++ ns.map V.int = (acc ++ (ns.length : Int) :: ns).map V.int := by rw [← List.map_append]; simp
    rw [e2]
    exact k
theorem ok_answers {f : Addr} {fd : FuncData} (F : Fun K "answers" "answers" s_answers f fd) (T : Tx K mg a) (c_Desk_init : MkC P w K mg base 3 a.desk "Desk" ["self"] (sp_Desk_init a)) (c_read_call : Cal P w K mg base CX0 1 "read_call" ["calls", "at"] (sp_read_call K a)) (c_Desk_answer : MCal P w K mg base CX0 9 a.desk "answer" ["self", "call", "n", "rows"] (sp_Desk_answer a)) : FnOk P w K mg base CX0 10 f fd ["calls"] (sp_answers K a) := by
  refine F.ok sc_answers (fun vs H Q E h => ?_) (fun cdv A outer s H vs Q E hr h => ?_)
  · exact len_answers h
  · refine ⟨_, (pss_cons (ps_set (i := 1) sc_answers.nd rfl (Or.inl rfl) (pe_mk0 c_Desk_init (hr.mono (by decide)) rfl pass0)) (pss_cons (ps_set (i := 2) sc_answers.nd rfl (Or.inl rfl) (pe_lst pa_nil)) (pss_cons (ps_set (i := 3) sc_answers.nd rfl (Or.inl rfl) pe_int) (pss_cons (ps_while PassesOwn.never (pt_cmpR op_lt (pv 3) (pe_callB call_len_seq rfl T.b_len PySem.boot_len (pa_cons (pv 0) pa_nil)) (nomark _)) (pss_cons (ps_asg (pe_cal c_read_call (hr.mono (by decide)) rfl pass0 (by exact (pa_cons (pv 0) (pa_cons (pv 3) pa_nil)))) (pg_tupK (K := K) (n := 4) rfl rfl (pgs_cons (pg_name (i := 4) sc_answers.nd rfl (Or.inl rfl)) (pgs_cons (pg_name (i := 5) sc_answers.nd rfl (Or.inl rfl)) (pgs_cons (pg_name (i := 6) sc_answers.nd rfl (Or.inl rfl)) (pgs_cons (pg_name (i := 3) sc_answers.nd rfl (Or.inl rfl)) pgs_nil)))))) (pss_cons (ps_set (i := 7) sc_answers.nd rfl (Or.inl rfl) (pe_mt c_Desk_answer (by exact (pv 1)) (hr.mono (by decide)) pass0 (by exact (pa_cons (pv 4) (pa_cons (pv 5) (pa_cons (pv 6) pa_nil)))))) (pss_cons (ps_expr (pe_bm PySem.F.plainAttrs_list PySem.F.slot_list_append PySem.F.type_list_append mt_append (pv 2) (pa_cons (pe_callB call_len_seq rfl T.b_len PySem.boot_len (pa_cons (pv 7) pa_nil)) pa_nil))) (pss_one (ps_expr (pe_bm PySem.F.plainAttrs_list PySem.F.slot_list_extend PySem.F.type_list_extend mt_extend (pv 2) (pa_cons (pv 7) pa_nil)))))))) (pss_one (ps_ret (pv 2))))))), ?_⟩
    obtain ⟨cl, xs, rfl, hs, hask, k⟩ := h
    obtain ⟨cs0, hpar, hans, hlen⟩ := asked_parse hask
    -- desk = Desk()
    refine fun p dx hp hdx hne => ⟨p, dx, rfl, upd_same, fun sv tl H1 g1 g2 g3 g4 => ⟨rfl, ?_⟩⟩
    have eH : Ex H H1 := fun b o hb => by
      have n1 : b ≠ p := ne_of_none hb hp
      have n2 : b ≠ dx := ne_of_none hb hdx
      exact g4 b o (by rw [upd_ne n1, upd_ne n2]; exact hb) n1
    have nt : H tl = none := by
      have n1 : tl ≠ p := fun z => by rw [z, upd_same] at g3; cases g3
      have n2 : tl ≠ dx := fun z => by rw [upd_ne n1, z, upd_same] at g3; cases g3
      rw [upd_ne n1, upd_ne n2] at g3
      exact g3
    have hD0 : DeskTl a Uw49.init p tl H1 := ⟨dx, sv, g1, g2⟩
    -- found = []; at = 0
    refine ⟨Nat.zero_le _, fun fl hfl => ?_⟩
    refine ⟨InvA a K H cl p fl xs (runC Uw49.init cs0), ⟨cs0.length, Uw49.init, cs0, 0, [], H1, tl, none, none, none, none, rfl, rfl, eH, Ext.upd (Ex.refl H1) hfl, hD0, wf_init, hfl, upd_same, hp, nt, by rw [List.drop_zero]; exact hpar, rfl⟩, fun m σ H2 hW => ?_⟩
    obtain ⟨S, cs, i, acc, G, tl, x4, x5, x6, x7, rfl, rfl, e0, e1, hD, wf, nf, hf, np, nt, pa, hfull⟩ := hW
    have hs1 := sq_mono e0 hs
    refine (et_test (ed_lt (show ED (tVar 3) _ G (.int (i : Int)) from ed_var rfl (.int _)) (ed_lenS hs1 rfl)) : ET _ _ G (decide ((i : Int) < (xs.length : Int)))) H2 e1 _ fun b G' H3 y hb => ?_
    subst hb
    have hf3 : H3 fl = some (.lst (acc.map V.int)) := y.ab _ _ hf
    by_cases hi : (i : Int) < (xs.length : Int)
    · refine if_true_of (decide_eq_true hi) ?_
      have hi' : i < xs.length := by omega
      generalize hd : xs.drop i = l at pa
      cases pa with
      | nil => exact absurd (congrArg List.length hd) (by rw [List.length_drop]; simp; omega)
      | cons hl hsm hrest =>
        rename_i t c cs
        subst hl
        have raw : RawAt xs i c (i + 1 + (encC c).2.1.length + (flatR (encC c).2.2).length) := ⟨⟨t, hd⟩, rfl⟩
        have hnext : xs.drop (i + 1 + (encC c).2.1.length + (flatR (encC c).2.2).length) = t := by
          have d1 := (drop_at hd).2
          have d2 := (drop_past d1).1
          rw [List.length_map] at d2
          exact (drop_past d2).1
        refine ⟨InvA a K H cl p fl xs (runC Uw49.init cs0) cs.length, fun σ' H' hN => ⟨cs.length, Nat.lt_succ_self _, hN⟩, ?_⟩
        refine bk_read (a := a) (p := p) (fl := fl) (x4 := x4) (x5 := x5) (x6 := x6) (x7 := x7) hs1 raw H3 (e1.trans y.ab) _ (fun _ _ _ _ f => f.elim) fun σ' G1 H4 x hN => ?_
        obtain ⟨nv, rv, rfl, hn, hr2⟩ := hN
        have hD1 := hD.mono x.hg
        have nf1 : G1 fl = none := x.sep fl nf (by rw [hf3]; simp)
        have hf4 : H4 fl = some (.lst (acc.map V.int)) := x.ab _ _ hf3
        obtain ⟨dx', sv', w1, w2⟩ := id hD1
        refine ⟨.ref p, rfl, p, dx', _, rfl, x.gb _ _ w1, kF_none (by decide +kernel), _, rfl, nv, rfl, rv, rfl, ?_⟩
        refine ⟨S, c, p, tl, G1, _, x.gb, rfl, hD1, wf, ⟨nv, rv, rfl, hn, hr2, hsm⟩, fun v G2 H5 z ⟨tl', d1, d2, d3⟩ => ?_⟩
        obtain ⟨lv, ys, rfl, l1, l2⟩ := dn_lst d3
        have l3 := dn_ints l2
        subst l3
        have nfp : fl ≠ p := fun q => hD1.pn (by rw [← q]; exact nf1)
        have nft : fl ≠ tl := fun q => hD1.tn (by rw [← q]; exact nf1)
        have nf2 : G2 fl = none := z.sep fl nf1 (by rw [hf4]; simp)
        have hf5 : H5 fl = some (.lst (acc.map V.int)) := z.ab _ _ hf4 nfp nft
        have hlf : lv ≠ fl := ne_of_none l1 nf2
        have hz : acc.length + 1 + (outC S c).length ≤ 10000000 := by
          rw [← hfull] at hlen
          simp only [runC, List.length_append, List.length_cons] at hlen
          omega
        refine run_told (acc := acc) (ns := outC S c) (l := lv) (fl := fl) rfl rfl hf5 (z.gb _ _ l1) hlf hz ?_
        refine ⟨(Uw49.step S c).1, cs, _, acc ++ ((outC S c).length : Int) :: outC S c, G2, tl', _, _, _, _, rfl, rfl, fun b o hb => ?_, Ext.upd (Ext.upd z.gb nf2) nf2, d1, wf_step wf c, nf2, upd_same, np, ?_, by rw [hnext]; exact hrest, ?_⟩
        · exact z.hg b o (x.hg b o (e0 b o hb)) (ne_of_none hb np) (ne_of_none hb nt)
        · rcases d2 with q | q
          · rw [q]; exact nt
          · exact Evl.fresh_back (e0.trans x.hg) q
        · rw [← hfull]
          simp only [runC, List.append_assoc, List.cons_append]
    · refine if_false_of (decide_eq_false hi) ?_
      have hdrop : xs.drop i = [] := List.drop_eq_nil_of_le (by omega)
      rw [hdrop] at pa
      have hcs : cs = [] := by
        cases pa with
        | nil => rfl
        | cons hl _ _ => cases hl
      subst hcs
      have hacc : acc = PyUw49.answers xs := by rw [hans, ← hfull]; exact (List.append_nil acc).symm
      refine ⟨.ref fl, rfl, k H3 fl ?_⟩
      rw [← hacc]
      exact hf3
end
end Md

namespace Md
open PySem PySem.Spec PyProof.Rows L2
/-- an error of the class at S is what «except S» names -/
theorem exm_self {K : PySem.W.Frag} {S : Addr} (h1 : PySem.W.subIn K (.ref S) (.type "BaseException") = some true) (h2 : PySem.W.isClsIn K S = true) (h3 : PySem.W.typeIn K (.ref S) = some (.type "type")) (h4 : PySem.W.subIn K (.ref S) (.ref S) = some true) :
    PySem.W.exmOne K (.ref S) (.ref S) = some true := by
  have e1 : (PySem.W.subIn K (.ref S) (.type "BaseException") == some true) = true := by rw [h1] <;> rfl
  have e2 : ((PySem.W.clsIn K S).isSome && PySem.W.typeIn K (.ref S) == some (.type "type")) = true := by
    have h2' : (PySem.W.clsIn K S).isSome = true := h2
    rw [h2', h3] <;> rfl
  show (if (PySem.W.subIn K (.ref S) (.type "BaseException") == some true) = true then (if ((PySem.W.clsIn K S).isSome && PySem.W.typeIn K (.ref S) == some (.type "type")) = true then PySem.W.subIn K (.ref S) (.ref S) else none) else none) = some true
  rw [if_pos e1, if_pos e2]
  exact h4
def spAns (K : PySem.W.Frag) : Sp := sp_answers K ⟨0, 0, 0, 0, 0, 0⟩
theorem tup7 {K : PySem.W.Frag} {N : Addr} {d : Option Addr} {n : Nat} {sl : Array (Option Value)} {i1 i2 i3 i4 i5 i6 i7 : Int} {t1 t2 t3 t4 t5 t6 t7 : Tok} (h : K.lookup N = some ⟨.type "tuple", d, .seq #[.int i1 t1, .int i2 t2, .int i3 t3, .int i4 t4, .int i5 t5, .int i6 t6, .int i7 t7] n, sl⟩) (H : Hp) : SqT K H N (([i1, i2, i3, i4, i5, i6, i7] : List Int).map V.int) :=
  .inr ⟨_, _, _, h, rfl, rfl, by show 7 ≤ sizeLine; decide, .cons ⟨_, rfl⟩ (.cons ⟨_, rfl⟩ (.cons ⟨_, rfl⟩ (.cons ⟨_, rfl⟩ (.cons ⟨_, rfl⟩ (.cons ⟨_, rfl⟩ (.cons ⟨_, rfl⟩ .nil))))))⟩
theorem all_mk {P : Program} {w : World} {K : PySem.W.Frag} {h : Heap} {mg : Str → Option Value} {fa town sheet desk ref nums rows : Addr}
    {t_LEFT_OUT : Tok}
    {t_CORNERS : Tok}
    {t_GOODNESS : Tok}
    {t_BAD : Tok}
    {t_NONE_THERE : Tok}
    {t_FULL : Tok}
    {t_NOT_DRAWN : Tok}
    {t_NO_FIT : Tok}
    {t_CLASHING : Tok}
    {t_THROUGH : Tok}
    {t_MOST_SIDE : Tok}
    {t_MOST_OFF : Tok}
    {t_FEWEST_POINTS : Tok}
    {t_MOST_POINTS : Tok}
    {t_MOST_TOWNS : Tok}
    {t_MOST_WORTH : Tok}
    {d_NUMBERS : Option Addr} {n_NUMBERS : Nat} {sl_NUMBERS : Array (Option Value)} {t0_NUMBERS t1_NUMBERS t2_NUMBERS t3_NUMBERS t4_NUMBERS t5_NUMBERS t6_NUMBERS : Tok}
    {d_ROWS : Option Addr} {n_ROWS : Nat} {sl_ROWS : Array (Option Value)} {t0_ROWS t1_ROWS t2_ROWS t3_ROWS t4_ROWS t5_ROWS t6_ROWS : Tok}
    {nm q : Str} {N : Addr} {bs : List Value} {sn : List Str} {sub : List Value} {ab : Bool} {col : Option Bool} {dd : Option Addr} {m0 m1 m2 m3 m5 : Option Value}
    {f_square_of : Addr} {od_square_of an_square_of : Option Addr} {sl_square_of : Array (Option Value)} {oc_square_of kV_square_of dc_square_of pm_square_of cd_square_of ct_square_of : Value}
    {f_is_farther : Addr} {od_is_farther an_is_farther : Option Addr} {sl_is_farther : Array (Option Value)} {oc_is_farther kV_is_farther dc_is_farther pm_is_farther cd_is_farther ct_is_farther : Value}
    {f_is_less : Addr} {od_is_less an_is_less : Option Addr} {sl_is_less : Array (Option Value)} {oc_is_less kV_is_less dc_is_less pm_is_less cd_is_less ct_is_less : Value}
    {f_part_within : Addr} {od_part_within an_part_within : Option Addr} {sl_part_within : Array (Option Value)} {oc_part_within kV_part_within dc_part_within pm_part_within cd_part_within ct_part_within : Value}
    {f_goes_within : Addr} {od_goes_within an_goes_within : Option Addr} {sl_goes_within : Array (Option Value)} {oc_goes_within kV_goes_within dc_goes_within pm_goes_within cd_goes_within ct_goes_within : Value}
    {f_is_within : Addr} {od_is_within an_is_within : Option Addr} {sl_is_within : Array (Option Value)} {oc_is_within kV_is_within dc_is_within pm_is_within cd_is_within ct_is_within : Value}
    {f_overlap : Addr} {od_overlap an_overlap : Option Addr} {sl_overlap : Array (Option Value)} {oc_overlap kV_overlap dc_overlap pm_overlap cd_overlap ct_overlap : Value}
    {f_Town_init : Addr} {od_Town_init an_Town_init : Option Addr} {sl_Town_init : Array (Option Value)} {oc_Town_init kV_Town_init dc_Town_init pm_Town_init cd_Town_init ct_Town_init : Value}
    {f_Town_box : Addr} {od_Town_box an_Town_box : Option Addr} {sl_Town_box : Array (Option Value)} {oc_Town_box kV_Town_box dc_Town_box pm_Town_box cd_Town_box ct_Town_box : Value}
    {f_fits : Addr} {od_fits an_fits : Option Addr} {sl_fits : Array (Option Value)} {oc_fits kV_fits dc_fits pm_fits cd_fits ct_fits : Value}
    {f_clash : Addr} {od_clash an_clash : Option Addr} {sl_clash : Array (Option Value)} {oc_clash kV_clash dc_clash pm_clash cd_clash ct_clash : Value}
    {f_first_unfit : Addr} {od_first_unfit an_first_unfit : Option Addr} {sl_first_unfit : Array (Option Value)} {oc_first_unfit kV_first_unfit dc_first_unfit pm_first_unfit cd_first_unfit ct_first_unfit : Value}
    {f_first_clash : Addr} {od_first_clash an_first_clash : Option Addr} {sl_first_clash : Array (Option Value)} {oc_first_clash kV_first_clash dc_first_clash pm_first_clash cd_first_clash ct_first_clash : Value}
    {f_rank_of : Addr} {od_rank_of an_rank_of : Option Addr} {sl_rank_of : Array (Option Value)} {oc_rank_of kV_rank_of dc_rank_of pm_rank_of cd_rank_of ct_rank_of : Value}
    {f_worth_of : Addr} {od_worth_of an_worth_of : Option Addr} {sl_worth_of : Array (Option Value)} {oc_worth_of kV_worth_of dc_worth_of pm_worth_of cd_worth_of ct_worth_of : Value}
    {f_good_plans : Addr} {od_good_plans an_good_plans : Option Addr} {sl_good_plans : Array (Option Value)} {oc_good_plans kV_good_plans dc_good_plans pm_good_plans cd_good_plans ct_good_plans : Value}
    {f_goes_with : Addr} {od_goes_with an_goes_with : Option Addr} {sl_goes_with : Array (Option Value)} {oc_goes_with kV_goes_with dc_goes_with pm_goes_with cd_goes_with ct_goes_with : Value}
    {f_may_be_drawn : Addr} {od_may_be_drawn an_may_be_drawn : Option Addr} {sl_may_be_drawn : Array (Option Value)} {oc_may_be_drawn kV_may_be_drawn dc_may_be_drawn pm_may_be_drawn cd_may_be_drawn ct_may_be_drawn : Value}
    {f_stretches : Addr} {od_stretches an_stretches : Option Addr} {sl_stretches : Array (Option Value)} {oc_stretches kV_stretches dc_stretches pm_stretches cd_stretches ct_stretches : Value}
    {f_first_undrawn : Addr} {od_first_undrawn an_first_undrawn : Option Addr} {sl_first_undrawn : Array (Option Value)} {oc_first_undrawn kV_first_undrawn dc_first_undrawn pm_first_undrawn cd_first_undrawn ct_first_undrawn : Value}
    {f_goes_through : Addr} {od_goes_through an_goes_through : Option Addr} {sl_goes_through : Array (Option Value)} {oc_goes_through kV_goes_through dc_goes_through pm_goes_through cd_goes_through ct_goes_through : Value}
    {f_first_through : Addr} {od_first_through an_first_through : Option Addr} {sl_first_through : Array (Option Value)} {oc_first_through kV_first_through dc_first_through pm_first_through cd_first_through ct_first_through : Value}
    {f_all_choices : Addr} {od_all_choices an_all_choices : Option Addr} {sl_all_choices : Array (Option Value)} {oc_all_choices kV_all_choices dc_all_choices pm_all_choices cd_all_choices ct_all_choices : Value}
    {f_good_choices : Addr} {od_good_choices an_good_choices : Option Addr} {sl_good_choices : Array (Option Value)} {oc_good_choices kV_good_choices dc_good_choices pm_good_choices cd_good_choices ct_good_choices : Value}
    {f_corners_hit : Addr} {od_corners_hit an_corners_hit : Option Addr} {sl_corners_hit : Array (Option Value)} {oc_corners_hit kV_corners_hit dc_corners_hit pm_corners_hit cd_corners_hit ct_corners_hit : Value}
    {f_measure_of : Addr} {od_measure_of an_measure_of : Option Addr} {sl_measure_of : Array (Option Value)} {oc_measure_of kV_measure_of dc_measure_of pm_measure_of cd_measure_of ct_measure_of : Value}
    {f_is_clear : Addr} {od_is_clear an_is_clear : Option Addr} {sl_is_clear : Array (Option Value)} {oc_is_clear kV_is_clear dc_is_clear pm_is_clear cd_is_clear ct_is_clear : Value}
    {f_measures : Addr} {od_measures an_measures : Option Addr} {sl_measures : Array (Option Value)} {oc_measures kV_measures dc_measures pm_measures cd_measures ct_measures : Value}
    {f_told_best : Addr} {od_told_best an_told_best : Option Addr} {sl_told_best : Array (Option Value)} {oc_told_best kV_told_best dc_told_best pm_told_best cd_told_best ct_told_best : Value}
    {f_Refused_init : Addr} {od_Refused_init an_Refused_init : Option Addr} {sl_Refused_init : Array (Option Value)} {oc_Refused_init kV_Refused_init dc_Refused_init pm_Refused_init cd_Refused_init ct_Refused_init : Value}
    {f_want : Addr} {od_want an_want : Option Addr} {sl_want : Array (Option Value)} {oc_want kV_want dc_want pm_want cd_want ct_want : Value}
    {f_is_side : Addr} {od_is_side an_is_side : Option Addr} {sl_is_side : Array (Option Value)} {oc_is_side kV_is_side dc_is_side pm_is_side cd_is_side ct_is_side : Value}
    {f_Sheet_init : Addr} {od_Sheet_init an_Sheet_init : Option Addr} {sl_Sheet_init : Array (Option Value)} {oc_Sheet_init kV_Sheet_init dc_Sheet_init pm_Sheet_init cd_Sheet_init ct_Sheet_init : Value}
    {f_Sheet_has : Addr} {od_Sheet_has an_Sheet_has : Option Addr} {sl_Sheet_has : Array (Option Value)} {oc_Sheet_has kV_Sheet_has dc_Sheet_has pm_Sheet_has cd_Sheet_has ct_Sheet_has : Value}
    {f_Desk_init : Addr} {od_Desk_init an_Desk_init : Option Addr} {sl_Desk_init : Array (Option Value)} {oc_Desk_init kV_Desk_init dc_Desk_init pm_Desk_init cd_Desk_init ct_Desk_init : Value}
    {f_Desk_want_choice : Addr} {od_Desk_want_choice an_Desk_want_choice : Option Addr} {sl_Desk_want_choice : Array (Option Value)} {oc_Desk_want_choice kV_Desk_want_choice dc_Desk_want_choice pm_Desk_want_choice cd_Desk_want_choice ct_Desk_want_choice : Value}
    {f_Desk_want_plan : Addr} {od_Desk_want_plan an_Desk_want_plan : Option Addr} {sl_Desk_want_plan : Array (Option Value)} {oc_Desk_want_plan kV_Desk_want_plan dc_Desk_want_plan pm_Desk_want_plan cd_Desk_want_plan ct_Desk_want_plan : Value}
    {f_Desk_want_drawn : Addr} {od_Desk_want_drawn an_Desk_want_drawn : Option Addr} {sl_Desk_want_drawn : Array (Option Value)} {oc_Desk_want_drawn kV_Desk_want_drawn dc_Desk_want_drawn pm_Desk_want_drawn cd_Desk_want_drawn ct_Desk_want_drawn : Value}
    {f_Desk_want_names : Addr} {od_Desk_want_names an_Desk_want_names : Option Addr} {sl_Desk_want_names : Array (Option Value)} {oc_Desk_want_names kV_Desk_want_names dc_Desk_want_names pm_Desk_want_names cd_Desk_want_names ct_Desk_want_names : Value}
    {f_Desk_begins : Addr} {od_Desk_begins an_Desk_begins : Option Addr} {sl_Desk_begins : Array (Option Value)} {oc_Desk_begins kV_Desk_begins dc_Desk_begins pm_Desk_begins cd_Desk_begins ct_Desk_begins : Value}
    {f_Desk_town : Addr} {od_Desk_town an_Desk_town : Option Addr} {sl_Desk_town : Array (Option Value)} {oc_Desk_town kV_Desk_town dc_Desk_town pm_Desk_town cd_Desk_town ct_Desk_town : Value}
    {f_Desk_best : Addr} {od_Desk_best an_Desk_best : Option Addr} {sl_Desk_best : Array (Option Value)} {oc_Desk_best kV_Desk_best dc_Desk_best pm_Desk_best cd_Desk_best ct_Desk_best : Value}
    {f_Desk_check : Addr} {od_Desk_check an_Desk_check : Option Addr} {sl_Desk_check : Array (Option Value)} {oc_Desk_check kV_Desk_check dc_Desk_check pm_Desk_check cd_Desk_check ct_Desk_check : Value}
    {f_Desk_with_choice : Addr} {od_Desk_with_choice an_Desk_with_choice : Option Addr} {sl_Desk_with_choice : Array (Option Value)} {oc_Desk_with_choice kV_Desk_with_choice dc_Desk_with_choice pm_Desk_with_choice cd_Desk_with_choice ct_Desk_with_choice : Value}
    {f_Desk_with_plan : Addr} {od_Desk_with_plan an_Desk_with_plan : Option Addr} {sl_Desk_with_plan : Array (Option Value)} {oc_Desk_with_plan kV_Desk_with_plan dc_Desk_with_plan pm_Desk_with_plan cd_Desk_with_plan ct_Desk_with_plan : Value}
    {f_Desk_through : Addr} {od_Desk_through an_Desk_through : Option Addr} {sl_Desk_through : Array (Option Value)} {oc_Desk_through kV_Desk_through dc_Desk_through pm_Desk_through cd_Desk_through ct_Desk_through : Value}
    {f_Desk_called : Addr} {od_Desk_called an_Desk_called : Option Addr} {sl_Desk_called : Array (Option Value)} {oc_Desk_called kV_Desk_called dc_Desk_called pm_Desk_called cd_Desk_called ct_Desk_called : Value}
    {f_Desk_answer : Addr} {od_Desk_answer an_Desk_answer : Option Addr} {sl_Desk_answer : Array (Option Value)} {oc_Desk_answer kV_Desk_answer dc_Desk_answer pm_Desk_answer cd_Desk_answer ct_Desk_answer : Value}
    {f_read_call : Addr} {od_read_call an_read_call : Option Addr} {sl_read_call : Array (Option Value)} {oc_read_call kV_read_call dc_read_call pm_read_call cd_read_call ct_read_call : Value}
    {f_answers : Addr} {od_answers an_answers : Option Addr} {sl_answers : Array (Option Value)} {oc_answers kV_answers dc_answers pm_answers cd_answers ct_answers : Value}
    (X : K.In h) (G : h.Ns mainGlobals mg) (hfa : mg "answers" = some (.ref fa))
    (z_len : PySem.W.nsIn K mainGlobals "len" = some none)
    (z_range : PySem.W.nsIn K mainGlobals "range" = some none)
    (z_any : PySem.W.nsIn K mainGlobals "any" = some none)
    (z_all : PySem.W.nsIn K mainGlobals "all" = some none)
    (z_sum : PySem.W.nsIn K mainGlobals "sum" = some none)
    (z_min : PySem.W.nsIn K mainGlobals "min" = some none)
    (z_zip : PySem.W.nsIn K mainGlobals "zip" = some none)
    (z_list : PySem.W.nsIn K mainGlobals "list" = some none)
    (z_enumerate : PySem.W.nsIn K mainGlobals "enumerate" = some none)
    (z_int : PySem.W.nsIn K mainGlobals "int" = some none)
    (z_ValueError : PySem.W.nsIn K mainGlobals "ValueError" = some none)
    (g_LEFT_OUT : PySem.W.nsIn K mainGlobals "LEFT_OUT" = some (some (.int (4) t_LEFT_OUT)))
    (g_CORNERS : PySem.W.nsIn K mainGlobals "CORNERS" = some (some (.int (4) t_CORNERS)))
    (g_GOODNESS : PySem.W.nsIn K mainGlobals "GOODNESS" = some (some (.int (3) t_GOODNESS)))
    (g_BAD : PySem.W.nsIn K mainGlobals "BAD" = some (some (.int (-1) t_BAD)))
    (g_NONE_THERE : PySem.W.nsIn K mainGlobals "NONE_THERE" = some (some (.int (-2) t_NONE_THERE)))
    (g_FULL : PySem.W.nsIn K mainGlobals "FULL" = some (some (.int (-5) t_FULL)))
    (g_NOT_DRAWN : PySem.W.nsIn K mainGlobals "NOT_DRAWN" = some (some (.int (-6) t_NOT_DRAWN)))
    (g_NO_FIT : PySem.W.nsIn K mainGlobals "NO_FIT" = some (some (.int (-7) t_NO_FIT)))
    (g_CLASHING : PySem.W.nsIn K mainGlobals "CLASHING" = some (some (.int (-8) t_CLASHING)))
    (g_THROUGH : PySem.W.nsIn K mainGlobals "THROUGH" = some (some (.int (-9) t_THROUGH)))
    (g_MOST_SIDE : PySem.W.nsIn K mainGlobals "MOST_SIDE" = some (some (.int (60) t_MOST_SIDE)))
    (g_MOST_OFF : PySem.W.nsIn K mainGlobals "MOST_OFF" = some (some (.int (10000) t_MOST_OFF)))
    (g_FEWEST_POINTS : PySem.W.nsIn K mainGlobals "FEWEST_POINTS" = some (some (.int (2) t_FEWEST_POINTS)))
    (g_MOST_POINTS : PySem.W.nsIn K mainGlobals "MOST_POINTS" = some (some (.int (7) t_MOST_POINTS)))
    (g_MOST_TOWNS : PySem.W.nsIn K mainGlobals "MOST_TOWNS" = some (some (.int (4) t_MOST_TOWNS)))
    (g_MOST_WORTH : PySem.W.nsIn K mainGlobals "MOST_WORTH" = some (some (.int (1000) t_MOST_WORTH)))
    (g_NUMBERS : PySem.W.nsIn K mainGlobals "NUMBERS" = some (some (.ref nums)))
    (l_NUMBERS : K.lookup nums = some ⟨.type "tuple", d_NUMBERS, .seq #[.int 3 t0_NUMBERS, .int 5 t1_NUMBERS, .int 0 t2_NUMBERS, .int 0 t3_NUMBERS, .int 0 t4_NUMBERS, .int 0 t5_NUMBERS, .int 4 t6_NUMBERS] n_NUMBERS, sl_NUMBERS⟩)
    (g_ROWS : PySem.W.nsIn K mainGlobals "ROWS" = some (some (.ref rows)))
    (l_ROWS : K.lookup rows = some ⟨.type "tuple", d_ROWS, .seq #[.int 1 t0_ROWS, .int 0 t1_ROWS, .int 0 t2_ROWS, .int 2 t3_ROWS, .int 1 t4_ROWS, .int 1 t5_ROWS, .int 0 t6_ROWS] n_ROWS, sl_ROWS⟩)
    (a_Town : PySem.W.nsIn K mainGlobals "Town" = some (some (.ref town)))
    (pg_Town : PySem.W.plainGet K town Str.empty = true)
    (hd_Town : PySem.W.hasDictIn K town = true)
    (po_Town : PySem.W.plainOver K town = true)
    (sa_Town : PySem.W.findIn K (.ref town) "__setattr__" = some (some (.builtin "object.__setattr__")))
    (mk_Town : PySem.W.makesIn K town = true)
    (kc_Town : PySem.W.keepIn K (.ref town) = true)
    (a_Sheet : PySem.W.nsIn K mainGlobals "Sheet" = some (some (.ref sheet)))
    (pg_Sheet : PySem.W.plainGet K sheet Str.empty = true)
    (hd_Sheet : PySem.W.hasDictIn K sheet = true)
    (po_Sheet : PySem.W.plainOver K sheet = true)
    (sa_Sheet : PySem.W.findIn K (.ref sheet) "__setattr__" = some (some (.builtin "object.__setattr__")))
    (mk_Sheet : PySem.W.makesIn K sheet = true)
    (kc_Sheet : PySem.W.keepIn K (.ref sheet) = true)
    (a_Desk : PySem.W.nsIn K mainGlobals "Desk" = some (some (.ref desk)))
    (pg_Desk : PySem.W.plainGet K desk Str.empty = true)
    (hd_Desk : PySem.W.hasDictIn K desk = true)
    (po_Desk : PySem.W.plainOver K desk = true)
    (sa_Desk : PySem.W.findIn K (.ref desk) "__setattr__" = some (some (.builtin "object.__setattr__")))
    (mk_Desk : PySem.W.makesIn K desk = true)
    (kc_Desk : PySem.W.keepIn K (.ref desk) = true)
    (nT_place : PySem.W.findIn K (.ref town) "place" = some none)
    (nT_wide : PySem.W.findIn K (.ref town) "wide" = some none)
    (nT_high : PySem.W.findIn K (.ref town) "high" = some none)
    (nT_worth : PySem.W.findIn K (.ref town) "worth" = some none)
    (nS_wide : PySem.W.findIn K (.ref sheet) "wide" = some none)
    (nS_high : PySem.W.findIn K (.ref sheet) "high" = some none)
    (nS_off : PySem.W.findIn K (.ref sheet) "off" = some none)
    (nS_points : PySem.W.findIn K (.ref sheet) "points" = some none)
    (nS_towns : PySem.W.findIn K (.ref sheet) "towns" = some none)
    (nD_sheet : PySem.W.findIn K (.ref desk) "sheet" = some none)
    (aR : PySem.W.nsIn K mainGlobals "Refused" = some (some (.ref ref)))
    (xR : K.lookup ref = some (excClassObj nm q ref N bs [.type "ValueError", .type "Exception", .type "BaseException", .type "object"] true sn sub ab col dd m0 m1 m2 m3 m5 "ValueError.__new__"))
    (saR : PySem.W.findIn K (.ref ref) "__setattr__" = some (some (.builtin "object.__setattr__")))
    (gaR : PySem.W.findIn K (.ref ref) "__getattribute__" = some (some (.builtin "BaseException.__getattribute__")))
    (ggR : PySem.W.findIn K (.ref ref) "__getattr__" = some none)
    (nbR : PySem.W.findIn K (.ref ref) "numbers" = some none)
    (kR : PySem.W.keepIn K (.ref ref) = true)
    (eR : PySem.W.subIn K (.ref ref) (.type "BaseException") = some true)
    (tR : PySem.W.typeIn K (.ref ref) = some (.type "type"))
    (hR : PySem.W.hasDictIn K ref = true)
    (iR : PySem.W.isClsIn K ref = true)
    (sR : PySem.W.subIn K (.ref ref) (.ref ref) = some true)
    (veR : PySem.W.findCls K (.type "ValueError") (.type "type") "__init__" = some (.val (.builtin "ValueError.__init__")))
    (a_square_of : PySem.W.nsIn K mainGlobals "square_of" = some (some (.ref f_square_of)))
    (l_square_of : K.lookup f_square_of = some ⟨oc_square_of, od_square_of, .func (PySem.W.fnOf "square_of" "square_of" (defArgs s_square_of) (defBody s_square_of) (defScope s_square_of) .none kV_square_of dc_square_of pm_square_of an_square_of cd_square_of ct_square_of), sl_square_of⟩)
    (c_square_of : PySem.W.codeIn K cd_square_of "square_of" = true)
    (k_square_of : PySem.W.keepIn K (.ref f_square_of) = true)
    (a_is_farther : PySem.W.nsIn K mainGlobals "is_farther" = some (some (.ref f_is_farther)))
    (l_is_farther : K.lookup f_is_farther = some ⟨oc_is_farther, od_is_farther, .func (PySem.W.fnOf "is_farther" "is_farther" (defArgs s_is_farther) (defBody s_is_farther) (defScope s_is_farther) .none kV_is_farther dc_is_farther pm_is_farther an_is_farther cd_is_farther ct_is_farther), sl_is_farther⟩)
    (c_is_farther : PySem.W.codeIn K cd_is_farther "is_farther" = true)
    (k_is_farther : PySem.W.keepIn K (.ref f_is_farther) = true)
    (a_is_less : PySem.W.nsIn K mainGlobals "is_less" = some (some (.ref f_is_less)))
    (l_is_less : K.lookup f_is_less = some ⟨oc_is_less, od_is_less, .func (PySem.W.fnOf "is_less" "is_less" (defArgs s_is_less) (defBody s_is_less) (defScope s_is_less) .none kV_is_less dc_is_less pm_is_less an_is_less cd_is_less ct_is_less), sl_is_less⟩)
    (c_is_less : PySem.W.codeIn K cd_is_less "is_less" = true)
    (k_is_less : PySem.W.keepIn K (.ref f_is_less) = true)
    (a_part_within : PySem.W.nsIn K mainGlobals "part_within" = some (some (.ref f_part_within)))
    (l_part_within : K.lookup f_part_within = some ⟨oc_part_within, od_part_within, .func (PySem.W.fnOf "part_within" "part_within" (defArgs s_part_within) (defBody s_part_within) (defScope s_part_within) .none kV_part_within dc_part_within pm_part_within an_part_within cd_part_within ct_part_within), sl_part_within⟩)
    (c_part_within : PySem.W.codeIn K cd_part_within "part_within" = true)
    (k_part_within : PySem.W.keepIn K (.ref f_part_within) = true)
    (a_goes_within : PySem.W.nsIn K mainGlobals "goes_within" = some (some (.ref f_goes_within)))
    (l_goes_within : K.lookup f_goes_within = some ⟨oc_goes_within, od_goes_within, .func (PySem.W.fnOf "goes_within" "goes_within" (defArgs s_goes_within) (defBody s_goes_within) (defScope s_goes_within) .none kV_goes_within dc_goes_within pm_goes_within an_goes_within cd_goes_within ct_goes_within), sl_goes_within⟩)
    (c_goes_within : PySem.W.codeIn K cd_goes_within "goes_within" = true)
    (k_goes_within : PySem.W.keepIn K (.ref f_goes_within) = true)
    (a_is_within : PySem.W.nsIn K mainGlobals "is_within" = some (some (.ref f_is_within)))
    (l_is_within : K.lookup f_is_within = some ⟨oc_is_within, od_is_within, .func (PySem.W.fnOf "is_within" "is_within" (defArgs s_is_within) (defBody s_is_within) (defScope s_is_within) .none kV_is_within dc_is_within pm_is_within an_is_within cd_is_within ct_is_within), sl_is_within⟩)
    (c_is_within : PySem.W.codeIn K cd_is_within "is_within" = true)
    (k_is_within : PySem.W.keepIn K (.ref f_is_within) = true)
    (a_overlap : PySem.W.nsIn K mainGlobals "overlap" = some (some (.ref f_overlap)))
    (l_overlap : K.lookup f_overlap = some ⟨oc_overlap, od_overlap, .func (PySem.W.fnOf "overlap" "overlap" (defArgs s_overlap) (defBody s_overlap) (defScope s_overlap) .none kV_overlap dc_overlap pm_overlap an_overlap cd_overlap ct_overlap), sl_overlap⟩)
    (c_overlap : PySem.W.codeIn K cd_overlap "overlap" = true)
    (k_overlap : PySem.W.keepIn K (.ref f_overlap) = true)
    (a_Town_init : PySem.W.findIn K (.ref town) "__init__" = some (some (.ref f_Town_init)))
    (i_Town_init : PySem.W.isFn K (.ref f_Town_init) = true)
    (l_Town_init : K.lookup f_Town_init = some ⟨oc_Town_init, od_Town_init, .func (PySem.W.fnOf "__init__" "Town.__init__" (defArgs s_Town_init) (defBody s_Town_init) (defScope s_Town_init) .none kV_Town_init dc_Town_init pm_Town_init an_Town_init cd_Town_init ct_Town_init), sl_Town_init⟩)
    (c_Town_init : PySem.W.codeIn K cd_Town_init "Town.__init__" = true)
    (k_Town_init : PySem.W.keepIn K (.ref f_Town_init) = true)
    (a_Town_box : PySem.W.findIn K (.ref town) "box" = some (some (.ref f_Town_box)))
    (i_Town_box : PySem.W.isFn K (.ref f_Town_box) = true)
    (l_Town_box : K.lookup f_Town_box = some ⟨oc_Town_box, od_Town_box, .func (PySem.W.fnOf "box" "Town.box" (defArgs s_Town_box) (defBody s_Town_box) (defScope s_Town_box) .none kV_Town_box dc_Town_box pm_Town_box an_Town_box cd_Town_box ct_Town_box), sl_Town_box⟩)
    (c_Town_box : PySem.W.codeIn K cd_Town_box "Town.box" = true)
    (k_Town_box : PySem.W.keepIn K (.ref f_Town_box) = true)
    (a_fits : PySem.W.nsIn K mainGlobals "fits" = some (some (.ref f_fits)))
    (l_fits : K.lookup f_fits = some ⟨oc_fits, od_fits, .func (PySem.W.fnOf "fits" "fits" (defArgs s_fits) (defBody s_fits) (defScope s_fits) .none kV_fits dc_fits pm_fits an_fits cd_fits ct_fits), sl_fits⟩)
    (c_fits : PySem.W.codeIn K cd_fits "fits" = true)
    (k_fits : PySem.W.keepIn K (.ref f_fits) = true)
    (a_clash : PySem.W.nsIn K mainGlobals "clash" = some (some (.ref f_clash)))
    (l_clash : K.lookup f_clash = some ⟨oc_clash, od_clash, .func (PySem.W.fnOf "clash" "clash" (defArgs s_clash) (defBody s_clash) (defScope s_clash) .none kV_clash dc_clash pm_clash an_clash cd_clash ct_clash), sl_clash⟩)
    (c_clash : PySem.W.codeIn K cd_clash "clash" = true)
    (k_clash : PySem.W.keepIn K (.ref f_clash) = true)
    (a_first_unfit : PySem.W.nsIn K mainGlobals "first_unfit" = some (some (.ref f_first_unfit)))
    (l_first_unfit : K.lookup f_first_unfit = some ⟨oc_first_unfit, od_first_unfit, .func (PySem.W.fnOf "first_unfit" "first_unfit" (defArgs s_first_unfit) (defBody s_first_unfit) (defScope s_first_unfit) .none kV_first_unfit dc_first_unfit pm_first_unfit an_first_unfit cd_first_unfit ct_first_unfit), sl_first_unfit⟩)
    (c_first_unfit : PySem.W.codeIn K cd_first_unfit "first_unfit" = true)
    (k_first_unfit : PySem.W.keepIn K (.ref f_first_unfit) = true)
    (a_first_clash : PySem.W.nsIn K mainGlobals "first_clash" = some (some (.ref f_first_clash)))
    (l_first_clash : K.lookup f_first_clash = some ⟨oc_first_clash, od_first_clash, .func (PySem.W.fnOf "first_clash" "first_clash" (defArgs s_first_clash) (defBody s_first_clash) (defScope s_first_clash) .none kV_first_clash dc_first_clash pm_first_clash an_first_clash cd_first_clash ct_first_clash), sl_first_clash⟩)
    (c_first_clash : PySem.W.codeIn K cd_first_clash "first_clash" = true)
    (k_first_clash : PySem.W.keepIn K (.ref f_first_clash) = true)
    (a_rank_of : PySem.W.nsIn K mainGlobals "rank_of" = some (some (.ref f_rank_of)))
    (l_rank_of : K.lookup f_rank_of = some ⟨oc_rank_of, od_rank_of, .func (PySem.W.fnOf "rank_of" "rank_of" (defArgs s_rank_of) (defBody s_rank_of) (defScope s_rank_of) .none kV_rank_of dc_rank_of pm_rank_of an_rank_of cd_rank_of ct_rank_of), sl_rank_of⟩)
    (c_rank_of : PySem.W.codeIn K cd_rank_of "rank_of" = true)
    (k_rank_of : PySem.W.keepIn K (.ref f_rank_of) = true)
    (a_worth_of : PySem.W.nsIn K mainGlobals "worth_of" = some (some (.ref f_worth_of)))
    (l_worth_of : K.lookup f_worth_of = some ⟨oc_worth_of, od_worth_of, .func (PySem.W.fnOf "worth_of" "worth_of" (defArgs s_worth_of) (defBody s_worth_of) (defScope s_worth_of) .none kV_worth_of dc_worth_of pm_worth_of an_worth_of cd_worth_of ct_worth_of), sl_worth_of⟩)
    (c_worth_of : PySem.W.codeIn K cd_worth_of "worth_of" = true)
    (k_worth_of : PySem.W.keepIn K (.ref f_worth_of) = true)
    (a_good_plans : PySem.W.nsIn K mainGlobals "good_plans" = some (some (.ref f_good_plans)))
    (l_good_plans : K.lookup f_good_plans = some ⟨oc_good_plans, od_good_plans, .func (PySem.W.fnOf "good_plans" "good_plans" (defArgs s_good_plans) (defBody s_good_plans) (defScope s_good_plans) .none kV_good_plans dc_good_plans pm_good_plans an_good_plans cd_good_plans ct_good_plans), sl_good_plans⟩)
    (c_good_plans : PySem.W.codeIn K cd_good_plans "good_plans" = true)
    (k_good_plans : PySem.W.keepIn K (.ref f_good_plans) = true)
    (a_goes_with : PySem.W.nsIn K mainGlobals "goes_with" = some (some (.ref f_goes_with)))
    (l_goes_with : K.lookup f_goes_with = some ⟨oc_goes_with, od_goes_with, .func (PySem.W.fnOf "goes_with" "goes_with" (defArgs s_goes_with) (defBody s_goes_with) (defScope s_goes_with) .none kV_goes_with dc_goes_with pm_goes_with an_goes_with cd_goes_with ct_goes_with), sl_goes_with⟩)
    (c_goes_with : PySem.W.codeIn K cd_goes_with "goes_with" = true)
    (k_goes_with : PySem.W.keepIn K (.ref f_goes_with) = true)
    (a_may_be_drawn : PySem.W.nsIn K mainGlobals "may_be_drawn" = some (some (.ref f_may_be_drawn)))
    (l_may_be_drawn : K.lookup f_may_be_drawn = some ⟨oc_may_be_drawn, od_may_be_drawn, .func (PySem.W.fnOf "may_be_drawn" "may_be_drawn" (defArgs s_may_be_drawn) (defBody s_may_be_drawn) (defScope s_may_be_drawn) .none kV_may_be_drawn dc_may_be_drawn pm_may_be_drawn an_may_be_drawn cd_may_be_drawn ct_may_be_drawn), sl_may_be_drawn⟩)
    (c_may_be_drawn : PySem.W.codeIn K cd_may_be_drawn "may_be_drawn" = true)
    (k_may_be_drawn : PySem.W.keepIn K (.ref f_may_be_drawn) = true)
    (a_stretches : PySem.W.nsIn K mainGlobals "stretches" = some (some (.ref f_stretches)))
    (l_stretches : K.lookup f_stretches = some ⟨oc_stretches, od_stretches, .func (PySem.W.fnOf "stretches" "stretches" (defArgs s_stretches) (defBody s_stretches) (defScope s_stretches) .none kV_stretches dc_stretches pm_stretches an_stretches cd_stretches ct_stretches), sl_stretches⟩)
    (c_stretches : PySem.W.codeIn K cd_stretches "stretches" = true)
    (k_stretches : PySem.W.keepIn K (.ref f_stretches) = true)
    (a_first_undrawn : PySem.W.nsIn K mainGlobals "first_undrawn" = some (some (.ref f_first_undrawn)))
    (l_first_undrawn : K.lookup f_first_undrawn = some ⟨oc_first_undrawn, od_first_undrawn, .func (PySem.W.fnOf "first_undrawn" "first_undrawn" (defArgs s_first_undrawn) (defBody s_first_undrawn) (defScope s_first_undrawn) .none kV_first_undrawn dc_first_undrawn pm_first_undrawn an_first_undrawn cd_first_undrawn ct_first_undrawn), sl_first_undrawn⟩)
    (c_first_undrawn : PySem.W.codeIn K cd_first_undrawn "first_undrawn" = true)
    (k_first_undrawn : PySem.W.keepIn K (.ref f_first_undrawn) = true)
    (a_goes_through : PySem.W.nsIn K mainGlobals "goes_through" = some (some (.ref f_goes_through)))
    (l_goes_through : K.lookup f_goes_through = some ⟨oc_goes_through, od_goes_through, .func (PySem.W.fnOf "goes_through" "goes_through" (defArgs s_goes_through) (defBody s_goes_through) (defScope s_goes_through) .none kV_goes_through dc_goes_through pm_goes_through an_goes_through cd_goes_through ct_goes_through), sl_goes_through⟩)
    (c_goes_through : PySem.W.codeIn K cd_goes_through "goes_through" = true)
    (k_goes_through : PySem.W.keepIn K (.ref f_goes_through) = true)
    (a_first_through : PySem.W.nsIn K mainGlobals "first_through" = some (some (.ref f_first_through)))
    (l_first_through : K.lookup f_first_through = some ⟨oc_first_through, od_first_through, .func (PySem.W.fnOf "first_through" "first_through" (defArgs s_first_through) (defBody s_first_through) (defScope s_first_through) .none kV_first_through dc_first_through pm_first_through an_first_through cd_first_through ct_first_through), sl_first_through⟩)
    (c_first_through : PySem.W.codeIn K cd_first_through "first_through" = true)
    (k_first_through : PySem.W.keepIn K (.ref f_first_through) = true)
    (a_all_choices : PySem.W.nsIn K mainGlobals "all_choices" = some (some (.ref f_all_choices)))
    (l_all_choices : K.lookup f_all_choices = some ⟨oc_all_choices, od_all_choices, .func (PySem.W.fnOf "all_choices" "all_choices" (defArgs s_all_choices) (defBody s_all_choices) (defScope s_all_choices) .none kV_all_choices dc_all_choices pm_all_choices an_all_choices cd_all_choices ct_all_choices), sl_all_choices⟩)
    (c_all_choices : PySem.W.codeIn K cd_all_choices "all_choices" = true)
    (k_all_choices : PySem.W.keepIn K (.ref f_all_choices) = true)
    (a_good_choices : PySem.W.nsIn K mainGlobals "good_choices" = some (some (.ref f_good_choices)))
    (l_good_choices : K.lookup f_good_choices = some ⟨oc_good_choices, od_good_choices, .func (PySem.W.fnOf "good_choices" "good_choices" (defArgs s_good_choices) (defBody s_good_choices) (defScope s_good_choices) .none kV_good_choices dc_good_choices pm_good_choices an_good_choices cd_good_choices ct_good_choices), sl_good_choices⟩)
    (c_good_choices : PySem.W.codeIn K cd_good_choices "good_choices" = true)
    (k_good_choices : PySem.W.keepIn K (.ref f_good_choices) = true)
    (a_corners_hit : PySem.W.nsIn K mainGlobals "corners_hit" = some (some (.ref f_corners_hit)))
    (l_corners_hit : K.lookup f_corners_hit = some ⟨oc_corners_hit, od_corners_hit, .func (PySem.W.fnOf "corners_hit" "corners_hit" (defArgs s_corners_hit) (defBody s_corners_hit) (defScope s_corners_hit) .none kV_corners_hit dc_corners_hit pm_corners_hit an_corners_hit cd_corners_hit ct_corners_hit), sl_corners_hit⟩)
    (c_corners_hit : PySem.W.codeIn K cd_corners_hit "corners_hit" = true)
    (k_corners_hit : PySem.W.keepIn K (.ref f_corners_hit) = true)
    (a_measure_of : PySem.W.nsIn K mainGlobals "measure_of" = some (some (.ref f_measure_of)))
    (l_measure_of : K.lookup f_measure_of = some ⟨oc_measure_of, od_measure_of, .func (PySem.W.fnOf "measure_of" "measure_of" (defArgs s_measure_of) (defBody s_measure_of) (defScope s_measure_of) .none kV_measure_of dc_measure_of pm_measure_of an_measure_of cd_measure_of ct_measure_of), sl_measure_of⟩)
    (c_measure_of : PySem.W.codeIn K cd_measure_of "measure_of" = true)
    (k_measure_of : PySem.W.keepIn K (.ref f_measure_of) = true)
    (a_is_clear : PySem.W.nsIn K mainGlobals "is_clear" = some (some (.ref f_is_clear)))
    (l_is_clear : K.lookup f_is_clear = some ⟨oc_is_clear, od_is_clear, .func (PySem.W.fnOf "is_clear" "is_clear" (defArgs s_is_clear) (defBody s_is_clear) (defScope s_is_clear) .none kV_is_clear dc_is_clear pm_is_clear an_is_clear cd_is_clear ct_is_clear), sl_is_clear⟩)
    (c_is_clear : PySem.W.codeIn K cd_is_clear "is_clear" = true)
    (k_is_clear : PySem.W.keepIn K (.ref f_is_clear) = true)
    (a_measures : PySem.W.nsIn K mainGlobals "measures" = some (some (.ref f_measures)))
    (l_measures : K.lookup f_measures = some ⟨oc_measures, od_measures, .func (PySem.W.fnOf "measures" "measures" (defArgs s_measures) (defBody s_measures) (defScope s_measures) .none kV_measures dc_measures pm_measures an_measures cd_measures ct_measures), sl_measures⟩)
    (c_measures : PySem.W.codeIn K cd_measures "measures" = true)
    (k_measures : PySem.W.keepIn K (.ref f_measures) = true)
    (a_told_best : PySem.W.nsIn K mainGlobals "told_best" = some (some (.ref f_told_best)))
    (l_told_best : K.lookup f_told_best = some ⟨oc_told_best, od_told_best, .func (PySem.W.fnOf "told_best" "told_best" (defArgs s_told_best) (defBody s_told_best) (defScope s_told_best) .none kV_told_best dc_told_best pm_told_best an_told_best cd_told_best ct_told_best), sl_told_best⟩)
    (c_told_best : PySem.W.codeIn K cd_told_best "told_best" = true)
    (k_told_best : PySem.W.keepIn K (.ref f_told_best) = true)
    (a_Refused_init : PySem.W.findIn K (.ref ref) "__init__" = some (some (.ref f_Refused_init)))
    (i_Refused_init : PySem.W.typeIn K (.ref f_Refused_init) = some (.type "function"))
    (l_Refused_init : K.lookup f_Refused_init = some ⟨oc_Refused_init, od_Refused_init, .func (PySem.W.fnOf "__init__" "Refused.__init__" (defArgs s_Refused_init) (defBody s_Refused_init) (defScope s_Refused_init) .none kV_Refused_init dc_Refused_init pm_Refused_init an_Refused_init cd_Refused_init ct_Refused_init), sl_Refused_init⟩)
    (c_Refused_init : PySem.W.codeIn K cd_Refused_init "Refused.__init__" = true)
    (k_Refused_init : PySem.W.keepIn K (.ref f_Refused_init) = true)
    (a_want : PySem.W.nsIn K mainGlobals "want" = some (some (.ref f_want)))
    (l_want : K.lookup f_want = some ⟨oc_want, od_want, .func (PySem.W.fnOf "want" "want" (defArgs s_want) (defBody s_want) (defScope s_want) .none kV_want dc_want pm_want an_want cd_want ct_want), sl_want⟩)
    (c_want : PySem.W.codeIn K cd_want "want" = true)
    (k_want : PySem.W.keepIn K (.ref f_want) = true)
    (a_is_side : PySem.W.nsIn K mainGlobals "is_side" = some (some (.ref f_is_side)))
    (l_is_side : K.lookup f_is_side = some ⟨oc_is_side, od_is_side, .func (PySem.W.fnOf "is_side" "is_side" (defArgs s_is_side) (defBody s_is_side) (defScope s_is_side) .none kV_is_side dc_is_side pm_is_side an_is_side cd_is_side ct_is_side), sl_is_side⟩)
    (c_is_side : PySem.W.codeIn K cd_is_side "is_side" = true)
    (k_is_side : PySem.W.keepIn K (.ref f_is_side) = true)
    (a_Sheet_init : PySem.W.findIn K (.ref sheet) "__init__" = some (some (.ref f_Sheet_init)))
    (i_Sheet_init : PySem.W.isFn K (.ref f_Sheet_init) = true)
    (l_Sheet_init : K.lookup f_Sheet_init = some ⟨oc_Sheet_init, od_Sheet_init, .func (PySem.W.fnOf "__init__" "Sheet.__init__" (defArgs s_Sheet_init) (defBody s_Sheet_init) (defScope s_Sheet_init) .none kV_Sheet_init dc_Sheet_init pm_Sheet_init an_Sheet_init cd_Sheet_init ct_Sheet_init), sl_Sheet_init⟩)
    (c_Sheet_init : PySem.W.codeIn K cd_Sheet_init "Sheet.__init__" = true)
    (k_Sheet_init : PySem.W.keepIn K (.ref f_Sheet_init) = true)
    (a_Sheet_has : PySem.W.findIn K (.ref sheet) "has" = some (some (.ref f_Sheet_has)))
    (i_Sheet_has : PySem.W.isFn K (.ref f_Sheet_has) = true)
    (l_Sheet_has : K.lookup f_Sheet_has = some ⟨oc_Sheet_has, od_Sheet_has, .func (PySem.W.fnOf "has" "Sheet.has" (defArgs s_Sheet_has) (defBody s_Sheet_has) (defScope s_Sheet_has) .none kV_Sheet_has dc_Sheet_has pm_Sheet_has an_Sheet_has cd_Sheet_has ct_Sheet_has), sl_Sheet_has⟩)
    (c_Sheet_has : PySem.W.codeIn K cd_Sheet_has "Sheet.has" = true)
    (k_Sheet_has : PySem.W.keepIn K (.ref f_Sheet_has) = true)
    (a_Desk_init : PySem.W.findIn K (.ref desk) "__init__" = some (some (.ref f_Desk_init)))
    (i_Desk_init : PySem.W.isFn K (.ref f_Desk_init) = true)
    (l_Desk_init : K.lookup f_Desk_init = some ⟨oc_Desk_init, od_Desk_init, .func (PySem.W.fnOf "__init__" "Desk.__init__" (defArgs s_Desk_init) (defBody s_Desk_init) (defScope s_Desk_init) .none kV_Desk_init dc_Desk_init pm_Desk_init an_Desk_init cd_Desk_init ct_Desk_init), sl_Desk_init⟩)
    (c_Desk_init : PySem.W.codeIn K cd_Desk_init "Desk.__init__" = true)
    (k_Desk_init : PySem.W.keepIn K (.ref f_Desk_init) = true)
    (a_Desk_want_choice : PySem.W.findIn K (.ref desk) "want_choice" = some (some (.ref f_Desk_want_choice)))
    (i_Desk_want_choice : PySem.W.isFn K (.ref f_Desk_want_choice) = true)
    (l_Desk_want_choice : K.lookup f_Desk_want_choice = some ⟨oc_Desk_want_choice, od_Desk_want_choice, .func (PySem.W.fnOf "want_choice" "Desk.want_choice" (defArgs s_Desk_want_choice) (defBody s_Desk_want_choice) (defScope s_Desk_want_choice) .none kV_Desk_want_choice dc_Desk_want_choice pm_Desk_want_choice an_Desk_want_choice cd_Desk_want_choice ct_Desk_want_choice), sl_Desk_want_choice⟩)
    (c_Desk_want_choice : PySem.W.codeIn K cd_Desk_want_choice "Desk.want_choice" = true)
    (k_Desk_want_choice : PySem.W.keepIn K (.ref f_Desk_want_choice) = true)
    (a_Desk_want_plan : PySem.W.findIn K (.ref desk) "want_plan" = some (some (.ref f_Desk_want_plan)))
    (i_Desk_want_plan : PySem.W.isFn K (.ref f_Desk_want_plan) = true)
    (l_Desk_want_plan : K.lookup f_Desk_want_plan = some ⟨oc_Desk_want_plan, od_Desk_want_plan, .func (PySem.W.fnOf "want_plan" "Desk.want_plan" (defArgs s_Desk_want_plan) (defBody s_Desk_want_plan) (defScope s_Desk_want_plan) .none kV_Desk_want_plan dc_Desk_want_plan pm_Desk_want_plan an_Desk_want_plan cd_Desk_want_plan ct_Desk_want_plan), sl_Desk_want_plan⟩)
    (c_Desk_want_plan : PySem.W.codeIn K cd_Desk_want_plan "Desk.want_plan" = true)
    (k_Desk_want_plan : PySem.W.keepIn K (.ref f_Desk_want_plan) = true)
    (a_Desk_want_drawn : PySem.W.findIn K (.ref desk) "want_drawn" = some (some (.ref f_Desk_want_drawn)))
    (i_Desk_want_drawn : PySem.W.isFn K (.ref f_Desk_want_drawn) = true)
    (l_Desk_want_drawn : K.lookup f_Desk_want_drawn = some ⟨oc_Desk_want_drawn, od_Desk_want_drawn, .func (PySem.W.fnOf "want_drawn" "Desk.want_drawn" (defArgs s_Desk_want_drawn) (defBody s_Desk_want_drawn) (defScope s_Desk_want_drawn) .none kV_Desk_want_drawn dc_Desk_want_drawn pm_Desk_want_drawn an_Desk_want_drawn cd_Desk_want_drawn ct_Desk_want_drawn), sl_Desk_want_drawn⟩)
    (c_Desk_want_drawn : PySem.W.codeIn K cd_Desk_want_drawn "Desk.want_drawn" = true)
    (k_Desk_want_drawn : PySem.W.keepIn K (.ref f_Desk_want_drawn) = true)
    (a_Desk_want_names : PySem.W.findIn K (.ref desk) "want_names" = some (some (.ref f_Desk_want_names)))
    (i_Desk_want_names : PySem.W.isFn K (.ref f_Desk_want_names) = true)
    (l_Desk_want_names : K.lookup f_Desk_want_names = some ⟨oc_Desk_want_names, od_Desk_want_names, .func (PySem.W.fnOf "want_names" "Desk.want_names" (defArgs s_Desk_want_names) (defBody s_Desk_want_names) (defScope s_Desk_want_names) .none kV_Desk_want_names dc_Desk_want_names pm_Desk_want_names an_Desk_want_names cd_Desk_want_names ct_Desk_want_names), sl_Desk_want_names⟩)
    (c_Desk_want_names : PySem.W.codeIn K cd_Desk_want_names "Desk.want_names" = true)
    (k_Desk_want_names : PySem.W.keepIn K (.ref f_Desk_want_names) = true)
    (a_Desk_begins : PySem.W.findIn K (.ref desk) "begins" = some (some (.ref f_Desk_begins)))
    (i_Desk_begins : PySem.W.isFn K (.ref f_Desk_begins) = true)
    (l_Desk_begins : K.lookup f_Desk_begins = some ⟨oc_Desk_begins, od_Desk_begins, .func (PySem.W.fnOf "begins" "Desk.begins" (defArgs s_Desk_begins) (defBody s_Desk_begins) (defScope s_Desk_begins) .none kV_Desk_begins dc_Desk_begins pm_Desk_begins an_Desk_begins cd_Desk_begins ct_Desk_begins), sl_Desk_begins⟩)
    (c_Desk_begins : PySem.W.codeIn K cd_Desk_begins "Desk.begins" = true)
    (k_Desk_begins : PySem.W.keepIn K (.ref f_Desk_begins) = true)
    (a_Desk_town : PySem.W.findIn K (.ref desk) "town" = some (some (.ref f_Desk_town)))
    (i_Desk_town : PySem.W.isFn K (.ref f_Desk_town) = true)
    (l_Desk_town : K.lookup f_Desk_town = some ⟨oc_Desk_town, od_Desk_town, .func (PySem.W.fnOf "town" "Desk.town" (defArgs s_Desk_town) (defBody s_Desk_town) (defScope s_Desk_town) .none kV_Desk_town dc_Desk_town pm_Desk_town an_Desk_town cd_Desk_town ct_Desk_town), sl_Desk_town⟩)
    (c_Desk_town : PySem.W.codeIn K cd_Desk_town "Desk.town" = true)
    (k_Desk_town : PySem.W.keepIn K (.ref f_Desk_town) = true)
    (a_Desk_best : PySem.W.findIn K (.ref desk) "best" = some (some (.ref f_Desk_best)))
    (i_Desk_best : PySem.W.isFn K (.ref f_Desk_best) = true)
    (l_Desk_best : K.lookup f_Desk_best = some ⟨oc_Desk_best, od_Desk_best, .func (PySem.W.fnOf "best" "Desk.best" (defArgs s_Desk_best) (defBody s_Desk_best) (defScope s_Desk_best) .none kV_Desk_best dc_Desk_best pm_Desk_best an_Desk_best cd_Desk_best ct_Desk_best), sl_Desk_best⟩)
    (c_Desk_best : PySem.W.codeIn K cd_Desk_best "Desk.best" = true)
    (k_Desk_best : PySem.W.keepIn K (.ref f_Desk_best) = true)
    (a_Desk_check : PySem.W.findIn K (.ref desk) "check" = some (some (.ref f_Desk_check)))
    (i_Desk_check : PySem.W.isFn K (.ref f_Desk_check) = true)
    (l_Desk_check : K.lookup f_Desk_check = some ⟨oc_Desk_check, od_Desk_check, .func (PySem.W.fnOf "check" "Desk.check" (defArgs s_Desk_check) (defBody s_Desk_check) (defScope s_Desk_check) .none kV_Desk_check dc_Desk_check pm_Desk_check an_Desk_check cd_Desk_check ct_Desk_check), sl_Desk_check⟩)
    (c_Desk_check : PySem.W.codeIn K cd_Desk_check "Desk.check" = true)
    (k_Desk_check : PySem.W.keepIn K (.ref f_Desk_check) = true)
    (a_Desk_with_choice : PySem.W.findIn K (.ref desk) "with_choice" = some (some (.ref f_Desk_with_choice)))
    (i_Desk_with_choice : PySem.W.isFn K (.ref f_Desk_with_choice) = true)
    (l_Desk_with_choice : K.lookup f_Desk_with_choice = some ⟨oc_Desk_with_choice, od_Desk_with_choice, .func (PySem.W.fnOf "with_choice" "Desk.with_choice" (defArgs s_Desk_with_choice) (defBody s_Desk_with_choice) (defScope s_Desk_with_choice) .none kV_Desk_with_choice dc_Desk_with_choice pm_Desk_with_choice an_Desk_with_choice cd_Desk_with_choice ct_Desk_with_choice), sl_Desk_with_choice⟩)
    (c_Desk_with_choice : PySem.W.codeIn K cd_Desk_with_choice "Desk.with_choice" = true)
    (k_Desk_with_choice : PySem.W.keepIn K (.ref f_Desk_with_choice) = true)
    (a_Desk_with_plan : PySem.W.findIn K (.ref desk) "with_plan" = some (some (.ref f_Desk_with_plan)))
    (i_Desk_with_plan : PySem.W.isFn K (.ref f_Desk_with_plan) = true)
    (l_Desk_with_plan : K.lookup f_Desk_with_plan = some ⟨oc_Desk_with_plan, od_Desk_with_plan, .func (PySem.W.fnOf "with_plan" "Desk.with_plan" (defArgs s_Desk_with_plan) (defBody s_Desk_with_plan) (defScope s_Desk_with_plan) .none kV_Desk_with_plan dc_Desk_with_plan pm_Desk_with_plan an_Desk_with_plan cd_Desk_with_plan ct_Desk_with_plan), sl_Desk_with_plan⟩)
    (c_Desk_with_plan : PySem.W.codeIn K cd_Desk_with_plan "Desk.with_plan" = true)
    (k_Desk_with_plan : PySem.W.keepIn K (.ref f_Desk_with_plan) = true)
    (a_Desk_through : PySem.W.findIn K (.ref desk) "through" = some (some (.ref f_Desk_through)))
    (i_Desk_through : PySem.W.isFn K (.ref f_Desk_through) = true)
    (l_Desk_through : K.lookup f_Desk_through = some ⟨oc_Desk_through, od_Desk_through, .func (PySem.W.fnOf "through" "Desk.through" (defArgs s_Desk_through) (defBody s_Desk_through) (defScope s_Desk_through) .none kV_Desk_through dc_Desk_through pm_Desk_through an_Desk_through cd_Desk_through ct_Desk_through), sl_Desk_through⟩)
    (c_Desk_through : PySem.W.codeIn K cd_Desk_through "Desk.through" = true)
    (k_Desk_through : PySem.W.keepIn K (.ref f_Desk_through) = true)
    (a_Desk_called : PySem.W.findIn K (.ref desk) "called" = some (some (.ref f_Desk_called)))
    (i_Desk_called : PySem.W.isFn K (.ref f_Desk_called) = true)
    (l_Desk_called : K.lookup f_Desk_called = some ⟨oc_Desk_called, od_Desk_called, .func (PySem.W.fnOf "called" "Desk.called" (defArgs s_Desk_called) (defBody s_Desk_called) (defScope s_Desk_called) .none kV_Desk_called dc_Desk_called pm_Desk_called an_Desk_called cd_Desk_called ct_Desk_called), sl_Desk_called⟩)
    (c_Desk_called : PySem.W.codeIn K cd_Desk_called "Desk.called" = true)
    (k_Desk_called : PySem.W.keepIn K (.ref f_Desk_called) = true)
    (a_Desk_answer : PySem.W.findIn K (.ref desk) "answer" = some (some (.ref f_Desk_answer)))
    (i_Desk_answer : PySem.W.isFn K (.ref f_Desk_answer) = true)
    (l_Desk_answer : K.lookup f_Desk_answer = some ⟨oc_Desk_answer, od_Desk_answer, .func (PySem.W.fnOf "answer" "Desk.answer" (defArgs s_Desk_answer) (defBody s_Desk_answer) (defScope s_Desk_answer) .none kV_Desk_answer dc_Desk_answer pm_Desk_answer an_Desk_answer cd_Desk_answer ct_Desk_answer), sl_Desk_answer⟩)
    (c_Desk_answer : PySem.W.codeIn K cd_Desk_answer "Desk.answer" = true)
    (k_Desk_answer : PySem.W.keepIn K (.ref f_Desk_answer) = true)
    (a_read_call : PySem.W.nsIn K mainGlobals "read_call" = some (some (.ref f_read_call)))
    (l_read_call : K.lookup f_read_call = some ⟨oc_read_call, od_read_call, .func (PySem.W.fnOf "read_call" "read_call" (defArgs s_read_call) (defBody s_read_call) (defScope s_read_call) .none kV_read_call dc_read_call pm_read_call an_read_call cd_read_call ct_read_call), sl_read_call⟩)
    (c_read_call : PySem.W.codeIn K cd_read_call "read_call" = true)
    (k_read_call : PySem.W.keepIn K (.ref f_read_call) = true)
    (a_answers : PySem.W.nsIn K mainGlobals "answers" = some (some (.ref f_answers)))
    (l_answers : K.lookup f_answers = some ⟨oc_answers, od_answers, .func (PySem.W.fnOf "answers" "answers" (defArgs s_answers) (defBody s_answers) (defScope s_answers) .none kV_answers dc_answers pm_answers an_answers cd_answers ct_answers), sl_answers⟩)
    (c_answers : PySem.W.codeIn K cd_answers "answers" = true)
    (k_answers : PySem.W.keepIn K (.ref f_answers) = true)
    : ∃ fd : FuncData, (∀ (s : Shared) (us : List Value), us.length = (["calls"] : List Str).length → BindsTo s fd ⟨us, []⟩ ((["calls"] : List Str).zip us)) ∧ ∀ base : Heap, K.In base → base.Ns mainGlobals mg → FnOk P w K mg base CX0 10 fa fd ["calls"] (spAns K) := by
  have e := hfa.symm.trans (PySem.W.mg_of X G a_answers)
  cases e
  have T : Tx K mg ⟨town, sheet, desk, ref, nums, rows⟩ := { b_len := PySem.W.mg_none_of X G z_len, b_range := PySem.W.mg_none_of X G z_range, b_any := PySem.W.mg_none_of X G z_any, b_all := PySem.W.mg_none_of X G z_all, b_sum := PySem.W.mg_none_of X G z_sum, b_min := PySem.W.mg_none_of X G z_min, b_zip := PySem.W.mg_none_of X G z_zip, b_list := PySem.W.mg_none_of X G z_list, b_enumerate := PySem.W.mg_none_of X G z_enumerate, b_int := PySem.W.mg_none_of X G z_int, b_ValueError := PySem.W.mg_none_of X G z_ValueError, g_LEFT_OUT := ⟨t_LEFT_OUT, PySem.W.mg_of X G g_LEFT_OUT⟩, g_CORNERS := ⟨t_CORNERS, PySem.W.mg_of X G g_CORNERS⟩, g_GOODNESS := ⟨t_GOODNESS, PySem.W.mg_of X G g_GOODNESS⟩, g_BAD := ⟨t_BAD, PySem.W.mg_of X G g_BAD⟩, g_NONE_THERE := ⟨t_NONE_THERE, PySem.W.mg_of X G g_NONE_THERE⟩, g_FULL := ⟨t_FULL, PySem.W.mg_of X G g_FULL⟩, g_NOT_DRAWN := ⟨t_NOT_DRAWN, PySem.W.mg_of X G g_NOT_DRAWN⟩, g_NO_FIT := ⟨t_NO_FIT, PySem.W.mg_of X G g_NO_FIT⟩, g_CLASHING := ⟨t_CLASHING, PySem.W.mg_of X G g_CLASHING⟩, g_THROUGH := ⟨t_THROUGH, PySem.W.mg_of X G g_THROUGH⟩, g_MOST_SIDE := ⟨t_MOST_SIDE, PySem.W.mg_of X G g_MOST_SIDE⟩, g_MOST_OFF := ⟨t_MOST_OFF, PySem.W.mg_of X G g_MOST_OFF⟩, g_FEWEST_POINTS := ⟨t_FEWEST_POINTS, PySem.W.mg_of X G g_FEWEST_POINTS⟩, g_MOST_POINTS := ⟨t_MOST_POINTS, PySem.W.mg_of X G g_MOST_POINTS⟩, g_MOST_TOWNS := ⟨t_MOST_TOWNS, PySem.W.mg_of X G g_MOST_TOWNS⟩, g_MOST_WORTH := ⟨t_MOST_WORTH, PySem.W.mg_of X G g_MOST_WORTH⟩, g_NUMBERS := PySem.W.mg_of X G g_NUMBERS, g_ROWS := PySem.W.mg_of X G g_ROWS, wN := tup7 l_NUMBERS, wR := tup7 l_ROWS, cT := ⟨pg_Town, hd_Town, po_Town, sa_Town⟩, cS := ⟨pg_Sheet, hd_Sheet, po_Sheet, sa_Sheet⟩, cD := ⟨pg_Desk, hd_Desk, po_Desk, sa_Desk⟩, nT_place := nT_place, nT_wide := nT_wide, nT_high := nT_high, nT_worth := nT_worth, nS_wide := nS_wide, nS_high := nS_high, nS_off := nS_off, nS_points := nS_points, nS_towns := nS_towns, nD_sheet := nD_sheet, xr := ⟨⟨nm, q, N, bs, _, sn, sub, ab, col, dd, m0, m1, m2, m3, m5, xR, by decide +kernel⟩, saR, eR, tR, kR⟩, noNum := nbR, xf := ⟨gaR, ggR, eR, hR⟩, ve := veR, gR := PySem.W.mg_of X G aR, te := exm_self eR iR tR sR }
  have F_square_of := fun_mk (st := s_square_of) l_square_of c_square_of k_square_of
  have b_square_of := F_square_of.binds (ps := ["one", "other"]) fun _ _ _ _ _ _ us hl => match us, hl with | [_, _], _ => rfl
  have F_is_farther := fun_mk (st := s_is_farther) l_is_farther c_is_farther k_is_farther
  have b_is_farther := F_is_farther.binds (ps := ["place", "begin", "end", "square"]) fun _ _ _ _ _ _ us hl => match us, hl with | [_, _, _, _], _ => rfl
  have F_is_less := fun_mk (st := s_is_less) l_is_less c_is_less k_is_less
  have b_is_less := F_is_less.binds (ps := ["one", "other"]) fun _ _ _ _ _ _ us hl => match us, hl with | [_, _], _ => rfl
  have F_part_within := fun_mk (st := s_part_within) l_part_within c_part_within k_part_within
  have b_part_within := F_part_within.binds (ps := ["begin", "end", "low", "high"]) fun _ _ _ _ _ _ us hl => match us, hl with | [_, _, _, _], _ => rfl
  have F_goes_within := fun_mk (st := s_goes_within) l_goes_within c_goes_within k_goes_within
  have b_goes_within := F_goes_within.binds (ps := ["begin", "end", "box"]) fun _ _ _ _ _ _ us hl => match us, hl with | [_, _, _], _ => rfl
  have F_is_within := fun_mk (st := s_is_within) l_is_within c_is_within k_is_within
  have b_is_within := F_is_within.binds (ps := ["place", "box"]) fun _ _ _ _ _ _ us hl => match us, hl with | [_, _], _ => rfl
  have F_overlap := fun_mk (st := s_overlap) l_overlap c_overlap k_overlap
  have b_overlap := F_overlap.binds (ps := ["one", "other"]) fun _ _ _ _ _ _ us hl => match us, hl with | [_, _], _ => rfl
  have F_Town_init := fun_mk (st := s_Town_init) l_Town_init c_Town_init k_Town_init
  have b_Town_init := F_Town_init.binds (ps := ["self", "place", "wide", "high", "worth"]) fun _ _ _ _ _ _ us hl => match us, hl with | [_, _, _, _, _], _ => rfl
  have F_Town_box := fun_mk (st := s_Town_box) l_Town_box c_Town_box k_Town_box
  have b_Town_box := F_Town_box.binds (ps := ["self", "corner"]) fun _ _ _ _ _ _ us hl => match us, hl with | [_, _], _ => rfl
  have F_fits := fun_mk (st := s_fits) l_fits c_fits k_fits
  have b_fits := F_fits.binds (ps := ["sheet", "k", "corner"]) fun _ _ _ _ _ _ us hl => match us, hl with | [_, _, _], _ => rfl
  have F_clash := fun_mk (st := s_clash) l_clash c_clash k_clash
  have b_clash := F_clash.binds (ps := ["sheet", "k", "corner", "other", "other_corner"]) fun _ _ _ _ _ _ us hl => match us, hl with | [_, _, _, _, _], _ => rfl
  have F_first_unfit := fun_mk (st := s_first_unfit) l_first_unfit c_first_unfit k_first_unfit
  have b_first_unfit := F_first_unfit.binds (ps := ["sheet", "plan"]) fun _ _ _ _ _ _ us hl => match us, hl with | [_, _], _ => rfl
  have F_first_clash := fun_mk (st := s_first_clash) l_first_clash c_first_clash k_first_clash
  have b_first_clash := F_first_clash.binds (ps := ["sheet", "plan"]) fun _ _ _ _ _ _ us hl => match us, hl with | [_, _], _ => rfl
  have F_rank_of := fun_mk (st := s_rank_of) l_rank_of c_rank_of k_rank_of
  have b_rank_of := F_rank_of.binds (ps := ["plan"]) fun _ _ _ _ _ _ us hl => match us, hl with | [_], _ => rfl
  have F_worth_of := fun_mk (st := s_worth_of) l_worth_of c_worth_of k_worth_of
  have b_worth_of := F_worth_of.binds (ps := ["sheet", "plan"]) fun _ _ _ _ _ _ us hl => match us, hl with | [_, _], _ => rfl
  have F_good_plans := fun_mk (st := s_good_plans) l_good_plans c_good_plans k_good_plans
  have b_good_plans := F_good_plans.binds (ps := ["sheet"]) fun _ _ _ _ _ _ us hl => match us, hl with | [_], _ => rfl
  have F_goes_with := fun_mk (st := s_goes_with) l_goes_with c_goes_with k_goes_with
  have b_goes_with := F_goes_with.binds (ps := ["sheet", "plan", "corner"]) fun _ _ _ _ _ _ us hl => match us, hl with | [_, _, _], _ => rfl
  have F_may_be_drawn := fun_mk (st := s_may_be_drawn) l_may_be_drawn c_may_be_drawn k_may_be_drawn
  have b_may_be_drawn := F_may_be_drawn.binds (ps := ["sheet", "begin", "end"]) fun _ _ _ _ _ _ us hl => match us, hl with | [_, _, _], _ => rfl
  have F_stretches := fun_mk (st := s_stretches) l_stretches c_stretches k_stretches
  have b_stretches := F_stretches.binds (ps := ["choice"]) fun _ _ _ _ _ _ us hl => match us, hl with | [_], _ => rfl
  have F_first_undrawn := fun_mk (st := s_first_undrawn) l_first_undrawn c_first_undrawn k_first_undrawn
  have b_first_undrawn := F_first_undrawn.binds (ps := ["sheet", "choice"]) fun _ _ _ _ _ _ us hl => match us, hl with | [_, _], _ => rfl
  have F_goes_through := fun_mk (st := s_goes_through) l_goes_through c_goes_through k_goes_through
  have b_goes_through := F_goes_through.binds (ps := ["sheet", "begin", "end", "k", "corner"]) fun _ _ _ _ _ _ us hl => match us, hl with | [_, _, _, _, _], _ => rfl
  have F_first_through := fun_mk (st := s_first_through) l_first_through c_first_through k_first_through
  have b_first_through := F_first_through.binds (ps := ["sheet", "choice", "k", "corner"]) fun _ _ _ _ _ _ us hl => match us, hl with | [_, _, _, _], _ => rfl
  have F_all_choices := fun_mk (st := s_all_choices) l_all_choices c_all_choices k_all_choices
  have b_all_choices := F_all_choices.binds (ps := ["sheet"]) fun _ _ _ _ _ _ us hl => match us, hl with | [_], _ => rfl
  have F_good_choices := fun_mk (st := s_good_choices) l_good_choices c_good_choices k_good_choices
  have b_good_choices := F_good_choices.binds (ps := ["sheet"]) fun _ _ _ _ _ _ us hl => match us, hl with | [_], _ => rfl
  have F_corners_hit := fun_mk (st := s_corners_hit) l_corners_hit c_corners_hit k_corners_hit
  have b_corners_hit := F_corners_hit.binds (ps := ["sheet", "choice"]) fun _ _ _ _ _ _ us hl => match us, hl with | [_, _], _ => rfl
  have F_measure_of := fun_mk (st := s_measure_of) l_measure_of c_measure_of k_measure_of
  have b_measure_of := F_measure_of.binds (ps := ["sheet", "choice", "plan"]) fun _ _ _ _ _ _ us hl => match us, hl with | [_, _, _], _ => rfl
  have F_is_clear := fun_mk (st := s_is_clear) l_is_clear c_is_clear k_is_clear
  have b_is_clear := F_is_clear.binds (ps := ["plan", "hit"]) fun _ _ _ _ _ _ us hl => match us, hl with | [_, _], _ => rfl
  have F_measures := fun_mk (st := s_measures) l_measures c_measures k_measures
  have b_measures := F_measures.binds (ps := ["sheet", "choices", "plans"]) fun _ _ _ _ _ _ us hl => match us, hl with | [_, _, _], _ => rfl
  have F_told_best := fun_mk (st := s_told_best) l_told_best c_told_best k_told_best
  have b_told_best := F_told_best.binds (ps := ["found"]) fun _ _ _ _ _ _ us hl => match us, hl with | [_], _ => rfl
  have F_Refused_init := fun_mk (st := s_Refused_init) l_Refused_init c_Refused_init k_Refused_init
  have b_Refused_init := F_Refused_init.binds (ps := ["self", "numbers"]) fun _ _ _ _ _ _ us hl => match us, hl with | [_, _], _ => rfl
  have F_want := fun_mk (st := s_want) l_want c_want k_want
  have b_want := F_want.binds (ps := ["truth", "numbers"]) fun _ _ _ _ _ _ us hl => match us, hl with | [_, _], _ => rfl
  have F_is_side := fun_mk (st := s_is_side) l_is_side c_is_side k_is_side
  have b_is_side := F_is_side.binds (ps := ["number"]) fun _ _ _ _ _ _ us hl => match us, hl with | [_], _ => rfl
  have F_Sheet_init := fun_mk (st := s_Sheet_init) l_Sheet_init c_Sheet_init k_Sheet_init
  have b_Sheet_init := F_Sheet_init.binds (ps := ["self", "wide", "high", "off", "points"]) fun _ _ _ _ _ _ us hl => match us, hl with | [_, _, _, _, _], _ => rfl
  have F_Sheet_has := fun_mk (st := s_Sheet_has) l_Sheet_has c_Sheet_has k_Sheet_has
  have b_Sheet_has := F_Sheet_has.binds (ps := ["self", "place"]) fun _ _ _ _ _ _ us hl => match us, hl with | [_, _], _ => rfl
  have F_Desk_init := fun_mk (st := s_Desk_init) l_Desk_init c_Desk_init k_Desk_init
  have b_Desk_init := F_Desk_init.binds (ps := ["self"]) fun _ _ _ _ _ _ us hl => match us, hl with | [_], _ => rfl
  have F_Desk_want_choice := fun_mk (st := s_Desk_want_choice) l_Desk_want_choice c_Desk_want_choice k_Desk_want_choice
  have b_Desk_want_choice := F_Desk_want_choice.binds (ps := ["self", "choice"]) fun _ _ _ _ _ _ us hl => match us, hl with | [_, _], _ => rfl
  have F_Desk_want_plan := fun_mk (st := s_Desk_want_plan) l_Desk_want_plan c_Desk_want_plan k_Desk_want_plan
  have b_Desk_want_plan := F_Desk_want_plan.binds (ps := ["self", "plan"]) fun _ _ _ _ _ _ us hl => match us, hl with | [_, _], _ => rfl
  have F_Desk_want_drawn := fun_mk (st := s_Desk_want_drawn) l_Desk_want_drawn c_Desk_want_drawn k_Desk_want_drawn
  have b_Desk_want_drawn := F_Desk_want_drawn.binds (ps := ["self", "choice"]) fun _ _ _ _ _ _ us hl => match us, hl with | [_, _], _ => rfl
  have F_Desk_want_names := fun_mk (st := s_Desk_want_names) l_Desk_want_names c_Desk_want_names k_Desk_want_names
  have b_Desk_want_names := F_Desk_want_names.binds (ps := ["self", "plan"]) fun _ _ _ _ _ _ us hl => match us, hl with | [_, _], _ => rfl
  have F_Desk_begins := fun_mk (st := s_Desk_begins) l_Desk_begins c_Desk_begins k_Desk_begins
  have b_Desk_begins := F_Desk_begins.binds (ps := ["self", "wide", "high", "off", "row"]) fun _ _ _ _ _ _ us hl => match us, hl with | [_, _, _, _, _], _ => rfl
  have F_Desk_town := fun_mk (st := s_Desk_town) l_Desk_town c_Desk_town k_Desk_town
  have b_Desk_town := F_Desk_town.binds (ps := ["self", "place", "wide", "high", "worth"]) fun _ _ _ _ _ _ us hl => match us, hl with | [_, _, _, _, _], _ => rfl
  have F_Desk_best := fun_mk (st := s_Desk_best) l_Desk_best c_Desk_best k_Desk_best
  have b_Desk_best := F_Desk_best.binds (ps := ["self"]) fun _ _ _ _ _ _ us hl => match us, hl with | [_], _ => rfl
  have F_Desk_check := fun_mk (st := s_Desk_check) l_Desk_check c_Desk_check k_Desk_check
  have b_Desk_check := F_Desk_check.binds (ps := ["self", "choice", "plan"]) fun _ _ _ _ _ _ us hl => match us, hl with | [_, _, _], _ => rfl
  have F_Desk_with_choice := fun_mk (st := s_Desk_with_choice) l_Desk_with_choice c_Desk_with_choice k_Desk_with_choice
  have b_Desk_with_choice := F_Desk_with_choice.binds (ps := ["self", "choice"]) fun _ _ _ _ _ _ us hl => match us, hl with | [_, _], _ => rfl
  have F_Desk_with_plan := fun_mk (st := s_Desk_with_plan) l_Desk_with_plan c_Desk_with_plan k_Desk_with_plan
  have b_Desk_with_plan := F_Desk_with_plan.binds (ps := ["self", "plan"]) fun _ _ _ _ _ _ us hl => match us, hl with | [_, _], _ => rfl
  have F_Desk_through := fun_mk (st := s_Desk_through) l_Desk_through c_Desk_through k_Desk_through
  have b_Desk_through := F_Desk_through.binds (ps := ["self", "begin", "end", "k", "corner"]) fun _ _ _ _ _ _ us hl => match us, hl with | [_, _, _, _, _], _ => rfl
  have F_Desk_called := fun_mk (st := s_Desk_called) l_Desk_called c_Desk_called k_Desk_called
  have b_Desk_called := F_Desk_called.binds (ps := ["self", "call", "n", "rows"]) fun _ _ _ _ _ _ us hl => match us, hl with | [_, _, _, _], _ => rfl
  have F_Desk_answer := fun_mk (st := s_Desk_answer) l_Desk_answer c_Desk_answer k_Desk_answer
  have b_Desk_answer := F_Desk_answer.binds (ps := ["self", "call", "n", "rows"]) fun _ _ _ _ _ _ us hl => match us, hl with | [_, _, _, _], _ => rfl
  have F_read_call := fun_mk (st := s_read_call) l_read_call c_read_call k_read_call
  have b_read_call := F_read_call.binds (ps := ["calls", "at"]) fun _ _ _ _ _ _ us hl => match us, hl with | [_, _], _ => rfl
  have F_answers := fun_mk (st := s_answers) l_answers c_answers k_answers
  have b_answers := F_answers.binds (ps := ["calls"]) fun _ _ _ _ _ _ us hl => match us, hl with | [_], _ => rfl
  refine ⟨PySem.W.fnOf "answers" "answers" (defArgs s_answers) (defBody s_answers) (defScope s_answers) .none kV_answers dc_answers pm_answers an_answers cd_answers ct_answers, fun s us hu => match us, hu with | [_], _ => .of_eq rfl, fun base _ _ => ?_⟩
  have O_Sheet_init : FnOk P w K mg base CX0 1 f_Sheet_init _ ["self", "wide", "high", "off", "points"] (sp_Sheet_init ⟨town, sheet, desk, ref, nums, rows⟩) := ok_Sheet_init F_Sheet_init T
  have K_Sheet_init : MkC P w K mg base 1 sheet "Sheet" ["self", "wide", "high", "off", "points"] (sp_Sheet_init ⟨town, sheet, desk, ref, nums, rows⟩) := ⟨_, _, O_Sheet_init, ⟨mk_Sheet, a_Sheet_init, i_Sheet_init, kc_Sheet⟩, PySem.W.mg_of X G a_Sheet, b_Sheet_init⟩
  have O_Desk_init : FnOk P w K mg base CX0 3 f_Desk_init _ ["self"] (sp_Desk_init ⟨town, sheet, desk, ref, nums, rows⟩) := ok_Desk_init F_Desk_init T K_Sheet_init
  have K_Desk_init : MkC P w K mg base 3 desk "Desk" ["self"] (sp_Desk_init ⟨town, sheet, desk, ref, nums, rows⟩) := ⟨_, _, O_Desk_init, ⟨mk_Desk, a_Desk_init, i_Desk_init, kc_Desk⟩, PySem.W.mg_of X G a_Desk, b_Desk_init⟩
  have O_read_call : FnOk P w K mg base CX0 1 f_read_call _ ["calls", "at"] (sp_read_call K ⟨town, sheet, desk, ref, nums, rows⟩) := ok_read_call F_read_call T
  have K_read_call : Cal P w K mg base CX0 1 "read_call" ["calls", "at"] (sp_read_call K ⟨town, sheet, desk, ref, nums, rows⟩) := ⟨_, _, O_read_call, PySem.W.mg_of X G a_read_call, k_read_call, b_read_call⟩
  have O_Refused_init : FnOk P w K mg base CX0 1 f_Refused_init _ ["self", "numbers"] (sp_Refused_init ⟨town, sheet, desk, ref, nums, rows⟩) := ok_Refused_init F_Refused_init T
  have K_Refused_init : RIni P w K mg base 1 ref ["self", "numbers"] (sp_Refused_init ⟨town, sheet, desk, ref, nums, rows⟩) := ⟨_, _, O_Refused_init, a_Refused_init, i_Refused_init, b_Refused_init⟩
  have O_want : FnOk P w K mg base (L2.CX P w) 3 f_want _ ["truth", "numbers"] (sp_want ⟨town, sheet, desk, ref, nums, rows⟩) := ok_want F_want T K_Refused_init
  have K_want : Cal P w K mg base (L2.CX P w) 3 "want" ["truth", "numbers"] (sp_want ⟨town, sheet, desk, ref, nums, rows⟩) := ⟨_, _, O_want, PySem.W.mg_of X G a_want, k_want, b_want⟩
  have O_is_side : FnOk P w K mg base CX0 1 f_is_side _ ["number"] (sp_is_side ⟨town, sheet, desk, ref, nums, rows⟩) := ok_is_side F_is_side T
  have K_is_side : Cal P w K mg base CX0 1 "is_side" ["number"] (sp_is_side ⟨town, sheet, desk, ref, nums, rows⟩) := ⟨_, _, O_is_side, PySem.W.mg_of X G a_is_side, k_is_side, b_is_side⟩
  have O_Sheet_has : FnOk P w K mg base CX0 1 f_Sheet_has _ ["self", "place"] (sp_Sheet_has ⟨town, sheet, desk, ref, nums, rows⟩) := ok_Sheet_has F_Sheet_has T
  have K_Sheet_has : MCal P w K mg base CX0 1 sheet "has" ["self", "place"] (sp_Sheet_has ⟨town, sheet, desk, ref, nums, rows⟩) := ⟨_, _, O_Sheet_has, ⟨a_Sheet_has, i_Sheet_has, k_Sheet_has⟩, T.cS, b_Sheet_has⟩
  have O_Desk_begins : FnOk P w K mg base (L2.CX P w) 4 f_Desk_begins _ ["self", "wide", "high", "off", "row"] (sp_Desk_begins ⟨town, sheet, desk, ref, nums, rows⟩) := ok_Desk_begins F_Desk_begins T K_want K_is_side K_Sheet_init K_Sheet_has
  have K_Desk_begins : MCal P w K mg base (L2.CX P w) 4 desk "begins" ["self", "wide", "high", "off", "row"] (sp_Desk_begins ⟨town, sheet, desk, ref, nums, rows⟩) := ⟨_, _, O_Desk_begins, ⟨a_Desk_begins, i_Desk_begins, k_Desk_begins⟩, T.cD, b_Desk_begins⟩
  have O_Town_init : FnOk P w K mg base CX0 1 f_Town_init _ ["self", "place", "wide", "high", "worth"] (sp_Town_init ⟨town, sheet, desk, ref, nums, rows⟩) := ok_Town_init F_Town_init T
  have K_Town_init : MkC P w K mg base 1 town "Town" ["self", "place", "wide", "high", "worth"] (sp_Town_init ⟨town, sheet, desk, ref, nums, rows⟩) := ⟨_, _, O_Town_init, ⟨mk_Town, a_Town_init, i_Town_init, kc_Town⟩, PySem.W.mg_of X G a_Town, b_Town_init⟩
  have O_Desk_town : FnOk P w K mg base (L2.CX P w) 4 f_Desk_town _ ["self", "place", "wide", "high", "worth"] (sp_Desk_town ⟨town, sheet, desk, ref, nums, rows⟩) := ok_Desk_town F_Desk_town T K_want K_Sheet_has K_is_side K_Town_init
  have K_Desk_town : MCal P w K mg base (L2.CX P w) 4 desk "town" ["self", "place", "wide", "high", "worth"] (sp_Desk_town ⟨town, sheet, desk, ref, nums, rows⟩) := ⟨_, _, O_Desk_town, ⟨a_Desk_town, i_Desk_town, k_Desk_town⟩, T.cD, b_Desk_town⟩
  have O_told_best : FnOk P w K mg base CX0 1 f_told_best _ ["found"] (sp_told_best ⟨town, sheet, desk, ref, nums, rows⟩) := ok_told_best F_told_best T
  have K_told_best : Cal P w K mg base CX0 1 "told_best" ["found"] (sp_told_best ⟨town, sheet, desk, ref, nums, rows⟩) := ⟨_, _, O_told_best, PySem.W.mg_of X G a_told_best, k_told_best, b_told_best⟩
  have O_stretches : FnOk P w K mg base CX0 1 f_stretches _ ["choice"] (sp_stretches ⟨town, sheet, desk, ref, nums, rows⟩) := ok_stretches F_stretches T
  have K_stretches : Cal P w K mg base CX0 1 "stretches" ["choice"] (sp_stretches ⟨town, sheet, desk, ref, nums, rows⟩) := ⟨_, _, O_stretches, PySem.W.mg_of X G a_stretches, k_stretches, b_stretches⟩
  have O_part_within : FnOk P w K mg base CX0 1 f_part_within _ ["begin", "end", "low", "high"] (sp_part_within ⟨town, sheet, desk, ref, nums, rows⟩) := ok_part_within F_part_within T
  have K_part_within : Cal P w K mg base CX0 1 "part_within" ["begin", "end", "low", "high"] (sp_part_within ⟨town, sheet, desk, ref, nums, rows⟩) := ⟨_, _, O_part_within, PySem.W.mg_of X G a_part_within, k_part_within, b_part_within⟩
  have O_is_less : FnOk P w K mg base CX0 1 f_is_less _ ["one", "other"] (sp_is_less ⟨town, sheet, desk, ref, nums, rows⟩) := ok_is_less F_is_less T
  have K_is_less : Cal P w K mg base CX0 1 "is_less" ["one", "other"] (sp_is_less ⟨town, sheet, desk, ref, nums, rows⟩) := ⟨_, _, O_is_less, PySem.W.mg_of X G a_is_less, k_is_less, b_is_less⟩
  have O_goes_within : FnOk P w K mg base CX0 2 f_goes_within _ ["begin", "end", "box"] (sp_goes_within ⟨town, sheet, desk, ref, nums, rows⟩) := ok_goes_within F_goes_within T K_part_within K_is_less
  have K_goes_within : Cal P w K mg base CX0 2 "goes_within" ["begin", "end", "box"] (sp_goes_within ⟨town, sheet, desk, ref, nums, rows⟩) := ⟨_, _, O_goes_within, PySem.W.mg_of X G a_goes_within, k_goes_within, b_goes_within⟩
  have O_Town_box : FnOk P w K mg base CX0 1 f_Town_box _ ["self", "corner"] (sp_Town_box ⟨town, sheet, desk, ref, nums, rows⟩) := ok_Town_box F_Town_box T
  have K_Town_box : MCal P w K mg base CX0 1 town "box" ["self", "corner"] (sp_Town_box ⟨town, sheet, desk, ref, nums, rows⟩) := ⟨_, _, O_Town_box, ⟨a_Town_box, i_Town_box, k_Town_box⟩, T.cT, b_Town_box⟩
  have O_goes_through : FnOk P w K mg base CX0 3 f_goes_through _ ["sheet", "begin", "end", "k", "corner"] (sp_goes_through ⟨town, sheet, desk, ref, nums, rows⟩) := ok_goes_through F_goes_through T K_goes_within K_Town_box
  have K_goes_through : Cal P w K mg base CX0 3 "goes_through" ["sheet", "begin", "end", "k", "corner"] (sp_goes_through ⟨town, sheet, desk, ref, nums, rows⟩) := ⟨_, _, O_goes_through, PySem.W.mg_of X G a_goes_through, k_goes_through, b_goes_through⟩
  have O_first_through : FnOk P w K mg base CX0 4 f_first_through _ ["sheet", "choice", "k", "corner"] (sp_first_through ⟨town, sheet, desk, ref, nums, rows⟩) := ok_first_through F_first_through T K_stretches K_goes_through
  have K_first_through : Cal P w K mg base CX0 4 "first_through" ["sheet", "choice", "k", "corner"] (sp_first_through ⟨town, sheet, desk, ref, nums, rows⟩) := ⟨_, _, O_first_through, PySem.W.mg_of X G a_first_through, k_first_through, b_first_through⟩
  have O_corners_hit : FnOk P w K mg base CX0 5 f_corners_hit _ ["sheet", "choice"] (sp_corners_hit ⟨town, sheet, desk, ref, nums, rows⟩) := ok_corners_hit F_corners_hit T K_first_through
  have K_corners_hit : Cal P w K mg base CX0 5 "corners_hit" ["sheet", "choice"] (sp_corners_hit ⟨town, sheet, desk, ref, nums, rows⟩) := ⟨_, _, O_corners_hit, PySem.W.mg_of X G a_corners_hit, k_corners_hit, b_corners_hit⟩
  have O_is_clear : FnOk P w K mg base CX0 1 f_is_clear _ ["plan", "hit"] (sp_is_clear ⟨town, sheet, desk, ref, nums, rows⟩) := ok_is_clear F_is_clear T
  have K_is_clear : Cal P w K mg base CX0 1 "is_clear" ["plan", "hit"] (sp_is_clear ⟨town, sheet, desk, ref, nums, rows⟩) := ⟨_, _, O_is_clear, PySem.W.mg_of X G a_is_clear, k_is_clear, b_is_clear⟩
  have O_rank_of : FnOk P w K mg base CX0 1 f_rank_of _ ["plan"] (sp_rank_of ⟨town, sheet, desk, ref, nums, rows⟩) := ok_rank_of F_rank_of T
  have K_rank_of : Cal P w K mg base CX0 1 "rank_of" ["plan"] (sp_rank_of ⟨town, sheet, desk, ref, nums, rows⟩) := ⟨_, _, O_rank_of, PySem.W.mg_of X G a_rank_of, k_rank_of, b_rank_of⟩
  have O_worth_of : FnOk P w K mg base CX0 1 f_worth_of _ ["sheet", "plan"] (sp_worth_of ⟨town, sheet, desk, ref, nums, rows⟩) := ok_worth_of F_worth_of T
  have K_worth_of : Cal P w K mg base CX0 1 "worth_of" ["sheet", "plan"] (sp_worth_of ⟨town, sheet, desk, ref, nums, rows⟩) := ⟨_, _, O_worth_of, PySem.W.mg_of X G a_worth_of, k_worth_of, b_worth_of⟩
  have O_measure_of : FnOk P w K mg base CX0 2 f_measure_of _ ["sheet", "choice", "plan"] (sp_measure_of ⟨town, sheet, desk, ref, nums, rows⟩) := ok_measure_of F_measure_of T K_rank_of K_worth_of
  have K_measure_of : Cal P w K mg base CX0 2 "measure_of" ["sheet", "choice", "plan"] (sp_measure_of ⟨town, sheet, desk, ref, nums, rows⟩) := ⟨_, _, O_measure_of, PySem.W.mg_of X G a_measure_of, k_measure_of, b_measure_of⟩
  have O_measures : FnOk P w K mg base CX0 6 f_measures _ ["sheet", "choices", "plans"] (sp_measures ⟨town, sheet, desk, ref, nums, rows⟩) := ok_measures F_measures T K_corners_hit K_is_clear K_measure_of
  have K_measures : Cal P w K mg base CX0 6 "measures" ["sheet", "choices", "plans"] (sp_measures ⟨town, sheet, desk, ref, nums, rows⟩) := ⟨_, _, O_measures, PySem.W.mg_of X G a_measures, k_measures, b_measures⟩
  have O_is_within : FnOk P w K mg base CX0 1 f_is_within _ ["place", "box"] (sp_is_within ⟨town, sheet, desk, ref, nums, rows⟩) := ok_is_within F_is_within T
  have K_is_within : Cal P w K mg base CX0 1 "is_within" ["place", "box"] (sp_is_within ⟨town, sheet, desk, ref, nums, rows⟩) := ⟨_, _, O_is_within, PySem.W.mg_of X G a_is_within, k_is_within, b_is_within⟩
  have O_fits : FnOk P w K mg base CX0 2 f_fits _ ["sheet", "k", "corner"] (sp_fits ⟨town, sheet, desk, ref, nums, rows⟩) := ok_fits F_fits T K_Town_box K_is_within
  have K_fits : Cal P w K mg base CX0 2 "fits" ["sheet", "k", "corner"] (sp_fits ⟨town, sheet, desk, ref, nums, rows⟩) := ⟨_, _, O_fits, PySem.W.mg_of X G a_fits, k_fits, b_fits⟩
  have O_overlap : FnOk P w K mg base CX0 1 f_overlap _ ["one", "other"] (sp_overlap ⟨town, sheet, desk, ref, nums, rows⟩) := ok_overlap F_overlap T
  have K_overlap : Cal P w K mg base CX0 1 "overlap" ["one", "other"] (sp_overlap ⟨town, sheet, desk, ref, nums, rows⟩) := ⟨_, _, O_overlap, PySem.W.mg_of X G a_overlap, k_overlap, b_overlap⟩
  have O_clash : FnOk P w K mg base CX0 2 f_clash _ ["sheet", "k", "corner", "other", "other_corner"] (sp_clash ⟨town, sheet, desk, ref, nums, rows⟩) := ok_clash F_clash T K_overlap K_Town_box
  have K_clash : Cal P w K mg base CX0 2 "clash" ["sheet", "k", "corner", "other", "other_corner"] (sp_clash ⟨town, sheet, desk, ref, nums, rows⟩) := ⟨_, _, O_clash, PySem.W.mg_of X G a_clash, k_clash, b_clash⟩
  have O_goes_with : FnOk P w K mg base CX0 3 f_goes_with _ ["sheet", "plan", "corner"] (sp_goes_with ⟨town, sheet, desk, ref, nums, rows⟩) := ok_goes_with F_goes_with T K_clash
  have K_goes_with : Cal P w K mg base CX0 3 "goes_with" ["sheet", "plan", "corner"] (sp_goes_with ⟨town, sheet, desk, ref, nums, rows⟩) := ⟨_, _, O_goes_with, PySem.W.mg_of X G a_goes_with, k_goes_with, b_goes_with⟩
  have O_good_plans : FnOk P w K mg base CX0 4 f_good_plans _ ["sheet"] (sp_good_plans ⟨town, sheet, desk, ref, nums, rows⟩) := ok_good_plans F_good_plans T K_fits K_goes_with
  have K_good_plans : Cal P w K mg base CX0 4 "good_plans" ["sheet"] (sp_good_plans ⟨town, sheet, desk, ref, nums, rows⟩) := ⟨_, _, O_good_plans, PySem.W.mg_of X G a_good_plans, k_good_plans, b_good_plans⟩
  have O_all_choices : FnOk P w K mg base CX0 1 f_all_choices _ ["sheet"] (sp_all_choices ⟨town, sheet, desk, ref, nums, rows⟩) := ok_all_choices F_all_choices T
  have K_all_choices : Cal P w K mg base CX0 1 "all_choices" ["sheet"] (sp_all_choices ⟨town, sheet, desk, ref, nums, rows⟩) := ⟨_, _, O_all_choices, PySem.W.mg_of X G a_all_choices, k_all_choices, b_all_choices⟩
  have O_square_of : FnOk P w K mg base CX0 1 f_square_of _ ["one", "other"] (sp_square_of ⟨town, sheet, desk, ref, nums, rows⟩) := ok_square_of F_square_of T
  have K_square_of : Cal P w K mg base CX0 1 "square_of" ["one", "other"] (sp_square_of ⟨town, sheet, desk, ref, nums, rows⟩) := ⟨_, _, O_square_of, PySem.W.mg_of X G a_square_of, k_square_of, b_square_of⟩
  have O_is_farther : FnOk P w K mg base CX0 2 f_is_farther _ ["place", "begin", "end", "square"] (sp_is_farther ⟨town, sheet, desk, ref, nums, rows⟩) := ok_is_farther F_is_farther T K_square_of
  have K_is_farther : Cal P w K mg base CX0 2 "is_farther" ["place", "begin", "end", "square"] (sp_is_farther ⟨town, sheet, desk, ref, nums, rows⟩) := ⟨_, _, O_is_farther, PySem.W.mg_of X G a_is_farther, k_is_farther, b_is_farther⟩
  have O_may_be_drawn : FnOk P w K mg base CX0 3 f_may_be_drawn _ ["sheet", "begin", "end"] (sp_may_be_drawn ⟨town, sheet, desk, ref, nums, rows⟩) := ok_may_be_drawn F_may_be_drawn T K_is_farther
  have K_may_be_drawn : Cal P w K mg base CX0 3 "may_be_drawn" ["sheet", "begin", "end"] (sp_may_be_drawn ⟨town, sheet, desk, ref, nums, rows⟩) := ⟨_, _, O_may_be_drawn, PySem.W.mg_of X G a_may_be_drawn, k_may_be_drawn, b_may_be_drawn⟩
  have O_first_undrawn : FnOk P w K mg base CX0 4 f_first_undrawn _ ["sheet", "choice"] (sp_first_undrawn ⟨town, sheet, desk, ref, nums, rows⟩) := ok_first_undrawn F_first_undrawn T K_stretches K_may_be_drawn
  have K_first_undrawn : Cal P w K mg base CX0 4 "first_undrawn" ["sheet", "choice"] (sp_first_undrawn ⟨town, sheet, desk, ref, nums, rows⟩) := ⟨_, _, O_first_undrawn, PySem.W.mg_of X G a_first_undrawn, k_first_undrawn, b_first_undrawn⟩
  have O_good_choices : FnOk P w K mg base CX0 5 f_good_choices _ ["sheet"] (sp_good_choices ⟨town, sheet, desk, ref, nums, rows⟩) := ok_good_choices F_good_choices T K_all_choices K_first_undrawn
  have K_good_choices : Cal P w K mg base CX0 5 "good_choices" ["sheet"] (sp_good_choices ⟨town, sheet, desk, ref, nums, rows⟩) := ⟨_, _, O_good_choices, PySem.W.mg_of X G a_good_choices, k_good_choices, b_good_choices⟩
  have O_Desk_best : FnOk P w K mg base CX0 7 f_Desk_best _ ["self"] (sp_Desk_best ⟨town, sheet, desk, ref, nums, rows⟩) := ok_Desk_best F_Desk_best T K_told_best K_measures K_good_plans K_good_choices
  have K_Desk_best : MCal P w K mg base CX0 7 desk "best" ["self"] (sp_Desk_best ⟨town, sheet, desk, ref, nums, rows⟩) := ⟨_, _, O_Desk_best, ⟨a_Desk_best, i_Desk_best, k_Desk_best⟩, T.cD, b_Desk_best⟩
  have O_Desk_want_choice : FnOk P w K mg base (L2.CX P w) 4 f_Desk_want_choice _ ["self", "choice"] (sp_Desk_want_choice ⟨town, sheet, desk, ref, nums, rows⟩) := ok_Desk_want_choice F_Desk_want_choice T K_want
  have K_Desk_want_choice : MCal P w K mg base (L2.CX P w) 4 desk "want_choice" ["self", "choice"] (sp_Desk_want_choice ⟨town, sheet, desk, ref, nums, rows⟩) := ⟨_, _, O_Desk_want_choice, ⟨a_Desk_want_choice, i_Desk_want_choice, k_Desk_want_choice⟩, T.cD, b_Desk_want_choice⟩
  have O_Desk_want_plan : FnOk P w K mg base (L2.CX P w) 4 f_Desk_want_plan _ ["self", "plan"] (sp_Desk_want_plan ⟨town, sheet, desk, ref, nums, rows⟩) := ok_Desk_want_plan F_Desk_want_plan T K_want
  have K_Desk_want_plan : MCal P w K mg base (L2.CX P w) 4 desk "want_plan" ["self", "plan"] (sp_Desk_want_plan ⟨town, sheet, desk, ref, nums, rows⟩) := ⟨_, _, O_Desk_want_plan, ⟨a_Desk_want_plan, i_Desk_want_plan, k_Desk_want_plan⟩, T.cD, b_Desk_want_plan⟩
  have O_Desk_want_drawn : FnOk P w K mg base (L2.CX P w) 5 f_Desk_want_drawn _ ["self", "choice"] (sp_Desk_want_drawn ⟨town, sheet, desk, ref, nums, rows⟩) := ok_Desk_want_drawn F_Desk_want_drawn T K_first_undrawn K_Refused_init
  have K_Desk_want_drawn : MCal P w K mg base (L2.CX P w) 5 desk "want_drawn" ["self", "choice"] (sp_Desk_want_drawn ⟨town, sheet, desk, ref, nums, rows⟩) := ⟨_, _, O_Desk_want_drawn, ⟨a_Desk_want_drawn, i_Desk_want_drawn, k_Desk_want_drawn⟩, T.cD, b_Desk_want_drawn⟩
  have O_first_unfit : FnOk P w K mg base CX0 3 f_first_unfit _ ["sheet", "plan"] (sp_first_unfit ⟨town, sheet, desk, ref, nums, rows⟩) := ok_first_unfit F_first_unfit T K_fits
  have K_first_unfit : Cal P w K mg base CX0 3 "first_unfit" ["sheet", "plan"] (sp_first_unfit ⟨town, sheet, desk, ref, nums, rows⟩) := ⟨_, _, O_first_unfit, PySem.W.mg_of X G a_first_unfit, k_first_unfit, b_first_unfit⟩
  have O_first_clash : FnOk P w K mg base CX0 3 f_first_clash _ ["sheet", "plan"] (sp_first_clash ⟨town, sheet, desk, ref, nums, rows⟩) := ok_first_clash F_first_clash T K_clash
  have K_first_clash : Cal P w K mg base CX0 3 "first_clash" ["sheet", "plan"] (sp_first_clash ⟨town, sheet, desk, ref, nums, rows⟩) := ⟨_, _, O_first_clash, PySem.W.mg_of X G a_first_clash, k_first_clash, b_first_clash⟩
  have O_Desk_want_names : FnOk P w K mg base (L2.CX P w) 4 f_Desk_want_names _ ["self", "plan"] (sp_Desk_want_names ⟨town, sheet, desk, ref, nums, rows⟩) := ok_Desk_want_names F_Desk_want_names T K_first_unfit K_Refused_init K_first_clash
  have K_Desk_want_names : MCal P w K mg base (L2.CX P w) 4 desk "want_names" ["self", "plan"] (sp_Desk_want_names ⟨town, sheet, desk, ref, nums, rows⟩) := ⟨_, _, O_Desk_want_names, ⟨a_Desk_want_names, i_Desk_want_names, k_Desk_want_names⟩, T.cD, b_Desk_want_names⟩
  have O_Desk_check : FnOk P w K mg base (L2.CX P w) 6 f_Desk_check _ ["self", "choice", "plan"] (sp_Desk_check ⟨town, sheet, desk, ref, nums, rows⟩) := ok_Desk_check F_Desk_check T K_Desk_want_choice K_Desk_want_plan K_Desk_want_drawn K_Desk_want_names K_first_through K_Refused_init K_worth_of K_rank_of
  have K_Desk_check : MCal P w K mg base (L2.CX P w) 6 desk "check" ["self", "choice", "plan"] (sp_Desk_check ⟨town, sheet, desk, ref, nums, rows⟩) := ⟨_, _, O_Desk_check, ⟨a_Desk_check, i_Desk_check, k_Desk_check⟩, T.cD, b_Desk_check⟩
  have O_Desk_with_choice : FnOk P w K mg base (L2.CX P w) 7 f_Desk_with_choice _ ["self", "choice"] (sp_Desk_with_choice ⟨town, sheet, desk, ref, nums, rows⟩) := ok_Desk_with_choice F_Desk_with_choice T K_Desk_want_choice K_Desk_want_drawn K_told_best K_measures K_good_plans
  have K_Desk_with_choice : MCal P w K mg base (L2.CX P w) 7 desk "with_choice" ["self", "choice"] (sp_Desk_with_choice ⟨town, sheet, desk, ref, nums, rows⟩) := ⟨_, _, O_Desk_with_choice, ⟨a_Desk_with_choice, i_Desk_with_choice, k_Desk_with_choice⟩, T.cD, b_Desk_with_choice⟩
  have O_Desk_with_plan : FnOk P w K mg base (L2.CX P w) 7 f_Desk_with_plan _ ["self", "plan"] (sp_Desk_with_plan ⟨town, sheet, desk, ref, nums, rows⟩) := ok_Desk_with_plan F_Desk_with_plan T K_Desk_want_plan K_Desk_want_names K_measures K_good_choices K_want K_told_best
  have K_Desk_with_plan : MCal P w K mg base (L2.CX P w) 7 desk "with_plan" ["self", "plan"] (sp_Desk_with_plan ⟨town, sheet, desk, ref, nums, rows⟩) := ⟨_, _, O_Desk_with_plan, ⟨a_Desk_with_plan, i_Desk_with_plan, k_Desk_with_plan⟩, T.cD, b_Desk_with_plan⟩
  have O_Desk_through : FnOk P w K mg base (L2.CX P w) 4 f_Desk_through _ ["self", "begin", "end", "k", "corner"] (sp_Desk_through ⟨town, sheet, desk, ref, nums, rows⟩) := ok_Desk_through F_Desk_through T K_want K_goes_through
  have K_Desk_through : MCal P w K mg base (L2.CX P w) 4 desk "through" ["self", "begin", "end", "k", "corner"] (sp_Desk_through ⟨town, sheet, desk, ref, nums, rows⟩) := ⟨_, _, O_Desk_through, ⟨a_Desk_through, i_Desk_through, k_Desk_through⟩, T.cD, b_Desk_through⟩
  have O_Desk_called : FnOk P w K mg base (L2.CX P w) 8 f_Desk_called _ ["self", "call", "n", "rows"] (sp_Desk_called ⟨town, sheet, desk, ref, nums, rows⟩) := ok_Desk_called F_Desk_called T K_Desk_begins K_Desk_town K_Desk_best K_Desk_check K_Desk_with_choice K_Desk_with_plan K_Desk_through
  have K_Desk_called : MCal P w K mg base (L2.CX P w) 8 desk "called" ["self", "call", "n", "rows"] (sp_Desk_called ⟨town, sheet, desk, ref, nums, rows⟩) := ⟨_, _, O_Desk_called, ⟨a_Desk_called, i_Desk_called, k_Desk_called⟩, T.cD, b_Desk_called⟩
  have O_Desk_answer : FnOk P w K mg base CX0 9 f_Desk_answer _ ["self", "call", "n", "rows"] (sp_Desk_answer ⟨town, sheet, desk, ref, nums, rows⟩) := ok_Desk_answer F_Desk_answer T K_Desk_called
  have K_Desk_answer : MCal P w K mg base CX0 9 desk "answer" ["self", "call", "n", "rows"] (sp_Desk_answer ⟨town, sheet, desk, ref, nums, rows⟩) := ⟨_, _, O_Desk_answer, ⟨a_Desk_answer, i_Desk_answer, k_Desk_answer⟩, T.cD, b_Desk_answer⟩
  have O_answers : FnOk P w K mg base CX0 10 fa _ ["calls"] (sp_answers K ⟨town, sheet, desk, ref, nums, rows⟩) := ok_answers F_answers T K_Desk_init K_read_call K_Desk_answer
  exact O_answers
end Md

open PySem PySem.W PyProof.Rows
set_option maxRecDepth 100000 in
set_option maxHeartbeats 40000000 in
theorem PySem.Challenge.cw_mapdrawn_s01_answers_holds : PySem.Challenge.rw_mapdrawn_s01_answers.Holds := by
  w_on; k_headS; (case hw => exact ⟨[.list [.int 6, .int 0, .int 0, .int 0, .int 0]], by decide +kernel, by decide +kernel⟩)
  k_fillS
  refine L2.walk_specK (r := PySem.Challenge.rw_mapdrawn_s01_answers) (k := 10) (CX := L2.CX0) (ps := ["calls"]) (sp := Md.spAns) (by decide +kernel) rfl rfl ⟨rfl, by decide, by decide⟩ (fun w h Y => PySem.W.kIn_of Y) ?F ?S (fun _ _ _ _ z => z)
  case F =>
    intro w mg fa h Y KX G hmg
    refine' Md.all_mk KX G hmg ?z_len ?z_range ?z_any ?z_all ?z_sum ?z_min ?z_zip ?z_list ?z_enumerate ?z_int ?z_ValueError ?g_LEFT_OUT ?g_CORNERS ?g_GOODNESS ?g_BAD ?g_NONE_THERE ?g_FULL ?g_NOT_DRAWN ?g_NO_FIT ?g_CLASHING ?g_THROUGH ?g_MOST_SIDE ?g_MOST_OFF ?g_FEWEST_POINTS ?g_MOST_POINTS ?g_MOST_TOWNS ?g_MOST_WORTH ?g_NUMBERS ?l_NUMBERS ?g_ROWS ?l_ROWS ?a_Town ?pg_Town ?hd_Town ?po_Town ?sa_Town ?mk_Town ?kc_Town ?a_Sheet ?pg_Sheet ?hd_Sheet ?po_Sheet ?sa_Sheet ?mk_Sheet ?kc_Sheet ?a_Desk ?pg_Desk ?hd_Desk ?po_Desk ?sa_Desk ?mk_Desk ?kc_Desk ?nT_place ?nT_wide ?nT_high ?nT_worth ?nS_wide ?nS_high ?nS_off ?nS_points ?nS_towns ?nD_sheet ?aR ?xR ?saR ?gaR ?ggR ?nbR ?kR ?eR ?tR ?hR ?iR ?sR ?veR ?a_square_of ?l_square_of ?c_square_of ?k_square_of ?a_is_farther ?l_is_farther ?c_is_farther ?k_is_farther ?a_is_less ?l_is_less ?c_is_less ?k_is_less ?a_part_within ?l_part_within ?c_part_within ?k_part_within ?a_goes_within ?l_goes_within ?c_goes_within ?k_goes_within ?a_is_within ?l_is_within ?c_is_within ?k_is_within ?a_overlap ?l_overlap ?c_overlap ?k_overlap ?a_Town_init ?i_Town_init ?l_Town_init ?c_Town_init ?k_Town_init ?a_Town_box ?i_Town_box ?l_Town_box ?c_Town_box ?k_Town_box ?a_fits ?l_fits ?c_fits ?k_fits ?a_clash ?l_clash ?c_clash ?k_clash ?a_first_unfit ?l_first_unfit ?c_first_unfit ?k_first_unfit ?a_first_clash ?l_first_clash ?c_first_clash ?k_first_clash ?a_rank_of ?l_rank_of ?c_rank_of ?k_rank_of ?a_worth_of ?l_worth_of ?c_worth_of ?k_worth_of ?a_good_plans ?l_good_plans ?c_good_plans ?k_good_plans ?a_goes_with ?l_goes_with ?c_goes_with ?k_goes_with ?a_may_be_drawn ?l_may_be_drawn ?c_may_be_drawn ?k_may_be_drawn ?a_stretches ?l_stretches ?c_stretches ?k_stretches ?a_first_undrawn ?l_first_undrawn ?c_first_undrawn ?k_first_undrawn ?a_goes_through ?l_goes_through ?c_goes_through ?k_goes_through ?a_first_through ?l_first_through ?c_first_through ?k_first_through ?a_all_choices ?l_all_choices ?c_all_choices ?k_all_choices ?a_good_choices ?l_good_choices ?c_good_choices ?k_good_choices ?a_corners_hit ?l_corners_hit ?c_corners_hit ?k_corners_hit ?a_measure_of ?l_measure_of ?c_measure_of ?k_measure_of ?a_is_clear ?l_is_clear ?c_is_clear ?k_is_clear ?a_measures ?l_measures ?c_measures ?k_measures ?a_told_best ?l_told_best ?c_told_best ?k_told_best ?a_Refused_init ?i_Refused_init ?l_Refused_init ?c_Refused_init ?k_Refused_init ?a_want ?l_want ?c_want ?k_want ?a_is_side ?l_is_side ?c_is_side ?k_is_side ?a_Sheet_init ?i_Sheet_init ?l_Sheet_init ?c_Sheet_init ?k_Sheet_init ?a_Sheet_has ?i_Sheet_has ?l_Sheet_has ?c_Sheet_has ?k_Sheet_has ?a_Desk_init ?i_Desk_init ?l_Desk_init ?c_Desk_init ?k_Desk_init ?a_Desk_want_choice ?i_Desk_want_choice ?l_Desk_want_choice ?c_Desk_want_choice ?k_Desk_want_choice ?a_Desk_want_plan ?i_Desk_want_plan ?l_Desk_want_plan ?c_Desk_want_plan ?k_Desk_want_plan ?a_Desk_want_drawn ?i_Desk_want_drawn ?l_Desk_want_drawn ?c_Desk_want_drawn ?k_Desk_want_drawn ?a_Desk_want_names ?i_Desk_want_names ?l_Desk_want_names ?c_Desk_want_names ?k_Desk_want_names ?a_Desk_begins ?i_Desk_begins ?l_Desk_begins ?c_Desk_begins ?k_Desk_begins ?a_Desk_town ?i_Desk_town ?l_Desk_town ?c_Desk_town ?k_Desk_town ?a_Desk_best ?i_Desk_best ?l_Desk_best ?c_Desk_best ?k_Desk_best ?a_Desk_check ?i_Desk_check ?l_Desk_check ?c_Desk_check ?k_Desk_check ?a_Desk_with_choice ?i_Desk_with_choice ?l_Desk_with_choice ?c_Desk_with_choice ?k_Desk_with_choice ?a_Desk_with_plan ?i_Desk_with_plan ?l_Desk_with_plan ?c_Desk_with_plan ?k_Desk_with_plan ?a_Desk_through ?i_Desk_through ?l_Desk_through ?c_Desk_through ?k_Desk_through ?a_Desk_called ?i_Desk_called ?l_Desk_called ?c_Desk_called ?k_Desk_called ?a_Desk_answer ?i_Desk_answer ?l_Desk_answer ?c_Desk_answer ?k_Desk_answer ?a_read_call ?l_read_call ?c_read_call ?k_read_call ?a_answers ?l_answers ?c_answers ?k_answers
    (case z_len => k_is)
    (case z_range => k_is)
    (case z_any => k_is)
    (case z_all => k_is)
    (case z_sum => k_is)
    (case z_min => k_is)
    (case z_zip => k_is)
    (case z_list => k_is)
    (case z_enumerate => k_is)
    (case z_int => k_is)
    (case z_ValueError => k_is)
    (case g_LEFT_OUT => k_is)
    (case g_CORNERS => k_is)
    (case g_GOODNESS => k_is)
    (case g_BAD => k_is)
    (case g_NONE_THERE => k_is)
    (case g_FULL => k_is)
    (case g_NOT_DRAWN => k_is)
    (case g_NO_FIT => k_is)
    (case g_CLASHING => k_is)
    (case g_THROUGH => k_is)
    (case g_MOST_SIDE => k_is)
    (case g_MOST_OFF => k_is)
    (case g_FEWEST_POINTS => k_is)
    (case g_MOST_POINTS => k_is)
    (case g_MOST_TOWNS => k_is)
    (case g_MOST_WORTH => k_is)
    (case g_NUMBERS => k_is)
    (case l_NUMBERS => k_is)
    (case g_ROWS => k_is)
    (case l_ROWS => k_is)
    (case a_Town => k_is)
    (case pg_Town => k_is)
    (case hd_Town => k_is)
    (case po_Town => k_is)
    (case sa_Town => k_is)
    (case mk_Town => k_is)
    (case kc_Town => k_is)
    (case a_Sheet => k_is)
    (case pg_Sheet => k_is)
    (case hd_Sheet => k_is)
    (case po_Sheet => k_is)
    (case sa_Sheet => k_is)
    (case mk_Sheet => k_is)
    (case kc_Sheet => k_is)
    (case a_Desk => k_is)
    (case pg_Desk => k_is)
    (case hd_Desk => k_is)
    (case po_Desk => k_is)
    (case sa_Desk => k_is)
    (case mk_Desk => k_is)
    (case kc_Desk => k_is)
    (case nT_place => k_is)
    (case nT_wide => k_is)
    (case nT_high => k_is)
    (case nT_worth => k_is)
    (case nS_wide => k_is)
    (case nS_high => k_is)
    (case nS_off => k_is)
    (case nS_points => k_is)
    (case nS_towns => k_is)
    (case nD_sheet => k_is)
    (case aR => k_is)
    (case xR => k_is)
    (case saR => k_is)
    (case gaR => k_is)
    (case ggR => k_is)
    (case nbR => k_is)
    (case kR => k_is)
    (case eR => k_is)
    (case tR => k_is)
    (case hR => k_is)
    (case iR => k_is)
    (case sR => first | rfl | k_is)
    (case veR => k_is)
    (case a_square_of => k_is)
    (case l_square_of => k_is)
    (case c_square_of => k_is)
    (case k_square_of => k_is)
    (case a_is_farther => k_is)
    (case l_is_farther => k_is)
    (case c_is_farther => k_is)
    (case k_is_farther => k_is)
    (case a_is_less => k_is)
    (case l_is_less => k_is)
    (case c_is_less => k_is)
    (case k_is_less => k_is)
    (case a_part_within => k_is)
    (case l_part_within => k_is)
    (case c_part_within => k_is)
    (case k_part_within => k_is)
    (case a_goes_within => k_is)
    (case l_goes_within => k_is)
    (case c_goes_within => k_is)
    (case k_goes_within => k_is)
    (case a_is_within => k_is)
    (case l_is_within => k_is)
    (case c_is_within => k_is)
    (case k_is_within => k_is)
    (case a_overlap => k_is)
    (case l_overlap => k_is)
    (case c_overlap => k_is)
    (case k_overlap => k_is)
    (case a_Town_init => k_is)
    (case i_Town_init => k_is)
    (case l_Town_init => k_is)
    (case c_Town_init => k_is)
    (case k_Town_init => k_is)
    (case a_Town_box => k_is)
    (case i_Town_box => k_is)
    (case l_Town_box => k_is)
    (case c_Town_box => k_is)
    (case k_Town_box => k_is)
    (case a_fits => k_is)
    (case l_fits => k_is)
    (case c_fits => k_is)
    (case k_fits => k_is)
    (case a_clash => k_is)
    (case l_clash => k_is)
    (case c_clash => k_is)
    (case k_clash => k_is)
    (case a_first_unfit => k_is)
    (case l_first_unfit => k_is)
    (case c_first_unfit => k_is)
    (case k_first_unfit => k_is)
    (case a_first_clash => k_is)
    (case l_first_clash => k_is)
    (case c_first_clash => k_is)
    (case k_first_clash => k_is)
    (case a_rank_of => k_is)
    (case l_rank_of => k_is)
    (case c_rank_of => k_is)
    (case k_rank_of => k_is)
    (case a_worth_of => k_is)
    (case l_worth_of => k_is)
    (case c_worth_of => k_is)
    (case k_worth_of => k_is)
    (case a_good_plans => k_is)
    (case l_good_plans => k_is)
    (case c_good_plans => k_is)
    (case k_good_plans => k_is)
    (case a_goes_with => k_is)
    (case l_goes_with => k_is)
    (case c_goes_with => k_is)
    (case k_goes_with => k_is)
    (case a_may_be_drawn => k_is)
    (case l_may_be_drawn => k_is)
    (case c_may_be_drawn => k_is)
    (case k_may_be_drawn => k_is)
    (case a_stretches => k_is)
    (case l_stretches => k_is)
    (case c_stretches => k_is)
    (case k_stretches => k_is)
    (case a_first_undrawn => k_is)
    (case l_first_undrawn => k_is)
    (case c_first_undrawn => k_is)
    (case k_first_undrawn => k_is)
    (case a_goes_through => k_is)
    (case l_goes_through => k_is)
    (case c_goes_through => k_is)
    (case k_goes_through => k_is)
    (case a_first_through => k_is)
    (case l_first_through => k_is)
    (case c_first_through => k_is)
    (case k_first_through => k_is)
    (case a_all_choices => k_is)
    (case l_all_choices => k_is)
    (case c_all_choices => k_is)
    (case k_all_choices => k_is)
    (case a_good_choices => k_is)
    (case l_good_choices => k_is)
    (case c_good_choices => k_is)
    (case k_good_choices => k_is)
    (case a_corners_hit => k_is)
    (case l_corners_hit => k_is)
    (case c_corners_hit => k_is)
    (case k_corners_hit => k_is)
    (case a_measure_of => k_is)
    (case l_measure_of => k_is)
    (case c_measure_of => k_is)
    (case k_measure_of => k_is)
    (case a_is_clear => k_is)
    (case l_is_clear => k_is)
    (case c_is_clear => k_is)
    (case k_is_clear => k_is)
    (case a_measures => k_is)
    (case l_measures => k_is)
    (case c_measures => k_is)
    (case k_measures => k_is)
    (case a_told_best => k_is)
    (case l_told_best => k_is)
    (case c_told_best => k_is)
    (case k_told_best => k_is)
    (case a_Refused_init => k_is)
    (case i_Refused_init => k_is)
    (case l_Refused_init => k_is)
    (case c_Refused_init => k_is)
    (case k_Refused_init => k_is)
    (case a_want => k_is)
    (case l_want => k_is)
    (case c_want => k_is)
    (case k_want => k_is)
    (case a_is_side => k_is)
    (case l_is_side => k_is)
    (case c_is_side => k_is)
    (case k_is_side => k_is)
    (case a_Sheet_init => k_is)
    (case i_Sheet_init => k_is)
    (case l_Sheet_init => k_is)
    (case c_Sheet_init => k_is)
    (case k_Sheet_init => k_is)
    (case a_Sheet_has => k_is)
    (case i_Sheet_has => k_is)
    (case l_Sheet_has => k_is)
    (case c_Sheet_has => k_is)
    (case k_Sheet_has => k_is)
    (case a_Desk_init => k_is)
    (case i_Desk_init => k_is)
    (case l_Desk_init => k_is)
    (case c_Desk_init => k_is)
    (case k_Desk_init => k_is)
    (case a_Desk_want_choice => k_is)
    (case i_Desk_want_choice => k_is)
    (case l_Desk_want_choice => k_is)
    (case c_Desk_want_choice => k_is)
    (case k_Desk_want_choice => k_is)
    (case a_Desk_want_plan => k_is)
    (case i_Desk_want_plan => k_is)
    (case l_Desk_want_plan => k_is)
    (case c_Desk_want_plan => k_is)
    (case k_Desk_want_plan => k_is)
    (case a_Desk_want_drawn => k_is)
    (case i_Desk_want_drawn => k_is)
    (case l_Desk_want_drawn => k_is)
    (case c_Desk_want_drawn => k_is)
    (case k_Desk_want_drawn => k_is)
    (case a_Desk_want_names => k_is)
    (case i_Desk_want_names => k_is)
    (case l_Desk_want_names => k_is)
    (case c_Desk_want_names => k_is)
    (case k_Desk_want_names => k_is)
    (case a_Desk_begins => k_is)
    (case i_Desk_begins => k_is)
    (case l_Desk_begins => k_is)
    (case c_Desk_begins => k_is)
    (case k_Desk_begins => k_is)
    (case a_Desk_town => k_is)
    (case i_Desk_town => k_is)
    (case l_Desk_town => k_is)
    (case c_Desk_town => k_is)
    (case k_Desk_town => k_is)
    (case a_Desk_best => k_is)
    (case i_Desk_best => k_is)
    (case l_Desk_best => k_is)
    (case c_Desk_best => k_is)
    (case k_Desk_best => k_is)
    (case a_Desk_check => k_is)
    (case i_Desk_check => k_is)
    (case l_Desk_check => k_is)
    (case c_Desk_check => k_is)
    (case k_Desk_check => k_is)
    (case a_Desk_with_choice => k_is)
    (case i_Desk_with_choice => k_is)
    (case l_Desk_with_choice => k_is)
    (case c_Desk_with_choice => k_is)
    (case k_Desk_with_choice => k_is)
    (case a_Desk_with_plan => k_is)
    (case i_Desk_with_plan => k_is)
    (case l_Desk_with_plan => k_is)
    (case c_Desk_with_plan => k_is)
    (case k_Desk_with_plan => k_is)
    (case a_Desk_through => k_is)
    (case i_Desk_through => k_is)
    (case l_Desk_through => k_is)
    (case c_Desk_through => k_is)
    (case k_Desk_through => k_is)
    (case a_Desk_called => k_is)
    (case i_Desk_called => k_is)
    (case l_Desk_called => k_is)
    (case c_Desk_called => k_is)
    (case k_Desk_called => k_is)
    (case a_Desk_answer => k_is)
    (case i_Desk_answer => k_is)
    (case l_Desk_answer => k_is)
    (case c_Desk_answer => k_is)
    (case k_Desk_answer => k_is)
    (case a_read_call => k_is)
    (case l_read_call => k_is)
    (case c_read_call => k_is)
    (case k_read_call => k_is)
    (case a_answers => k_is)
    (case l_answers => k_is)
    (case c_answers => k_is)
    (case k_answers => k_is)
  case S =>
    intro K H xs a hO hwi hask hx
    cases hx with
    | cons h1 h2 =>
      cases h2
      cases h1 with
      | lst hs ha =>
        have e := L2.ints_dw a.1 _ ha
        subst e
        exact ⟨_, a.1, rfl, hs, hask, fun H' p hp => .lst (L2.SqL.of hp) (L2.dw_ints _)⟩
#print axioms PySem.Challenge.cw_mapdrawn_s01_answers_holds
