import PyProof.Rows.All
import Wide.All
import OpenK.AllK
import Wide.FinOn
import HandS.ForMost
import HandS.TryOnly
import HandS.Style
import HandS.Wide
import PySem.Challenge.RW_cutexchange_k05_whole_order_and_reckonin
set_option Elab.async false
set_option linter.all false
set_option maxRecDepth 100000
namespace K5
/-- a + b root d, of fractions -/
structure QS (d : Int) where
  re : Rat
  im : Rat
theorem QS.ext {d : Int} {x y : QS d} (h : x.re = y.re) (h' : x.im = y.im) : x = y := by
  cases x; cases y; cases h; cases h'; rfl
class Irr (d : Int) : Prop where
  pos : 0 < d
  few : d ≤ 16
  irr : ∀ x y : Rat, x * x = d * (y * y) → y = 0
section
variable {d : Int}
instance : Add (QS d) := ⟨fun x y => ⟨x.re + y.re, x.im + y.im⟩⟩
instance : Mul (QS d) := ⟨fun x y => ⟨x.re * y.re + d * (x.im * y.im), x.re * y.im + x.im * y.re⟩⟩
instance : Neg (QS d) := ⟨fun x => ⟨-x.re, -x.im⟩⟩
instance : Sub (QS d) := ⟨fun x y => ⟨x.re - y.re, x.im - y.im⟩⟩
instance instNat : NatCast (QS d) := ⟨fun n => ⟨n, 0⟩⟩
instance instInt : IntCast (QS d) := ⟨fun n => ⟨n, 0⟩⟩
instance instOf (n : Nat) : OfNat (QS d) n := ⟨⟨n, 0⟩⟩
def norm (x : QS d) : Rat := x.re * x.re - d * (x.im * x.im)
instance : Inv (QS d) := ⟨fun x => ⟨x.re / norm x, -x.im / norm x⟩⟩
instance : Div (QS d) := ⟨fun x y => x * y⁻¹⟩
theorem re_add (x y : QS d) : (x + y).re = x.re + y.re := rfl
theorem im_add (x y : QS d) : (x + y).im = x.im + y.im := rfl
theorem re_sub (x y : QS d) : (x - y).re = x.re - y.re := rfl
theorem im_sub (x y : QS d) : (x - y).im = x.im - y.im := rfl
theorem re_neg (x : QS d) : (-x).re = -x.re := rfl
theorem im_neg (x : QS d) : (-x).im = -x.im := rfl
theorem re_mul (x y : QS d) : (x * y).re = x.re * y.re + d * (x.im * y.im) := rfl
theorem im_mul (x y : QS d) : (x * y).im = x.re * y.im + x.im * y.re := rfl
theorem re_int (n : Int) : (n : QS d).re = n := rfl
theorem im_int (n : Int) : (n : QS d).im = 0 := rfl
theorem re_nat (n : Nat) : (n : QS d).re = n := rfl
theorem im_nat (n : Nat) : (n : QS d).im = 0 := rfl
theorem re_of (n : Nat) : (OfNat.ofNat n : QS d).re = n := rfl
theorem im_of (n : Nat) : (OfNat.ofNat n : QS d).im = 0 := rfl
theorem re_zero : (0 : QS d).re = 0 := rfl
theorem im_zero : (0 : QS d).im = 0 := rfl
theorem re_one : (1 : QS d).re = 1 := rfl
theorem im_one : (1 : QS d).im = 0 := rfl
def npow (x : QS d) : Nat → QS d
  | 0 => 1
  | n + 1 => npow x n * x
instance : HPow (QS d) Nat (QS d) := ⟨npow⟩
instance instNsmul : SMul Nat (QS d) := ⟨fun n x => (n : QS d) * x⟩
instance instZsmul : SMul Int (QS d) := ⟨fun n x => (n : QS d) * x⟩
def zpow (x : QS d) : Int → QS d
  | .ofNat n => npow x n
  | .negSucc n => (npow x (n + 1))⁻¹
instance : HPow (QS d) Int (QS d) := ⟨zpow⟩
end
section
variable {d : Int}
instance instCR : Lean.Grind.CommRing (QS d) where
  nsmul := instNsmul
  zsmul := instZsmul
  natCast := instNat
  intCast := instInt
  ofNat := instOf
  npow := inferInstance
  add_zero x := QS.ext (by rw [re_add, re_zero]; grind) (by rw [im_add, im_zero]; grind)
  add_comm x y := QS.ext (by simp only [re_add]; grind) (by simp only [im_add]; grind)
  add_assoc x y z := QS.ext (by simp only [re_add]; grind) (by simp only [im_add]; grind)
  mul_assoc x y z := QS.ext (by simp only [re_mul, im_mul]; grind) (by simp only [re_mul, im_mul]; grind)
  mul_one x := QS.ext (by simp only [re_mul, im_mul, re_one, im_one]; grind) (by simp only [re_mul, im_mul, re_one, im_one]; grind)
  one_mul x := QS.ext (by simp only [re_mul, im_mul, re_one, im_one]; grind) (by simp only [re_mul, im_mul, re_one, im_one]; grind)
  left_distrib x y z := QS.ext (by simp only [re_mul, im_mul, re_add, im_add]; grind) (by simp only [re_mul, im_mul, re_add, im_add]; grind)
  right_distrib x y z := QS.ext (by simp only [re_mul, im_mul, re_add, im_add]; grind) (by simp only [re_mul, im_mul, re_add, im_add]; grind)
  zero_mul x := QS.ext (by simp only [re_mul, im_mul, re_zero, im_zero]; grind) (by simp only [re_mul, im_mul, re_zero, im_zero]; grind)
  mul_zero x := QS.ext (by simp only [re_mul, im_mul, re_zero, im_zero]; grind) (by simp only [re_mul, im_mul, re_zero, im_zero]; grind)
  mul_comm x y := QS.ext (by simp only [re_mul]; grind) (by simp only [im_mul]; grind)
  pow_zero x := rfl
  pow_succ x n := rfl
  ofNat_succ n := QS.ext (by rw [re_add]; show ((n + 1 : Nat) : Rat) = (n : Rat) + 1; grind) (by rw [im_add]; show (0 : Rat) = 0 + 0; grind)
  ofNat_eq_natCast n := rfl
  nsmul_eq_natCast_mul n x := rfl
  neg_add_cancel x := QS.ext (by simp only [re_add, re_neg, re_zero]; grind) (by simp only [im_add, im_neg, im_zero]; grind)
  sub_eq_add_neg x y := QS.ext (by simp only [re_sub, re_add, re_neg]; grind) (by simp only [im_sub, im_add, im_neg]; grind)
  neg_zsmul i x := by
    show ((-i : Int) : QS d) * x = -((i : QS d) * x)
    exact QS.ext (by simp only [re_mul, re_neg, re_int, im_int]; grind) (by simp only [im_mul, im_neg, re_int, im_int]; grind)
  zsmul_natCast_eq_nsmul n x := congrArg (· * x) (QS.ext (d := d) (x := ((n : Int) : QS d)) (y := (n : QS d)) (Rat.intCast_natCast n) rfl)
  intCast_ofNat n := QS.ext (Rat.intCast_natCast n) rfl
  intCast_neg i := QS.ext (by rw [re_neg, re_int, re_int]; grind) (by rw [im_neg, im_int, im_int]; grind)

theorem norm_ne [Irr d] {x : QS d} (h : x ≠ 0) : norm x ≠ 0 := by
  intro e
  have e1 : x.re * x.re = d * (x.im * x.im) := by unfold norm at e; grind
  have e2 := Irr.irr x.re x.im e1
  have e3 : x.re = 0 := by rw [e2] at e1; grind
  exact h (QS.ext e3 e2)
theorem norm_mul (x y : QS d) : norm (x * y) = norm x * norm y := by
  unfold norm
  rw [re_mul, im_mul]
  grind
instance instField [Irr d] : Lean.Grind.Field (QS d) where
  toCommRing := instCR
  zpow := inferInstance
  div_eq_mul_inv x y := rfl
  zero_ne_one h := absurd (congrArg QS.re h) (by show (0 : Rat) ≠ 1; grind)
  inv_zero := QS.ext (by show (0 : Rat) / norm (0 : QS d) = 0; grind) (by show (-0 : Rat) / norm (0 : QS d) = 0; grind)
  mul_inv_cancel {x} h := by
    have n := norm_ne h
    refine QS.ext ?_ ?_
    · show x.re * (x.re / norm x) + d * (x.im * (-x.im / norm x)) = 1
      unfold norm at *
      grind
    · show x.re * (-x.im / norm x) + x.im * (x.re / norm x) = 0
      grind
  zpow_zero x := rfl
  zpow_succ x n := rfl
  zpow_neg x n := by
    have h0 : (1 : QS d)⁻¹ = 1 := by
      refine QS.ext ?_ ?_
      · show (1 : Rat) / norm (1 : QS d) = 1
        unfold norm; rw [re_one, im_one]; grind
      · show (-0 : Rat) / norm (1 : QS d) = 0
        grind
    have hi : ∀ y : QS d, (y⁻¹)⁻¹ = y := by
      intro y
      by_cases hy : y = 0
      · subst hy
        refine QS.ext ?_ ?_
        · show ((0 : Rat) / norm (0 : QS d)) / norm ((0 : QS d)⁻¹) = 0
          grind
        · show -((-0 : Rat) / norm (0 : QS d)) / norm ((0 : QS d)⁻¹) = 0
          grind
      · have n := norm_ne hy
        have n2 : norm y⁻¹ = 1 / norm y := by
          show (y.re / norm y) * (y.re / norm y) - d * ((-y.im / norm y) * (-y.im / norm y)) = 1 / norm y
          have e : norm y = y.re * y.re - d * (y.im * y.im) := rfl
          grind
        refine QS.ext ?_ ?_
        · show (y.re / norm y) / norm y⁻¹ = y.re
          rw [n2]; grind
        · show -(-y.im / norm y) / norm y⁻¹ = y.im
          rw [n2]; grind
    cases n with
    | ofNat n =>
      cases n with
      | zero => exact h0.symm
      | succ n => rfl
    | negSucc n => exact (hi _).symm
end
section
variable {d : Int}
/-- above 0 -/
def Ps (x : QS d) : Prop := (0 < norm x ∧ 0 < x.re) ∨ (norm x < 0 ∧ 0 < x.im)
theorem sq_lt {u v : Rat} (h : v * v < u * u) (hu : 0 ≤ u) : v < u := by
  rcases (show v < u ∨ u ≤ v by grind) with g | g
  · exact g
  · have := Rat.mul_le_mul_of_nonneg_left g hu
    have := Rat.mul_le_mul_of_nonneg_right g (show 0 ≤ v by grind)
    grind
theorem mul_le4 {a b c e : Rat} (h : a ≤ b) (h' : c ≤ e) (hc : 0 ≤ c) (hb : 0 ≤ b) : a * c ≤ b * e := by
  have := Rat.mul_le_mul_of_nonneg_right h hc
  have := Rat.mul_le_mul_of_nonneg_left h' hb
  grind
theorem mul_lt4 {a b c e : Rat} (h : a < b) (h' : c < e) (ha : 0 ≤ a) (hc : 0 ≤ c) : a * c < b * e := by
  have h1 : a * c ≤ b * c := Rat.mul_le_mul_of_nonneg_right (by grind) hc
  have h2 : b * c < b * e := Rat.mul_lt_mul_of_pos_left h' (by grind)
  grind
theorem sq_nonneg (x : Rat) : 0 ≤ x * x := by
  rcases (show 0 ≤ x ∨ x ≤ 0 by grind) with g | g
  · exact Rat.mul_nonneg g g
  · have := Rat.mul_nonneg (show 0 ≤ -x by grind) (show 0 ≤ -x by grind)
    grind
theorem dpos [h : Irr d] : (0 : Rat) < d := Rat.intCast_pos.mpr h.pos
theorem Ps_mul [Irr d] {x y : QS d} (hx : Ps x) (hy : Ps y) : Ps (x * y) := by
  have hd : (0 : Rat) < d := dpos
  have hn := norm_mul x y
  have e1 := re_mul x y
  have e2 := im_mul x y
  obtain ⟨a, b⟩ := x
  obtain ⟨u, v⟩ := y
  have na : norm (⟨a, b⟩ : QS d) = a * a - d * (b * b) := rfl
  have nu : norm (⟨u, v⟩ : QS d) = u * u - d * (v * v) := rfl
  unfold Ps at *
  rw [hn, na, nu, e1, e2]
  rw [na] at hx
  rw [nu] at hy
  dsimp only at *
  have sb : 0 ≤ (d : Rat) * (b * b) := Rat.mul_nonneg (by grind) (sq_nonneg b)
  have sv : 0 ≤ (d : Rat) * (v * v) := Rat.mul_nonneg (by grind) (sq_nonneg v)
  have sa := sq_nonneg a
  have su := sq_nonneg u
  rcases hx with ⟨h1, h2⟩ | ⟨h1, h2⟩ <;> rcases hy with ⟨h3, h4⟩ | ⟨h3, h4⟩
  · have k := mul_lt4 (show (d : Rat) * (b * b) < a * a by grind) (show (d : Rat) * (v * v) < u * u by grind) sb sv
    have p := Rat.mul_pos h2 h4
    have p' := Rat.mul_pos h1 h3
    have q := sq_lt (u := a * u) (v := -(d * (b * v))) (by grind) (by grind)
    left
    constructor <;> grind
  · have k := mul_lt4 (show (d : Rat) * (b * b) < a * a by grind) (show u * u < (d : Rat) * (v * v) by grind) sb su
    have p := Rat.mul_pos h2 h4
    have p' := Rat.mul_pos h1 (show 0 < -(u * u - d * (v * v)) by grind)
    have k2 : (b * u) * (b * u) < (a * v) * (a * v) := by
      rcases (show (b * u) * (b * u) < (a * v) * (a * v) ∨ (a * v) * (a * v) ≤ (b * u) * (b * u) by grind) with g | g
      · exact g
      · have := Rat.mul_le_mul_of_nonneg_left g (show (0 : Rat) ≤ d by grind)
        grind
    have q := sq_lt (u := a * v) (v := -(b * u)) (by grind) (by grind)
    right
    constructor <;> grind
  · have k := mul_lt4 (show (d : Rat) * (v * v) < u * u by grind) (show a * a < (d : Rat) * (b * b) by grind) sv sa
    have p := Rat.mul_pos h4 h2
    have p' := Rat.mul_pos h3 (show 0 < -(a * a - d * (b * b)) by grind)
    have k2 : (v * a) * (v * a) < (u * b) * (u * b) := by
      rcases (show (v * a) * (v * a) < (u * b) * (u * b) ∨ (u * b) * (u * b) ≤ (v * a) * (v * a) by grind) with g | g
      · exact g
      · have := Rat.mul_le_mul_of_nonneg_left g (show (0 : Rat) ≤ d by grind)
        grind
    have q := sq_lt (u := u * b) (v := -(v * a)) (by grind) (by grind)
    right
    constructor <;> grind
  · have k := mul_lt4 (show a * a < (d : Rat) * (b * b) by grind) (show u * u < (d : Rat) * (v * v) by grind) sa su
    have p := Rat.mul_pos h2 h4
    have p' := Rat.mul_pos (show 0 < -(a * a - d * (b * b)) by grind) (show 0 < -(u * u - d * (v * v)) by grind)
    have p2 := Rat.mul_pos hd p
    have q := sq_lt (u := d * (b * v)) (v := -(a * u)) (by grind) (by grind)
    left
    constructor <;> grind
theorem Ps_add1 [Irr d] {a b u v : Rat} (h1 : (d : Rat) * (b * b) < a * a) (h2 : 0 < a) (h3 : (d : Rat) * (v * v) < u * u) (h4 : 0 < u) :
    (d : Rat) * ((b + v) * (b + v)) < (a + u) * (a + u) := by
  have hd : (0 : Rat) < d := dpos
  have sb : 0 ≤ (d : Rat) * (b * b) := Rat.mul_nonneg (by grind) (sq_nonneg b)
  have sv : 0 ≤ (d : Rat) * (v * v) := Rat.mul_nonneg (by grind) (sq_nonneg v)
  have k := mul_lt4 h1 h3 sb sv
  have p := Rat.mul_pos h2 h4
  have q := sq_lt (u := a * u) (v := d * (b * v)) (by grind) (by grind)
  grind
theorem Ps_add2 [Irr d] {a b u v : Rat} (h1 : a * a < (d : Rat) * (b * b)) (h2 : 0 < b) (h3 : u * u < (d : Rat) * (v * v)) (h4 : 0 < v) :
    (a + u) * (a + u) < (d : Rat) * ((b + v) * (b + v)) := by
  have hd : (0 : Rat) < d := dpos
  have k := mul_lt4 h1 h3 (sq_nonneg a) (sq_nonneg u)
  have p := Rat.mul_pos hd (Rat.mul_pos h2 h4)
  have q := sq_lt (u := d * (b * v)) (v := a * u) (by grind) (by grind)
  grind
theorem Ps_addx [Irr d] {a b u v : Rat} (h1 : (d : Rat) * (b * b) < a * a) (h2 : 0 < a) (h3 : u * u < (d : Rat) * (v * v)) (h4 : 0 < v) :
    Ps (⟨a + u, b + v⟩ : QS d) := by
  have hd : (0 : Rat) < d := dpos
  unfold Ps
  have ns : norm (⟨a + u, b + v⟩ : QS d) = (a + u) * (a + u) - d * ((b + v) * (b + v)) := rfl
  rw [ns]
  dsimp only
  rcases (show (d : Rat) * ((b + v) * (b + v)) < (a + u) * (a + u) ∨ (a + u) * (a + u) < (d : Rat) * ((b + v) * (b + v)) ∨ (a + u) * (a + u) = (d : Rat) * ((b + v) * (b + v)) by grind) with g | g | g
  · left
    refine ⟨by grind, ?_⟩
    rcases (show 0 < a + u ∨ a + u = 0 ∨ 0 < -(a + u) by grind) with k | k | k
    · exact k
    · have := Rat.mul_nonneg (show (0 : Rat) ≤ d by grind) (sq_nonneg (b + v))
      rw [k] at g
      grind
    · have := Ps_add1 (d := d) (a := a) (b := b) (u := -(a + u)) (v := -(b + v)) h1 h2 (by grind) k
      grind
  · right
    refine ⟨by grind, ?_⟩
    rcases (show 0 < b + v ∨ b + v = 0 ∨ 0 < -(b + v) by grind) with k | k | k
    · exact k
    · have := sq_nonneg (a + u)
      rw [k] at g
      grind
    · have := Ps_add2 (d := d) (a := u) (b := v) (u := -(a + u)) (v := -(b + v)) h3 h4 (by grind) k
      grind
  · have e := Irr.irr (d := d) _ _ g
    have e' : a + u = 0 := by
      rw [e] at g
      grind
    have e1 : v = -b := by grind
    have e2 : u = -a := by grind
    subst e1 e2
    grind
theorem Ps_add [Irr d] {x y : QS d} (hx : Ps x) (hy : Ps y) : Ps (x + y) := by
  obtain ⟨a, b⟩ := x
  obtain ⟨u, v⟩ := y
  have na : norm (⟨a, b⟩ : QS d) = a * a - d * (b * b) := rfl
  have nu : norm (⟨u, v⟩ : QS d) = u * u - d * (v * v) := rfl
  have es : (⟨a, b⟩ : QS d) + ⟨u, v⟩ = ⟨a + u, b + v⟩ := rfl
  rw [es]
  have hx' := hx
  have hy' := hy
  unfold Ps at hx' hy'
  rw [na] at hx'
  rw [nu] at hy'
  dsimp only at hx' hy'
  rcases hx' with ⟨h1, h2⟩ | ⟨h1, h2⟩ <;> rcases hy' with ⟨h3, h4⟩ | ⟨h3, h4⟩
  · left
    have := Ps_add1 (d := d) (a := a) (b := b) (u := u) (v := v) (by grind) h2 (by grind) h4
    constructor
    · show 0 < (a + u) * (a + u) - d * ((b + v) * (b + v))
      grind
    · show 0 < a + u
      grind
  · exact Ps_addx (by grind) h2 (by grind) h4
  · rw [show (⟨a + u, b + v⟩ : QS d) = ⟨u + a, v + b⟩ from QS.ext (by show a + u = u + a; grind) (by show b + v = v + b; grind)]
    exact Ps_addx (by grind) h4 (by grind) h2
  · right
    have := Ps_add2 (d := d) (a := a) (b := b) (u := u) (v := v) (by grind) h2 (by grind) h4
    constructor
    · show (a + u) * (a + u) - d * ((b + v) * (b + v)) < 0
      grind
    · show 0 < b + v
      grind
theorem Ps_tri [Irr d] (x : QS d) : Ps x ∨ x = 0 ∨ Ps (-x) := by
  by_cases h : x = 0
  · exact .inr (.inl h)
  have n := norm_ne h
  have n2 : norm (-x) = norm x := by unfold norm; rw [re_neg, im_neg]; grind
  have hd : (0 : Rat) < d := dpos
  obtain ⟨a, b⟩ := x
  have na : norm (⟨a, b⟩ : QS d) = a * a - d * (b * b) := rfl
  unfold Ps
  rw [n2, re_neg, im_neg]
  dsimp only
  have k1 := sq_nonneg a
  have k2 : 0 ≤ (d : Rat) * (b * b) := Rat.mul_nonneg (by grind) (sq_nonneg b)
  by_cases ha : a = 0
  · by_cases hb : b = 0
    · subst ha hb; grind
    · have e : norm (⟨a, b⟩ : QS d) = -(d * (b * b)) := by rw [na, ha]; grind
      have e2 : norm (⟨a, b⟩ : QS d) < 0 := by rw [e] at n ⊢; grind
      grind
  · by_cases hb : b = 0
    · subst hb; grind
    · grind
theorem Ps_zero : ¬ Ps (0 : QS d) := by
  unfold Ps
  rw [re_zero, im_zero]
  grind
theorem Ps_neg [Irr d] {x : QS d} (h : Ps x) (h' : Ps (-x)) : False := by
  have := Ps_add h h'
  rw [show x + -x = 0 by grind] at this
  exact Ps_zero this
instance : LT (QS d) := ⟨fun x y => Ps (y - x)⟩
instance : LE (QS d) := ⟨fun x y => x = y ∨ Ps (y - x)⟩
theorem lt_iff (x y : QS d) : x < y ↔ Ps (y - x) := Iff.rfl
theorem le_iff (x y : QS d) : x ≤ y ↔ x = y ∨ Ps (y - x) := Iff.rfl
instance instLin [Irr d] : Std.IsLinearOrder (QS d) where
  le_refl x := .inl rfl
  le_trans x y z h h' := by
    rcases h with rfl | h
    · exact h'
    · rcases h' with rfl | h'
      · exact .inr h
      · have := Ps_add h h'
        rw [show y - x + (z - y) = z - x by grind] at this
        exact .inr this
  le_antisymm x y h h' := by
    rcases h with h | h
    · exact h
    · rcases h' with h' | h'
      · exact h'.symm
      · rw [show x - y = -(y - x) by grind] at h'
        exact (Ps_neg h h').elim
  le_total x y := by
    rcases Ps_tri (y - x) with h | h | h
    · exact .inl (.inr h)
    · exact .inl (.inl (by grind))
    · rw [show -(y - x) = x - y by grind] at h
      exact .inr (.inr h)
instance instLaw [Irr d] : Std.LawfulOrderLT (QS d) where
  lt_iff x y := by
    constructor
    · intro h
      refine ⟨.inr h, fun h' => ?_⟩
      rcases h' with h' | h'
      · subst h'
        rw [lt_iff, show y - y = 0 by grind] at h
        exact Ps_zero h
      · rw [show x - y = -(y - x) by grind] at h'
        exact Ps_neg h h'
    · intro ⟨h, h'⟩
      rcases h with h | h
      · exact absurd (.inl h.symm) h'
      · exact h
instance instOrd [Irr d] : Lean.Grind.OrderedRing (QS d) where
  add_le_left_iff {x y} z := by
    rw [le_iff, le_iff, show y + z - (x + z) = y - x by grind]
    constructor
    · rintro (h | h)
      · exact .inl (by rw [h])
      · exact .inr h
    · rintro (h | h)
      · exact .inl (by grind)
      · exact .inr h
  zero_lt_one := by
    rw [lt_iff, show (1 : QS d) - 0 = 1 by grind]
    left
    unfold norm
    rw [re_one, im_one]
    grind
  mul_lt_mul_of_pos_left {x y z} h h' := by
    rw [lt_iff] at *
    have := Ps_mul h' h
    rwa [show (z - 0) * (y - x) = z * y - z * x by grind] at this
  mul_lt_mul_of_pos_right {x y z} h h' := by
    rw [lt_iff] at *
    have := Ps_mul h' h
    rwa [show (z - 0) * (y - x) = y * z - x * z by grind] at this
example [Irr d] (x y z : QS d) (h : x < y) (h' : y < z) : x + y < z + z - (z - y) := by grind
example [Irr d] (x y z : QS d) (h : x < 2) (h' : y < z) : x + 3 < 17 := by grind
end
end K5

namespace K5
open Lean.Grind
section
variable {d : Int}
/-- root d itself -/
def rt (d : Int) : QS d := ⟨0, 1⟩
theorem rt_sq : rt d * rt d = (d : QS d) := QS.ext (by rw [re_mul, re_int]; show (0 : Rat) * 0 + d * (1 * 1) = d; grind) (by rw [im_mul, im_int]; show (0 : Rat) * 1 + 1 * 0 = 0; grind)
theorem re_lin (a b : Int) : ((a : QS d) + b * rt d).re = a := by
  rw [re_add, re_mul, re_int, re_int, im_int]; show (a : Rat) + (b * 0 + d * (0 * 1)) = a; grind
theorem im_lin (a b : Int) : ((a : QS d) + b * rt d).im = b := by
  rw [im_add, im_mul, re_int, im_int, im_int]; show (0 : Rat) + (b * 1 + 0 * 0) = b; grind
theorem lin_inj {a b u v : Int} (h : (a : QS d) + b * rt d = u + v * rt d) : a = u ∧ b = v := by
  have h1 := congrArg QS.re h
  have h2 := congrArg QS.im h
  rw [re_lin, re_lin] at h1
  rw [im_lin, im_lin] at h2
  exact ⟨Rat.intCast_inj.mp h1, Rat.intCast_inj.mp h2⟩
theorem cast_inj {a b : Int} (h : (a : QS d) = b) : a = b := Rat.intCast_inj.mp (congrArg QS.re h)
theorem cast_ne {a : Int} (h : a ≠ 0) : (a : QS d) ≠ 0 := fun e => h (Rat.intCast_inj.mp (congrArg QS.re e))
theorem cast_lt [Irr d] {a b : Int} : (a : QS d) < b ↔ a < b := by
  rw [lt_iff, show (b : QS d) - a = ((b - a : Int) : QS d) from (Ring.intCast_sub b a).symm]
  unfold Ps norm
  rw [re_int, im_int]
  constructor
  · intro h
    have h' : (0 : Rat) < ((b - a : Int) : Rat) := by grind
    have := Rat.intCast_pos.mp h'
    omega
  · intro h
    left
    have h' : (0 : Rat) < ((b - a : Int) : Rat) := Rat.intCast_pos.mpr (by omega)
    have := Rat.mul_pos h' h'
    constructor <;> grind
theorem cast_le [Irr d] {a b : Int} : (a : QS d) ≤ b ↔ a ≤ b := by
  have h := cast_lt (d := d) (a := b) (b := a)
  constructor
  · intro k
    rcases (show a ≤ b ∨ b < a by omega) with g | g
    · exact g
    · have := h.mpr g
      grind
  · intro k
    rcases (show (a : QS d) ≤ b ∨ (b : QS d) < a by grind) with g | g
    · exact g
    · have := h.mp g
      omega
theorem cast_pos [Irr d] {a : Int} (h : 0 < a) : (0 : QS d) < a := by
  have := cast_lt (d := d) (a := 0) (b := a)
  exact this.mpr h
theorem lin_pos [Irr d] {a b : Int} : (0 : QS d) < (a : QS d) + b * rt d ↔ (0 < a * a - d * (b * b) ∧ 0 < a) ∨ (a * a - d * (b * b) < 0 ∧ 0 < b) := by
  rw [lt_iff, show (a : QS d) + b * rt d - 0 = a + b * rt d by grind]
  unfold Ps norm
  rw [re_lin, im_lin]
  rw [show (a : Rat) * a - d * (b * b) = ((a * a - d * (b * b) : Int) : Rat) by rw [Ring.intCast_sub, Ring.intCast_mul, Ring.intCast_mul, Ring.intCast_mul]]
  have k : ∀ n : Int, (n : Rat) < 0 ↔ n < 0 := fun n => by
    have := Rat.intCast_lt_intCast (a := n) (b := 0)
    exact this
  rw [Rat.intCast_pos, Rat.intCast_pos, Rat.intCast_pos, k]
end

/-- three whole numbers -/
structure Tr where
  a : Int
  b : Int
  c : Int
deriving DecidableEq
def val (d : Int) (t : Tr) : QS d := ((t.a : QS d) + t.b * rt d) / t.c
def gcd3 (a b c : Int) : Nat := Int.gcd (Int.gcd a b) c
/-- in the lowest words, its bottom above 0 -/
def Can (t : Tr) : Prop := 0 < t.c ∧ gcd3 t.a t.b t.c = 1
def byOf (a b c : Int) : Int := if c < 0 then 0 - (gcd3 a b c : Int) else gcd3 a b c
def low (a b c : Int) : Tr := ⟨a.fdiv (byOf a b c), b.fdiv (byOf a b c), c.fdiv (byOf a b c)⟩

theorem gcd3_dvd (a b c : Int) : (gcd3 a b c : Int) ∣ a ∧ (gcd3 a b c : Int) ∣ b ∧ (gcd3 a b c : Int) ∣ c := by
  have h1 := Int.gcd_dvd_left ((Int.gcd a b : Nat) : Int) c
  have h2 := Int.gcd_dvd_right ((Int.gcd a b : Nat) : Int) c
  exact ⟨Int.dvd_trans h1 (Int.gcd_dvd_left a b), Int.dvd_trans h1 (Int.gcd_dvd_right a b), h2⟩
theorem gcd3_mul (a b c k : Int) : gcd3 (k * a) (k * b) (k * c) = k.natAbs * gcd3 a b c := by
  unfold gcd3
  rw [Int.gcd_mul_left, Int.natCast_mul]
  have e : ((k.natAbs : Int) * (Int.gcd a b : Nat)).gcd (k * c) = (k * (Int.gcd a b : Nat)).gcd (k * c) := by
    unfold Int.gcd; rw [Int.natAbs_mul, Int.natAbs_mul, Int.natAbs_mul, Int.natAbs_natCast, Int.natAbs_natCast]
  rw [e, Int.gcd_mul_left]
theorem gcd3_ne {a b c : Int} (h : c ≠ 0) : gcd3 a b c ≠ 0 := by
  intro e
  have := (gcd3_dvd a b c).2.2
  rw [e] at this
  exact h (Int.zero_dvd.mp this)
/-- what low is -/
structure LowOf (a b c : Int) (t : Tr) (k : Int) : Prop where
  ne : k ≠ 0
  ha : a = k * t.a
  hb : b = k * t.b
  hc : c = k * t.c
  can : Can t
theorem byOf_ne {a b c : Int} (h : c ≠ 0) : byOf a b c ≠ 0 := by
  have := gcd3_ne (a := a) (b := b) h
  unfold byOf
  split <;> omega
theorem low_of {a b c : Int} (h : c ≠ 0) : LowOf a b c (low a b c) (byOf a b c) := by
  have hg := gcd3_ne (a := a) (b := b) h
  obtain ⟨h1, h2, h3⟩ := gcd3_dvd a b c
  have hk : byOf a b c ≠ 0 := byOf_ne h
  have hd : ∀ x, (gcd3 a b c : Int) ∣ x → x = byOf a b c * x.fdiv (byOf a b c) := by
    intro x hx
    have hx' : byOf a b c ∣ x := by
      unfold byOf
      split
      · rw [Int.zero_sub]; exact Int.neg_dvd.mpr hx
      · exact hx
    rw [Int.fdiv_eq_ediv_of_dvd hx', Int.mul_ediv_cancel' hx']
  have ea := hd a h1
  have eb := hd b h2
  have ec := hd c h3
  refine ⟨hk, ea, eb, ec, ?_, ?_⟩
  · show 0 < c.fdiv (byOf a b c)
    rcases (show c < 0 ∨ 0 < c by omega) with g | g
    · have e : byOf a b c < 0 := by unfold byOf; rw [if_pos g]; omega
      rcases (show 0 < c.fdiv (byOf a b c) ∨ c.fdiv (byOf a b c) ≤ 0 by omega) with k | k
      · exact k
      · have := Int.mul_nonneg_of_nonpos_of_nonpos (show byOf a b c ≤ 0 by omega) k
        omega
    · have e : 0 < byOf a b c := by unfold byOf; rw [if_neg (by omega)]; omega
      rcases (show 0 < c.fdiv (byOf a b c) ∨ c.fdiv (byOf a b c) ≤ 0 by omega) with k | k
      · exact k
      · have := Int.mul_nonpos_of_nonneg_of_nonpos (show 0 ≤ byOf a b c by omega) k
        omega
  · have hh := gcd3_mul (a.fdiv (byOf a b c)) (b.fdiv (byOf a b c)) (c.fdiv (byOf a b c)) (byOf a b c)
    rw [← ea, ← eb, ← ec] at hh
    have en : (byOf a b c).natAbs = gcd3 a b c := by
      unfold byOf
      split <;> omega
    rw [en] at hh
    show gcd3 (a.fdiv (byOf a b c)) (b.fdiv (byOf a b c)) (c.fdiv (byOf a b c)) = 1
    have : gcd3 a b c * 1 = gcd3 a b c * gcd3 (a.fdiv (byOf a b c)) (b.fdiv (byOf a b c)) (c.fdiv (byOf a b c)) := by omega
    exact (Nat.eq_of_mul_eq_mul_left (by omega) this).symm
/-- three numbers that lie as a lowest tuple does are so many times it -/
theorem Can.mult {t : Tr} (h : Can t) {A B C : Int} (h1 : A * t.c = t.a * C) (h2 : B * t.c = t.b * C) : ∃ k, A = k * t.a ∧ B = k * t.b ∧ C = k * t.c := by
  obtain ⟨hp, hg⟩ := h
  have d1 : t.c ∣ t.a * C := ⟨A, by rw [← h1, Int.mul_comm]⟩
  have d2 : t.c ∣ t.b * C := ⟨B, by rw [← h2, Int.mul_comm]⟩
  have d3 : t.c ∣ t.c * C := Int.dvd_mul_right _ _
  have dg : t.c ∣ ((gcd3 (C * t.a) (C * t.b) (C * t.c) : Nat) : Int) := by
    unfold gcd3
    refine Int.dvd_coe_gcd (Int.dvd_coe_gcd ?_ ?_) ?_
    · rw [Int.mul_comm]; exact d1
    · rw [Int.mul_comm]; exact d2
    · rw [Int.mul_comm]; exact d3
  rw [gcd3_mul, hg, Nat.mul_one] at dg
  obtain ⟨k, hk⟩ : t.c ∣ C := Int.dvd_natAbs.mp dg
  have hk' : C = k * t.c := by rw [hk, Int.mul_comm]
  refine ⟨k, ?_, ?_, hk'⟩
  · have e : A * t.c = k * t.a * t.c := by rw [h1, hk']; grind
    exact Int.eq_of_mul_eq_mul_right (by omega) e
  · have e : B * t.c = k * t.b * t.c := by rw [h2, hk']; grind
    exact Int.eq_of_mul_eq_mul_right (by omega) e
theorem Can.eq_of {t u : Tr} (h : Can t) (h' : Can u) (h1 : u.a * t.c = t.a * u.c) (h2 : u.b * t.c = t.b * u.c) : t = u := by
  obtain ⟨k, e1, e2, e3⟩ := h.mult h1 h2
  have hg := h'.2
  rw [e1, e2, e3, gcd3_mul, h.2] at hg
  have hp := h.1
  have hp' := h'.1
  have hk : 0 < k := by
    rcases (show 0 < k ∨ k ≤ 0 by omega) with g | g
    · exact g
    · have := Int.mul_nonpos_of_nonpos_of_nonneg g (show 0 ≤ t.c by omega)
      omega
  have hk1 : k = 1 := by omega
  subst hk1
  cases t
  cases u
  simp only [Tr.mk.injEq] at *
  omega
section
variable {d : Int} [Irr d]
theorem val_mul {t : Tr} (h : t.c ≠ 0) : val d t * t.c = t.a + t.b * rt d := by
  have := cast_ne (d := d) h
  unfold val
  grind
theorem val_inj {t u : Tr} (h : Can t) (h' : Can u) (e : val d t = val d u) : t = u := by
  have p := cast_ne (d := d) (show t.c ≠ 0 by have := h.1; omega)
  have p' := cast_ne (d := d) (show u.c ≠ 0 by have := h'.1; omega)
  unfold val at e
  have e2 : ((t.a * u.c : Int) : QS d) + ((t.b * u.c : Int) : QS d) * rt d = ((u.a * t.c : Int) : QS d) + ((u.b * t.c : Int) : QS d) * rt d := by
    rw [Ring.intCast_mul, Ring.intCast_mul, Ring.intCast_mul, Ring.intCast_mul]
    grind
  obtain ⟨x, y⟩ := lin_inj e2
  exact h.eq_of h' x.symm y.symm
theorem val_low {a b c : Int} (h : c ≠ 0) : val d (low a b c) = ((a : QS d) + b * rt d) / c := by
  have hl := low_of (a := a) (b := b) h
  have hk := cast_ne (d := d) hl.ne
  have hc := cast_ne (d := d) (show (low a b c).c ≠ 0 by have := hl.can.1; omega)
  rw [congrArg (Int.cast (R := QS d)) hl.ha, congrArg (Int.cast (R := QS d)) hl.hb, congrArg (Int.cast (R := QS d)) hl.hc]
  rw [Ring.intCast_mul, Ring.intCast_mul, Ring.intCast_mul]
  unfold val
  grind
end
end K5

namespace K5
open Lean.Grind
def plus (x y : Tr) : Tr := low (x.a * y.c + y.a * x.c) (x.b * y.c + y.b * x.c) (x.c * y.c)
def negT (y : Tr) : Tr := ⟨0 - y.a, 0 - y.b, y.c⟩
def minus (x y : Tr) : Tr := plus x (negT y)
def times (r : Int) (x y : Tr) : Tr := low (x.a * y.a + x.b * y.b * r) (x.a * y.b + x.b * y.a) (x.c * y.c)
def below (r : Int) (y : Tr) : Int := y.a * y.a - y.b * y.b * r
def turned (r : Int) (y : Tr) : Tr := low (y.a * y.c) (0 - y.b * y.c) (below r y)
def over (r : Int) (x y : Tr) : Tr := times r x (turned r y)
def sgn (r : Int) (t : Tr) : Int :=
  if t.a = 0 ∧ t.b = 0 then 0 else if t.a ≥ 0 ∧ t.b ≥ 0 then 1 else if t.a ≤ 0 ∧ t.b ≤ 0 then -1
  else if decide (t.a > 0) = decide (t.a * t.a > t.b * t.b * r) then 1 else -1
def less (r : Int) (x y : Tr) : Bool := decide (sgn r (minus x y) < 0)
/-- a number of the root r, taken as one of the root d -/
def RD (r d : Int) (t : Tr) : Prop := r = d ∨ (r = 0 ∧ t.b = 0)

section
variable {d : Int} [Irr d] {r : Int}
theorem low_b0 {a c : Int} (h : c ≠ 0) : (low a 0 c).b = 0 := by
  have hl := low_of (a := a) (b := 0) h
  have := hl.hb
  rcases Int.mul_eq_zero.mp this.symm with g | g
  · exact absurd g hl.ne
  · exact g
theorem can_low {a b c : Int} (h : c ≠ 0) : Can (low a b c) := (low_of h).can
theorem can_plus {x y : Tr} (hx : x.c ≠ 0) (hy : y.c ≠ 0) : Can (plus x y) := can_low (Int.mul_ne_zero hx hy)
theorem can_minus {x y : Tr} (hx : x.c ≠ 0) (hy : y.c ≠ 0) : Can (minus x y) := can_plus hx hy
theorem can_times {x y : Tr} (hx : x.c ≠ 0) (hy : y.c ≠ 0) : Can (times r x y) := can_low (Int.mul_ne_zero hx hy)
theorem Can.ne {t : Tr} (h : Can t) : t.c ≠ 0 := by have := h.1; omega
theorem rd_plus {x y : Tr} (hx : x.c ≠ 0) (hy : y.c ≠ 0) (h : RD r d x) (h' : RD r d y) : RD r d (plus x y) := by
  rcases h with h | ⟨h, hb⟩
  · exact .inl h
  rcases h' with h' | ⟨h', hb'⟩
  · exact .inl h'
  refine .inr ⟨h, ?_⟩
  unfold plus
  rw [hb, hb', Int.zero_mul, Int.zero_mul]
  exact low_b0 (Int.mul_ne_zero hx hy)
theorem rd_neg {y : Tr} (h : RD r d y) : RD r d (negT y) := by
  rcases h with h | ⟨h, hb⟩
  · exact .inl h
  · exact .inr ⟨h, by show 0 - y.b = 0; omega⟩
theorem rd_minus {x y : Tr} (hx : x.c ≠ 0) (hy : y.c ≠ 0) (h : RD r d x) (h' : RD r d y) : RD r d (minus x y) := rd_plus hx hy h (rd_neg h')
theorem rd_times {x y : Tr} (hx : x.c ≠ 0) (hy : y.c ≠ 0) (h : RD r d x) (h' : RD r d y) : RD r d (times r x y) := by
  rcases h with h | ⟨h, hb⟩
  · exact .inl h
  rcases h' with h' | ⟨h', hb'⟩
  · exact .inl h'
  refine .inr ⟨h, ?_⟩
  unfold times
  rw [hb, hb', show x.a * 0 + 0 * y.a = 0 by omega]
  exact low_b0 (Int.mul_ne_zero hx hy)
theorem val_plus {x y : Tr} (hx : x.c ≠ 0) (hy : y.c ≠ 0) : val d (plus x y) = val d x + val d y := by
  have h1 := cast_ne (d := d) hx
  have h2 := cast_ne (d := d) hy
  unfold plus
  rw [val_low (Int.mul_ne_zero hx hy)]
  unfold val
  simp only [Ring.intCast_add, Ring.intCast_mul]
  grind
theorem val_neg {y : Tr} (hy : y.c ≠ 0) : val d (negT y) = -val d y := by
  have h2 := cast_ne (d := d) hy
  unfold val negT
  simp only [Ring.intCast_sub]
  rw [show ((0 : Int) : QS d) = 0 from rfl]
  grind
theorem val_minus {x y : Tr} (hx : x.c ≠ 0) (hy : y.c ≠ 0) : val d (minus x y) = val d x - val d y := by
  unfold minus
  rw [val_plus hx (show (negT y).c ≠ 0 from hy), val_neg hy]
  grind
theorem val_times {x y : Tr} (hx : x.c ≠ 0) (hy : y.c ≠ 0) (h : RD r d x) (h' : RD r d y) : val d (times r x y) = val d x * val d y := by
  have h1 := cast_ne (d := d) hx
  have h2 := cast_ne (d := d) hy
  have hs := rt_sq (d := d)
  unfold times
  rw [val_low (Int.mul_ne_zero hx hy)]
  unfold val
  have e : x.b * y.b * r = x.b * y.b * d := by
    rcases h with h | ⟨h, hb⟩
    · rw [h]
    · rw [hb, Int.zero_mul, Int.zero_mul, Int.zero_mul]
  rw [e]
  simp only [Ring.intCast_add, Ring.intCast_mul]
  grind
theorem below_eq {y : Tr} (h : RD r d y) : below r y = y.a * y.a - d * (y.b * y.b) := by
  unfold below
  rcases h with h | ⟨h, hb⟩
  · rw [h]; grind
  · rw [hb]; grind
/-- no tuple but that of 0 has the norm 0 -/
theorem norm_int {a b : Int} (h : a * a - d * (b * b) = 0) : a = 0 ∧ b = 0 := by
  have h2 : (a : Rat) * a = d * ((b : Rat) * b) := by
    rw [← Rat.intCast_mul, ← Rat.intCast_mul, ← Rat.intCast_mul]
    exact congrArg _ (by omega)
  have h3 := Irr.irr _ _ h2
  have hb : b = 0 := Rat.intCast_inj.mp h3
  subst hb
  refine ⟨?_, rfl⟩
  have : a * a = 0 := by omega
  rcases Int.mul_eq_zero.mp this with g | g <;> exact g
theorem below_ne {y : Tr} (h : RD r d y) (hy : ¬ (y.a = 0 ∧ y.b = 0)) : below r y ≠ 0 := fun e => hy (norm_int (d := d) (by rw [← below_eq h]; exact e))
theorem val_turned {y : Tr} (hy : y.c ≠ 0) (h : RD r d y) (h0 : below r y ≠ 0) : val d (turned r y) = 1 / val d y := by
  have h1 := cast_ne (d := d) h0
  have h2 := cast_ne (d := d) hy
  have hs := rt_sq (d := d)
  unfold turned
  rw [val_low h0]
  unfold val
  rw [below_eq h] at *
  simp only [Ring.intCast_sub, Ring.intCast_mul] at *
  rw [show ((0 : Int) : QS d) = 0 from rfl]
  have h3 : (y.a : QS d) + y.b * rt d ≠ 0 := by
    intro e
    apply h1
    have : ((y.a : QS d) + y.b * rt d) * (y.a - y.b * rt d) = 0 := by rw [e]; grind
    grind
  grind
theorem rd_turned {y : Tr} (h : RD r d y) (h0 : below r y ≠ 0) : RD r d (turned r y) := by
  rcases h with h | ⟨h, hb⟩
  · exact .inl h
  refine .inr ⟨h, ?_⟩
  unfold turned
  rw [hb, Int.zero_mul]
  exact low_b0 h0
theorem can_over {x y : Tr} (hx : x.c ≠ 0) (h0 : below r y ≠ 0) : Can (over r x y) := can_times hx (can_low h0).ne
theorem rd_over {x y : Tr} (hx : x.c ≠ 0) (h : RD r d x) (h' : RD r d y) (h0 : below r y ≠ 0) : RD r d (over r x y) := rd_times hx (can_low h0).ne h (rd_turned h' h0)
theorem val_over {x y : Tr} (hx : x.c ≠ 0) (hy : y.c ≠ 0) (h : RD r d x) (h' : RD r d y) (h0 : below r y ≠ 0) : val d (over r x y) = val d x / val d y := by
  show val d (times r x (turned r y)) = _
  rw [val_times (y := turned r y) hx (can_low h0).ne h (rd_turned h' h0), val_turned hy h' h0]
  grind
theorem sq_pos {a : Int} (h : a ≠ 0) : 0 < a * a := by
  rcases (show 0 < a ∨ 0 < -a by omega) with g | g
  · exact Int.mul_pos g g
  · have := Int.mul_pos g g
    grind
theorem dsq {b : Int} : 0 ≤ d * (b * b) := by
  have := Irr.pos (d := d)
  have h : 0 ≤ b * b := by
    by_cases hb : b = 0
    · subst hb; decide
    · have := sq_pos hb; omega
  exact Int.mul_nonneg (by omega) h
theorem dsq_pos {b : Int} (h : b ≠ 0) : 0 < d * (b * b) := Int.mul_pos (Irr.pos (d := d)) (sq_pos h)
theorem val_sign {t : Tr} (ht : 0 < t.c) : ((0 : QS d) < val d t ↔ (0 : QS d) < (t.a : QS d) + t.b * rt d) ∧ (val d t < 0 ↔ (t.a : QS d) + t.b * rt d < 0) := by
  have h := val_mul (d := d) (t := t) (by omega)
  have hc := cast_pos (d := d) ht
  have a1 : 0 < val d t → 0 < val d t * t.c := fun x => OrderedRing.mul_pos x hc
  have a2 : 0 < -val d t → 0 < (-val d t) * t.c := fun x => OrderedRing.mul_pos x hc
  have a3 : val d t = 0 → val d t * t.c = 0 := fun x => by rw [x]; grind
  have a4 : (-val d t) * t.c = -(val d t * t.c) := by grind
  rw [← h]
  constructor <;> constructor <;> intro k
  · exact a1 k
  · rcases (show 0 < val d t ∨ val d t = 0 ∨ 0 < -val d t by grind) with g | g | g
    · exact g
    · have := a3 g; grind
    · have := a2 g; grind
  · have := a2 (by grind); grind
  · rcases (show 0 < val d t ∨ val d t = 0 ∨ 0 < -val d t by grind) with g | g | g
    · have := a1 g; grind
    · have := a3 g; grind
    · grind
theorem sgn_eq {t : Tr} (h : RD r d t) (ht : 0 < t.c) : sgn r t < 0 ↔ val d t < 0 := by
  rw [(val_sign ht).2]
  rw [show ((t.a : QS d) + t.b * rt d < 0) ↔ (0 : QS d) < ((-t.a : Int) : QS d) + ((-t.b : Int) : QS d) * rt d by
    rw [Ring.intCast_neg, Ring.intCast_neg]
    constructor <;> intro k <;> grind]
  rw [lin_pos]
  have hd := Irr.pos (d := d)
  have e : t.b * t.b * r = d * (t.b * t.b) := by
    rcases h with h | ⟨h, hb⟩
    · rw [h]; grind
    · rw [hb]; grind
  have e1 : -t.a * -t.a = t.a * t.a := by grind
  have e2 : -t.b * -t.b = t.b * t.b := by grind
  unfold sgn
  rw [e, e1, e2]
  generalize hA : t.a = A
  generalize hB : t.b = B
  have n0 := norm_int (d := d) (a := A) (b := B)
  have p1 : A ≠ 0 → 0 < A * A := sq_pos
  have p2 : B ≠ 0 → 0 < d * (B * B) := dsq_pos
  have p3 : A = 0 → A * A = 0 := fun x => by rw [x]; rfl
  have p4 : B = 0 → d * (B * B) = 0 := fun x => by rw [x]; simp
  generalize A * A = AA at *
  generalize d * (B * B) = BB at *
  split
  · omega
  · split
    · omega
    · split
      · omega
      · split
        · rename_i g
          by_cases gA : A > 0
          · rw [decide_eq_true gA] at g
            have := _root_.of_decide_eq_true g.symm
            omega
          · rw [decide_eq_false gA] at g
            have := _root_.of_decide_eq_false g.symm
            omega
        · rename_i g
          by_cases gA : A > 0
          · rw [decide_eq_true gA] at g
            have : ¬ (AA > BB) := fun x => g (decide_eq_true x).symm
            omega
          · rw [decide_eq_false gA] at g
            have : AA > BB := by
              by_cases z : AA > BB
              · exact z
              · exact absurd (decide_eq_false z).symm g
            omega
theorem less_eq {x y : Tr} (hx : x.c ≠ 0) (hy : y.c ≠ 0) (h : RD r d x) (h' : RD r d y) : less r x y = true ↔ val d x < val d y := by
  unfold less
  rw [decide_eq_true_iff, sgn_eq (rd_minus hx hy h h') (can_minus hx hy).1, val_minus hx hy]
  constructor <;> intro k <;> grind
end
end K5

namespace K5
open Lean.Grind
section
variable {d : Int} [Irr d] {r : Int}
theorem qmul_pos {x y : QS d} (h : 0 < x) (h' : 0 < y) : 0 < x * y := OrderedRing.mul_pos h h'
theorem qmul_nn {x y : QS d} (h : 0 ≤ x) (h' : 0 ≤ y) : 0 ≤ x * y := by
  rcases (show 0 < x ∨ x = 0 by grind) with g | g
  · rcases (show 0 < y ∨ y = 0 by grind) with k | k
    · have := qmul_pos g k
      grind
    · rw [k]; grind
  · rw [g]; grind
theorem qmul_le {x y z : QS d} (h : x ≤ y) (h' : 0 ≤ z) : x * z ≤ y * z := by
  have := qmul_nn (x := y - x) (y := z) (by grind) h'
  grind
theorem qmul_lt {x y z : QS d} (h : x < y) (h' : 0 < z) : x * z < y * z := by
  have := qmul_pos (x := y - x) (y := z) (by grind) h'
  grind
theorem qle_of_mul {x y z : QS d} (h : x * z ≤ y * z) (h' : 0 < z) : x ≤ y := by
  rcases (show x ≤ y ∨ y < x by grind) with g | g
  · exact g
  · have := qmul_lt g h'
    grind
theorem qlt_of_mul {x y z : QS d} (h : x * z < y * z) (h' : 0 < z) : x < y := by
  rcases (show x < y ∨ y ≤ x by grind) with g | g
  · exact g
  · have := qmul_le g (show (0 : QS d) ≤ z by grind)
    grind
theorem qsq_lt {x y : QS d} (h : x * x < y * y) (hy : 0 ≤ y) : x < y := by
  rcases (show x < y ∨ y ≤ x by grind) with g | g
  · exact g
  · have h1 := qmul_le g hy
    have h2 := qmul_le g (show (0 : QS d) ≤ x by grind)
    grind
theorem rt_pos : (0 : QS d) < rt d := by
  have h := (lin_pos (d := d) (a := 0) (b := 1)).mpr (.inr ⟨by have := Irr.pos (d := d); omega, by decide⟩)
  have e : ((0 : Int) : QS d) + ((1 : Int) : QS d) * rt d = rt d := by
    rw [show ((0 : Int) : QS d) = 0 from rfl, show ((1 : Int) : QS d) = 1 from rfl]
    grind
  rw [e] at h
  exact h
theorem rt_le4 : rt d ≤ (4 : QS d) := by
  have h := cast_le (d := d) (a := d) (b := 16)
  have h2 := h.mpr (Irr.few)
  have e : ((16 : Int) : QS d) = 4 * 4 := by
    rw [show ((16 : Int) : QS d) = ((4 * 4 : Int) : QS d) from rfl, Ring.intCast_mul]; rfl
  rw [e, ← rt_sq] at h2
  rcases (show rt d ≤ (4 : QS d) ∨ (4 : QS d) < rt d by grind) with g | g
  · exact g
  · have h0 := rt_pos (d := d)
    have h1 := qmul_lt g h0
    have h3 := qmul_lt g (show (0 : QS d) < 4 by grind)
    grind
theorem cast1 : ((1 : Int) : QS d) = 1 := rfl
theorem cast0 : ((0 : Int) : QS d) = 0 := rfl

/-! ### the whole part -/
def IsFl (d : Int) (t : Tr) (w : Int) : Prop := (w : QS d) ≤ val d t ∧ val d t < (w : QS d) + 1
theorem fl_unique [Irr d] {t u : Tr} {w v : Int} (h : IsFl d t w) (h' : IsFl d u v) (e : val d u = val d t + 1) : v = w + 1 := by
  obtain ⟨h1, h2⟩ := h
  obtain ⟨h3, h4⟩ := h'
  rw [e] at h3 h4
  have a1 : (v : QS d) < ((w + 2 : Int) : QS d) := by
    rw [Ring.intCast_add, show ((2 : Int) : QS d) = 1 + 1 by rw [show ((2 : Int) : QS d) = ((1 + 1 : Int) : QS d) from rfl, Ring.intCast_add]; rfl]
    grind
  have a2 : (w : QS d) < (v : QS d) := by grind
  have b1 := cast_lt.mp a1
  have b2 := cast_lt.mp a2
  omega
theorem fdiv_le {z c : Int} (h : 0 < c) : c * z.fdiv c ≤ z ∧ z + 1 ≤ c * (z.fdiv c + 1) := by
  have h1 := Int.mul_fdiv_add_fmod z c
  have h2 := Int.fmod_nonneg_of_pos z h
  have h3 := Int.fmod_lt_of_pos z h
  have e : c * (z.fdiv c + 1) = c * z.fdiv c + c := by grind
  omega
theorem is_floor {t : Tr} (hc : 0 < t.c) (h : RD r d t) {s : Int} (s0 : 0 ≤ s) (s1 : s * s ≤ t.b * t.b * r) (s2 : t.b * t.b * r < (s + 1) * (s + 1)) :
    IsFl d t (if t.b ≥ 0 then (t.a + s).fdiv t.c else (t.a - s - 1).fdiv t.c) := by
  have e : t.b * t.b * r = t.b * t.b * d := by
    rcases h with h | ⟨h, hb⟩
    · rw [h]
    · rw [hb]; simp
  rw [e] at s1 s2
  have v := val_mul (d := d) (t := t) (by omega)
  have hcp := cast_pos (d := d) hc
  have r0 := rt_pos (d := d)
  have rs := rt_sq (d := d)
  have q1 := cast_le (d := d) |>.mpr s1
  have q2 := cast_lt (d := d) |>.mpr s2
  have q0 := cast_le (d := d) |>.mpr s0
  rw [cast0] at q0
  simp only [Ring.intCast_mul, Ring.intCast_add, cast1] at q1 q2
  rw [← rs] at q1 q2
  split
  · rename_i hb
    have hb' := cast_le (d := d) |>.mpr hb
    rw [cast0] at hb'
    have n0 := qmul_nn hb' (show (0 : QS d) ≤ rt d by grind)
    have k1 : (s : QS d) ≤ t.b * rt d := by
      rcases (show (s : QS d) ≤ t.b * rt d ∨ t.b * rt d < (s : QS d) by grind) with g | g
      · exact g
      · have z1 := qmul_le (show t.b * rt d ≤ (s : QS d) by grind) n0
        have z2 := qmul_lt g (show (0 : QS d) < s by grind)
        grind
    have k2 : t.b * rt d < (s : QS d) + 1 := qsq_lt (by grind) (by grind)
    obtain ⟨f1, f2⟩ := fdiv_le (z := t.a + s) hc
    have g1 := cast_le (d := d) |>.mpr f1
    have g2 := cast_le (d := d) |>.mpr f2
    generalize (t.a + s).fdiv t.c = w at *
    simp only [Ring.intCast_mul, Ring.intCast_add, cast1] at g1 g2
    exact ⟨qle_of_mul (z := (t.c : QS d)) (by grind) hcp, qlt_of_mul (z := (t.c : QS d)) (by grind) hcp⟩
  · rename_i hb
    have hb' := cast_lt (d := d) |>.mpr (show t.b < 0 by omega)
    rw [cast0] at hb'
    have n0 := qmul_pos (show (0 : QS d) < -t.b by grind) r0
    have k1 : (s : QS d) < -t.b * rt d := by
      rcases (show (s : QS d) < -t.b * rt d ∨ -t.b * rt d ≤ (s : QS d) by grind) with g | g
      · exact g
      · have z1 := qmul_le g (show (0 : QS d) ≤ -t.b * rt d by grind)
        have z2 := qmul_le g q0
        have z3 : ((s * s : Int) : QS d) = ((t.b * t.b * d : Int) : QS d) := by
          simp only [Ring.intCast_mul]
          rw [← rs]
          grind
        have z4 := cast_inj z3
        have := norm_int (d := d) (a := s) (b := t.b) (by rw [z4]; grind)
        omega
    have k2 : -t.b * rt d < (s : QS d) + 1 := qsq_lt (by grind) (by grind)
    obtain ⟨f1, f2⟩ := fdiv_le (z := t.a - s - 1) hc
    have g1 := cast_le (d := d) |>.mpr f1
    have g2 := cast_le (d := d) |>.mpr f2
    generalize (t.a - s - 1).fdiv t.c = w at *
    simp only [Ring.intCast_mul, Ring.intCast_add, Ring.intCast_sub, cast1] at g1 g2
    exact ⟨qle_of_mul (z := (t.c : QS d)) (by grind) hcp, qlt_of_mul (z := (t.c : QS d)) (by grind) hcp⟩
end
end K5

namespace K5
open Lean.Grind
section
variable {d : Int} [Irr d] {r : Int}
/-- how great the numbers of a tuple are, so many times taken: what a turn keeps -/
def Fm (d F M : Int) (t : Tr) : Prop := ∃ k, 0 < k ∧ -F ≤ k * t.b ∧ k * t.b ≤ F ∧ k * t.c ≤ M ∧ -M ≤ k * t.a ∧ k * t.a ≤ M ∧ k * t.c ∣ k * t.a * (k * t.a) - d * (k * t.b * (k * t.b))
theorem fm_start {t : Tr} (a1 : -20 ≤ t.a) (a2 : t.a ≤ 20) (b1 : -10 ≤ t.b) (b2 : t.b ≤ 10) (c1 : 0 < t.c) (c2 : t.c ≤ 12) : Fm d 120 240 t := by
  have k0 : ∀ x y : Int, -y ≤ x → x ≤ y → -(12 * y) ≤ t.c * x ∧ t.c * x ≤ 12 * y := fun x y h1 h2 => by
    have m1 := Int.mul_le_mul_of_nonneg_left h2 (show 0 ≤ t.c by omega)
    have m2 := Int.mul_le_mul_of_nonneg_left h1 (show 0 ≤ t.c by omega)
    have m3 := Int.mul_le_mul_of_nonneg_right c2 (show 0 ≤ y by omega)
    have e : t.c * -y = -(t.c * y) := Int.mul_neg _ _
    omega
  have ka := k0 t.a 20 a1 a2
  have kb := k0 t.b 10 b1 b2
  have kc := k0 t.c 12 (by omega) (by omega)
  refine ⟨t.c, c1, by omega, by omega, by omega, by omega, by omega, ⟨t.a * t.a - d * (t.b * t.b), by grind⟩⟩
theorem gr_le {G F : Int} (h1 : -F ≤ G) (h2 : G ≤ F) : (G : QS d) * rt d ≤ 4 * (F : QS d) ∧ -(4 * (F : QS d)) ≤ (G : QS d) * rt d := by
  have r0 := rt_pos (d := d)
  have r4 := rt_le4 (d := d)
  have a1 := cast_le (d := d) |>.mpr h1
  have a2 := cast_le (d := d) |>.mpr h2
  rw [Ring.intCast_neg] at a1
  have f0 : (0 : QS d) ≤ F := by
    have := cast_le (d := d) |>.mpr (show 0 ≤ F by omega)
    rwa [cast0] at this
  have m1 := qmul_le a2 (show (0 : QS d) ≤ rt d by grind)
  have m2 := qmul_le a1 (show (0 : QS d) ≤ rt d by grind)
  have m3 := qmul_le r4 f0
  constructor <;> grind
theorem fm_step {F M w : Int} {t u : Tr} (hc : Can t) (hu : Can u) (hF : Fm d F M t) (h0 : 0 < val d t - w) (h1 : val d t - w ≤ 1) (hv : val d u * (val d t - w) = 1) : Fm d F (M + 8 * F) u := by
  obtain ⟨k, hk, b1, b2, c1, a1, a2, dv⟩ := hF
  have hcp := hc.1
  have hQ : 0 < k * t.c := Int.mul_pos hk hcp
  have vm := val_mul (d := d) (t := t) (by omega)
  have vu := val_mul (d := d) (t := u) hu.ne
  have vQ : val d t * ((k * t.c : Int) : QS d) = ((k * t.a : Int) : QS d) + ((k * t.b : Int) : QS d) * rt d := by
    simp only [Ring.intCast_mul]
    grind
  generalize k * t.a = P at *
  generalize k * t.b = G at *
  generalize k * t.c = Q at *
  have F0 : 0 ≤ F := by omega
  have qQ := cast_pos (d := d) hQ
  obtain ⟨E, hE⟩ := dv
  have hq : (P - w * Q) * (P - w * Q) - d * (G * G) = Q * (E - w * (2 * P - w * Q)) := by grind
  generalize E - w * (2 * P - w * Q) = S at hq
  have eY : (val d t - w) * (Q : QS d) = ((P - w * Q : Int) : QS d) + (G : QS d) * rt d := by
    simp only [Ring.intCast_mul, Ring.intCast_sub]
    grind
  have y0 := qmul_pos h0 qQ
  have y1 := qmul_le h1 (show (0 : QS d) ≤ Q by grind)
  have uY : val d u * (((P - w * Q : Int) : QS d) + (G : QS d) * rt d) = Q := by
    rw [← eY]; grind
  rw [eY] at y0 y1
  generalize P - w * Q = R at *
  have hYZ : ((R : QS d) + G * rt d) * (R - G * rt d) = Q * S := by
    have e1 : ((R * R - d * (G * G) : Int) : QS d) = ((Q * S : Int) : QS d) := by rw [hq]
    simp only [Ring.intCast_mul, Ring.intCast_sub] at e1
    rw [← rt_sq] at e1
    grind
  obtain ⟨g1, g2⟩ := gr_le (d := d) b1 b2
  have qM := cast_le (d := d) |>.mpr c1
  have qF := cast_le (d := d) |>.mpr F0
  rw [cast0] at qF
  -- S times u is R - G rt
  have sv : (S : QS d) * val d u = R - G * rt d := by
    have e1 : (Q : QS d) * ((S : QS d) * val d u) = Q * (R - G * rt d) := by
      rw [show (Q : QS d) * ((S : QS d) * val d u) = (Q * S) * val d u by grind, ← hYZ]
      grind
    have n0 : (Q : QS d) ≠ 0 := by grind
    grind
  have lin : ((u.a * S : Int) : QS d) + ((u.b * S : Int) : QS d) * rt d = ((R * u.c : Int) : QS d) + ((-G * u.c : Int) : QS d) * rt d := by
    simp only [Ring.intCast_mul, Ring.intCast_neg]
    grind
  obtain ⟨l1, l2⟩ := lin_inj lin
  obtain ⟨m, e1, e2, e3⟩ := hu.mult l1.symm l2.symm
  have cup := hu.1
  have M8 : ((M + 8 * F : Int) : QS d) = M + 8 * F := by
    simp only [Ring.intCast_mul, Ring.intCast_add]; rfl
  have M8n : ((-(M + 8 * F) : Int) : QS d) = -(M + 8 * F) := by
    rw [Ring.intCast_neg, M8]
  have bR1 : R ≤ M + 8 * F := by
    apply cast_le (d := d) |>.mp
    rw [M8]; grind
  have bR2 : -(M + 8 * F) ≤ R := by
    apply cast_le (d := d) |>.mp
    rw [M8n]; grind
  have z1 : (R : QS d) - G * rt d ≤ M + 8 * F := by grind
  have z2 : -(M + 8 * F : QS d) ≤ (R : QS d) - G * rt d := by grind
  have B0 : (0 : QS d) ≤ M + 8 * F := by grind
  have w1 := qmul_le z1 (show (0 : QS d) ≤ (R : QS d) + G * rt d by grind)
  have w2 := qmul_le z2 (show (0 : QS d) ≤ (R : QS d) + G * rt d by grind)
  have w3 := qmul_le (show (R : QS d) + G * rt d ≤ Q by grind) B0
  have bS1 : S ≤ M + 8 * F := by
    apply cast_le (d := d) |>.mp
    rw [M8]
    exact qle_of_mul (z := (Q : QS d)) (by grind) qQ
  have bS2 : -(M + 8 * F) ≤ S := by
    apply cast_le (d := d) |>.mp
    rw [M8n]
    exact qle_of_mul (z := (Q : QS d)) (by grind) qQ
  have mne : m ≠ 0 := by
    intro z
    rw [z] at e1 e2
    have r0 : R = 0 := by omega
    have gg : G = 0 := by omega
    rw [r0, gg, cast0] at y0
    grind
  rcases (show 0 < m ∨ m < 0 by omega) with g | g
  · refine ⟨m, g, by omega, by omega, by omega, by omega, by omega, ?_⟩
    rw [← e1, ← e2, ← e3]
    exact ⟨Q, by grind⟩
  · have n1 : -m * u.a = -R := by rw [e1]; grind
    have n2 : -m * u.b = G := by rw [Int.neg_mul, ← e2]; omega
    have n3 : -m * u.c = -S := by rw [e3]; grind
    refine ⟨-m, by omega, by omega, by omega, by omega, by omega, by omega, ?_⟩
    rw [n1, n2, n3]
    exact ⟨-Q, by grind⟩
theorem fm_sz {F M : Int} {t : Tr} (hc : Can t) (h : Fm d F M t) : -F ≤ t.b ∧ t.b ≤ F ∧ t.c ≤ M ∧ -M ≤ t.a ∧ t.a ≤ M := by
  obtain ⟨k, hk, b1, b2, c1, a1, a2, _⟩ := h
  have up : ∀ x y : Int, -y ≤ k * x → k * x ≤ y → -y ≤ x ∧ x ≤ y := fun x y h1 h2 => by
    have hn : x.natAbs ≤ (k * x).natAbs := by
      rw [Int.natAbs_mul]
      exact Nat.le_mul_of_pos_left _ (by omega)
    omega
  have cp := Int.mul_pos hk hc.1
  have u1 := up t.b F b1 b2
  have u2 := up t.c M (by omega) c1
  have u3 := up t.a M a1 a2
  omega
end
end K5

namespace K5
open Lean.Grind
def wT (w : Int) : Tr := ⟨w, 0, 1⟩
def back (ws : List Int) (p : Int × Int) : Int × Int := ws.foldr (fun w z => (w * z.1 + z.2, z.1)) p
theorem back_snoc (ws : List Int) (w : Int) (p : Int × Int) : back (ws ++ [w]) p = back ws (w * p.1 + p.2, p.1) := by
  unfold back
  rw [List.foldr_append]
  rfl
section
variable {d : Int} [Irr d] {r : Int}
theorem val_w (w : Int) : val d (wT w) = w := by
  unfold val wT
  rw [cast0, cast1]
  grind
theorem can_w (w : Int) : Can (wT w) := by
  refine ⟨by show (0 : Int) < 1; decide, ?_⟩
  show Int.gcd (Int.gcd w 0) 1 = 1
  rw [Int.gcd_one_right]
theorem rd_w (h : r = d ∨ r = 0) (w : Int) : RD r d (wT w) := by
  rcases h with h | h
  · exact .inl h
  · exact .inr ⟨h, rfl⟩
theorem RD.root {t : Tr} (h : RD r d t) : r = d ∨ r = 0 := by
  rcases h with h | h
  · exact .inl h
  · exact .inr h.1
/-- a fraction -/
def fr (d p q : Int) : QS d := (p : QS d) / (q : QS d)
theorem fr_mul {p q : Int} (h : 0 < q) : fr d p q * q = p := by
  have := cast_ne (d := d) (show q ≠ 0 by omega)
  unfold fr
  grind
/-- w and a part: w + 1 by p / q -/
theorem fr_step {w p q : Int} (hp : 0 < p) (hq : 0 < q) : fr d (w * p + q) p = w + 1 / fr d p q := by
  have h1 := cast_ne (d := d) (show q ≠ 0 by omega)
  have h2 := cast_ne (d := d) (show p ≠ 0 by omega)
  unfold fr
  rw [Ring.intCast_add, Ring.intCast_mul]
  grind
theorem fr_one (w : Int) : fr d w 1 = w := by
  unfold fr
  rw [cast1]
  grind
theorem inv_mul {v : QS d} (h : 0 < v) : (1 / v) * v = 1 := by grind
/-- what a turn of simplest keeps -/
structure St (r d : Int) [Irr d] (x y : Tr) (ws : List Int) (t : Tr) (h : Option Tr) (n : Nat) : Prop where
  can : Can t
  rd : RD r d t
  fm : Fm d 120 (240 + 960 * ws.length) t
  up : ∀ u, h = some u → Can u ∧ RD r d u ∧ Fm d 120 (240 + 960 * ws.length) u ∧ val d t < val d u
  one : ws ≠ [] → 1 ≤ val d t
  len : ws.length + n ≤ 21
  gap : ∀ u, h = some u → (ws = [] ∧ n = 21 ∧ (1 : QS d) ≤ ((2 ^ 19 : Int) : QS d) * (val d u - val d t)) ∨
    (ws ≠ [] ∧ ∃ m, n = m + 1 ∧ (1 : QS d) ≤ ((2 ^ m : Int) : QS d) * (val d u - val d t) ∧ val d t * val d u ≤ ((2 ^ (m + 1) : Int) : QS d) * (val d u - val d t))
  small : ∀ w ∈ ws, -(2 ^ 19) ≤ w ∧ w ≤ 2 ^ 19
  close : ∀ p q, 0 < q → (ws ≠ [] → 0 < p) → val d t < fr d p q → (∀ u, h = some u → fr d p q < val d u) → 0 < (back ws (p, q)).2 ∧ val d x < fr d (back ws (p, q)).1 (back ws (p, q)).2 ∧ fr d (back ws (p, q)).1 (back ws (p, q)).2 < val d y
theorem two_pow (m : Nat) : ((2 ^ (m + 1) : Int) : QS d) = 2 * ((2 ^ m : Int) : QS d) := by
  rw [Int.pow_succ, Ring.intCast_mul, show ((2 : Int) : QS d) = 2 from rfl]
  grind
theorem two_pos (m : Nat) : (0 : QS d) < ((2 ^ m : Int) : QS d) := cast_pos (Int.pow_pos (by decide))
theorem val_bound {t : Tr} {B : Int} (hc : 0 < t.c) (ha : -B ≤ t.a) (ha' : t.a ≤ B) (hb : -120 ≤ t.b) (hb' : t.b ≤ 120) : -((B + 480 : Int) : QS d) ≤ val d t ∧ val d t ≤ ((B + 480 : Int) : QS d) := by
  have vm := val_mul (d := d) (t := t) (by omega)
  obtain ⟨g1, g2⟩ := gr_le (d := d) hb hb'
  have a1 := cast_le (d := d) |>.mpr ha
  have a2 := cast_le (d := d) |>.mpr ha'
  have c1 := cast_le (d := d) |>.mpr (show 1 ≤ t.c by omega)
  rw [Ring.intCast_neg] at a1
  rw [cast1] at c1
  have e : ((B + 480 : Int) : QS d) = B + 4 * ((120 : Int) : QS d) := by
    rw [Ring.intCast_add]
    rw [show ((480 : Int) : QS d) = ((4 * 120 : Int) : QS d) from rfl, Ring.intCast_mul]; rfl
  have n0 : (0 : QS d) ≤ ((B + 480 : Int) : QS d) := by
    have := cast_le (d := d) |>.mpr (show 0 ≤ B + 480 by omega)
    rwa [cast0] at this
  have m1 := qmul_le c1 n0
  have cp : (0 : QS d) < t.c := by grind
  constructor
  · exact qle_of_mul (z := (t.c : QS d)) (by grind) cp
  · exact qle_of_mul (z := (t.c : QS d)) (by grind) cp
theorem fl_bound {t : Tr} {w B : Int} (h : IsFl d t w) (hc : 0 < t.c) (ha : -B ≤ t.a) (ha' : t.a ≤ B) (hb : -120 ≤ t.b) (hb' : t.b ≤ 120) : -(B + 481) ≤ w ∧ w ≤ B + 480 := by
  obtain ⟨v1, v2⟩ := val_bound (d := d) hc ha ha' hb hb'
  obtain ⟨h1, h2⟩ := h
  have k1 : (w : QS d) ≤ ((B + 480 : Int) : QS d) := by grind
  have k2 : ((-(B + 480) : Int) : QS d) < ((w + 1 : Int) : QS d) := by
    rw [Ring.intCast_neg, Ring.intCast_add w, cast1]
    grind
  have l1 := cast_le.mp k1
  have l2 := cast_lt.mp k2
  omega
/-- a turn: what is known of the whole part -/
theorem St.floor {x y : Tr} {ws : List Int} {t : Tr} {h : Option Tr} {n w : Nat} (S : St r d x y ws t h n) : ws.length ≤ 21 := by
  have := S.len
  omega
theorem St.wsm {x y : Tr} {ws : List Int} {t : Tr} {h : Option Tr} {n : Nat} {w : Int} (S : St r d x y ws t h n) (hw : IsFl d t w) : -(2 ^ 19) ≤ w ∧ w ≤ 2 ^ 19 := by
  have hl := S.len
  obtain ⟨b1, b2, b3, b4, b5⟩ := fm_sz S.can S.fm
  have := fl_bound hw S.can.1 b4 b5 (by omega) b2
  omega
theorem St.w1 {x y : Tr} {ws : List Int} {t : Tr} {h : Option Tr} {n : Nat} {w : Int} (S : St r d x y ws t h n) (hw : IsFl d t w) (hn : ws ≠ []) : 1 ≤ w := by
  have h1 := S.one hn
  obtain ⟨h2, h3⟩ := hw
  have k : ((0 : Int) : QS d) < (w : QS d) := by rw [cast0]; grind
  have := cast_lt.mp k
  omega
/-- the loop's end -/
theorem St.done {x y : Tr} {ws : List Int} {t : Tr} {h : Option Tr} {n : Nat} {w : Int} (S : St r d x y ws t h n) (hw : IsFl d t w) (hu : ∀ u, h = some u → (w : QS d) + 1 < val d u) :
    0 < (back ws (w + 1, 1)).2 ∧ val d x < fr d (back ws (w + 1, 1)).1 (back ws (w + 1, 1)).2 ∧ fr d (back ws (w + 1, 1)).1 (back ws (w + 1, 1)).2 < val d y := by
  refine S.close (w + 1) 1 (by decide) (fun hn => ?_) ?_ fun u e => ?_
  · have := S.w1 hw hn
    omega
  · rw [fr_one, Ring.intCast_add, cast1]
    exact hw.2
  · rw [fr_one, Ring.intCast_add, cast1]
    exact hu u e
/-- from the old bounds to the new ones -/
theorem close_step {x y : Tr} {ws : List Int} {t u t' : Tr} {n : Nat} {w : Int} {h' : Option Tr} (S : St r d x y ws t (some u) n) (hw : IsFl d t w) (h0 : 0 < val d u - w) (hv : val d t' * (val d u - w) = 1)
    (hh : val d t - w = 0 ∨ ∃ u', h' = some u' ∧ 0 < val d t - w ∧ val d u' * (val d t - w) = 1) (t1 : 1 ≤ val d t') :
    ∀ p q, 0 < q → (ws ++ [w] ≠ [] → 0 < p) → val d t' < fr d p q → (∀ u', h' = some u' → fr d p q < val d u') → 0 < (back (ws ++ [w]) (p, q)).2 ∧ val d x < fr d (back (ws ++ [w]) (p, q)).1 (back (ws ++ [w]) (p, q)).2 ∧ fr d (back (ws ++ [w]) (p, q)).1 (back (ws ++ [w]) (p, q)).2 < val d y := by
  intro p q hq hp l1 l2
  have hp' : 0 < p := hp (by simp)
  rw [back_snoc]
  have fp : 0 < fr d p q := by grind
  have fi := inv_mul fp
  have ip : 0 < 1 / fr d p q := by
    rcases (show 0 < 1 / fr d p q ∨ 1 / fr d p q ≤ 0 by grind) with g | g
    · exact g
    · have := qmul_le g (show (0 : QS d) ≤ fr d p q by grind)
      grind
  have m1 := qmul_lt l1 h0
  have m2 : 1 / fr d p q < val d u - w := by
    have e : fr d p q * (1 / fr d p q) < fr d p q * (val d u - w) := by grind
    exact qlt_of_mul (z := fr d p q) (by grind) fp
  have lo : val d t < fr d (w * p + q) p := by
    rw [fr_step hp' hq]
    rcases hh with hz | ⟨u', e, k0, k1⟩
    · grind
    · have l3 := l2 u' e
      have m3 := qmul_lt l3 k0
      have m4 : val d t - w < 1 / fr d p q := qlt_of_mul (z := fr d p q) (by grind) fp
      grind
  refine S.close (w * p + q) p hp' (fun hn => ?_) lo fun v e => ?_
  · have w1 := S.w1 hw hn
    have := Int.mul_pos (show 0 < w by omega) hp'
    omega
  · cases e
    rw [fr_step hp' hq]
    grind
theorem inv_ge1 {v i : QS d} (h0 : 0 < v) (h1 : v ≤ 1) (hi : i * v = 1) : 1 ≤ i := by
  rcases (show 1 ≤ i ∨ i < 1 by grind) with g | g
  · exact g
  · have := qmul_lt g h0
    grind
/-- a turn that ends in no upper bound -/
theorem St.none {x y : Tr} {ws : List Int} {t u t' : Tr} {n : Nat} {w : Int} (S : St r d x y ws t (some u) n) (hw : IsFl d t w) (hu : val d u ≤ (w : QS d) + 1) (hz : val d t - w = 0)
    (hc : Can t') (hr : RD r d t') (hv : val d t' * (val d u - w) = 1) : St r d x y (ws ++ [w]) t' Option.none 0 ∧ 0 < n := by
  obtain ⟨cu, ru, fu, lu⟩ := S.up u rfl
  have h0 : 0 < val d u - w := by grind
  have h1 : val d u - w ≤ 1 := by grind
  have t1 := inv_ge1 h0 h1 hv
  have hn : 0 < n := by
    rcases S.gap u rfl with ⟨_, e, _⟩ | ⟨_, m, e, _⟩ <;> omega
  have hl := S.len
  refine ⟨⟨hc, hr, ?_, (fun _ e => by cases e), (fun _ => t1), ?_, (fun _ e => by cases e), ?_, ?_⟩, hn⟩
  · have := fm_step cu hc fu h0 h1 hv
    rw [show (240 + 960 * ((ws ++ [w]).length : Int)) = 240 + 960 * (ws.length : Int) + 8 * 120 by rw [List.length_append]; simp; omega]
    exact this
  · rw [List.length_append, List.length_singleton]; omega
  · intro v hv'
    rcases List.mem_append.mp hv' with g | g
    · exact S.small v g
    · rw [List.mem_singleton.mp g]
      exact S.wsm hw
  · exact close_step S hw h0 hv (.inl hz) t1
/-- a turn that goes on -/
theorem St.more {x y : Tr} {ws : List Int} {t u t' u' : Tr} {n : Nat} {w : Int} (S : St r d x y ws t (some u) n) (hw : IsFl d t w) (hu : val d u ≤ (w : QS d) + 1) (hz : val d t - w ≠ 0)
    (hc : Can t') (hr : RD r d t') (hv : val d t' * (val d u - w) = 1) (hc' : Can u') (hr' : RD r d u') (hv' : val d u' * (val d t - w) = 1) : ∃ n', n' < n ∧ St r d x y (ws ++ [w]) t' (some u') n' := by
  obtain ⟨cu, ru, fu, lu⟩ := S.up u rfl
  obtain ⟨f1, f2⟩ := id hw
  have h0 : 0 < val d u - w := by grind
  have h1 : val d u - w ≤ 1 := by grind
  have k0 : 0 < val d t - w := by grind
  have k1 : val d t - w ≤ 1 := by grind
  have t1 := inv_ge1 h0 h1 hv
  have u1 := inv_ge1 k0 k1 hv'
  have hl := S.len
  have hlt : val d t' < val d u' := by
    have q := qmul_lt (show val d t - w < val d u - w by grind) (show 0 < val d t' by grind)
    have q2 : (val d t - w) * val d t' < (val d t - w) * val d u' := by grind
    exact qlt_of_mul (z := val d t - w) (by grind) k0
  -- the gap behind the turn: the gap ahead times both
  have eg : val d u' - val d t' = (val d u - val d t) * (val d t' * val d u') := by
    have e1 : (val d u - val d t) * (val d t' * val d u') = val d t' * (val d u - w) * val d u' - val d u' * (val d t - w) * val d t' := by grind
    rw [e1, hv, hv']
    grind
  have tu : 1 ≤ val d t' * val d u' := by
    have := qmul_le t1 (show (0 : QS d) ≤ val d u' by grind)
    grind
  have next : ∃ m, m + 1 < n ∧ (1 : QS d) ≤ ((2 ^ m : Int) : QS d) * (val d u' - val d t') ∧ val d t' * val d u' ≤ ((2 ^ (m + 1) : Int) : QS d) * (val d u' - val d t') := by
    rcases S.gap u rfl with ⟨ee, en, g1⟩ | ⟨ne, m, en, g1, g2⟩
    · refine ⟨19, by omega, ?_, ?_⟩
      · have q := qmul_le g1 (show (0 : QS d) ≤ val d t' * val d u' by grind)
        rw [eg]; grind
      · have q := qmul_le g1 (show (0 : QS d) ≤ val d t' * val d u' by grind)
        have q0 := qmul_nn (show (0 : QS d) ≤ ((2 ^ 19 : Int) : QS d) by have := two_pos (d := d) 19; grind) (show (0 : QS d) ≤ val d u' - val d t' by grind)
        rw [two_pow 19]
        rw [eg] at q0 ⊢; grind
    · cases m with
      | zero =>
        exfalso
        rw [show ((2 ^ 0 : Int) : QS d) = 1 from rfl] at g1
        grind
      | succ m =>
        refine ⟨m, by omega, ?_, ?_⟩
        · -- four times
          have w1 := S.w1 hw ne
          have qw := cast_le (d := d) |>.mpr w1
          rw [cast1] at qw
          have a1 : 2 ≤ val d t * val d u' := by
            have q := qmul_le qw (show (0 : QS d) ≤ val d u' by grind)
            grind
          have a2 : 2 ≤ val d u * val d t' := by
            have q := qmul_le qw (show (0 : QS d) ≤ val d t' by grind)
            grind
          have a3 : 4 ≤ (val d t * val d u) * (val d t' * val d u') := by
            have q := qmul_le a1 (show (0 : QS d) ≤ val d u * val d t' by grind)
            grind
          have q := qmul_le g2 (show (0 : QS d) ≤ val d t' * val d u' by grind)
          rw [two_pow (m + 1), two_pow m] at q
          rw [eg]
          grind
        · have q := qmul_le g1 (show (0 : QS d) ≤ val d t' * val d u' by grind)
          rw [eg]; grind
  obtain ⟨m, hm, g1, g2⟩ := next
  refine ⟨m + 1, hm, hc, hr, ?_, ?_, (fun _ => t1), ?_, ?_, ?_, ?_⟩
  · have := fm_step cu hc fu h0 h1 hv
    rw [show (240 + 960 * ((ws ++ [w]).length : Int)) = 240 + 960 * (ws.length : Int) + 8 * 120 by rw [List.length_append]; simp; omega]
    exact this
  · intro v e
    cases e
    refine ⟨hc', hr', ?_, hlt⟩
    have := fm_step S.can hc' S.fm k0 k1 hv'
    rw [show (240 + 960 * ((ws ++ [w]).length : Int)) = 240 + 960 * (ws.length : Int) + 8 * 120 by rw [List.length_append]; simp; omega]
    exact this
  · rw [List.length_append, List.length_singleton]; omega
  · intro v e
    cases e
    exact .inr ⟨by simp, m, rfl, g1, g2⟩
  · intro v hv'
    rcases List.mem_append.mp hv' with g | g
    · exact S.small v g
    · rw [List.mem_singleton.mp g]
      exact S.wsm hw
  · exact close_step S hw h0 hv (.inr ⟨u', rfl, k0, hv'⟩) t1
/-- how near two unlike ones may be -/
theorem near {A B : Int} (h : (0 : QS d) < (A : QS d) + B * rt d) {M : Int} (a1 : -M ≤ A) (a2 : A ≤ M) (b1 : -M ≤ B) (b2 : B ≤ M) : (1 : QS d) ≤ ((A : QS d) + B * rt d) * (5 * (M : QS d)) := by
  obtain ⟨g1, g2⟩ := gr_le (d := d) b1 b2
  have q1 := cast_le (d := d) |>.mpr a1
  have q2 := cast_le (d := d) |>.mpr a2
  rw [Ring.intCast_neg] at q1
  have eN : ((A : QS d) + B * rt d) * (A - B * rt d) = ((A * A - d * (B * B) : Int) : QS d) := by
    simp only [Ring.intCast_mul, Ring.intCast_sub]
    rw [← rt_sq]
    grind
  have n0 : A * A - d * (B * B) ≠ 0 := by
    intro z
    obtain ⟨za, zb⟩ := norm_int (d := d) z
    rw [za, zb, cast0] at h
    grind
  rcases (show 1 ≤ A * A - d * (B * B) ∨ 1 ≤ -(A * A - d * (B * B)) by omega) with g | g
  · have k := cast_le (d := d) |>.mpr g
    rw [← eN, cast1] at k
    have m := qmul_le (show (A : QS d) - B * rt d ≤ 5 * M by grind) (show (0 : QS d) ≤ (A : QS d) + B * rt d by grind)
    grind
  · have k := cast_le (d := d) |>.mpr g
    rw [Ring.intCast_neg, ← eN, cast1] at k
    have m := qmul_le (show -((A : QS d) - B * rt d) ≤ 5 * M by grind) (show (0 : QS d) ≤ (A : QS d) + B * rt d by grind)
    grind
/-- what the law hands in -/
structure Small (t : Tr) : Prop where
  can : Can t
  a1 : -20 ≤ t.a
  a2 : t.a ≤ 20
  b1 : -10 ≤ t.b
  b2 : t.b ≤ 10
  c2 : t.c ≤ 12
theorem Small.fm {t : Tr} (h : Small t) : Fm d 120 240 t := fm_start h.a1 h.a2 h.b1 h.b2 h.can.1 h.c2
theorem pm {x y X Y : Int} (h1 : -X ≤ x) (h2 : x ≤ X) (h3 : 0 ≤ y) (h4 : y ≤ Y) : -(X * Y) ≤ x * y ∧ x * y ≤ X * Y := by
  have m1 := Int.mul_le_mul_of_nonneg_right h2 h3
  have m2 := Int.mul_le_mul_of_nonneg_right h1 h3
  have m3 := Int.mul_le_mul_of_nonneg_left h4 (show 0 ≤ X by omega)
  have e : -X * y = -(X * y) := Int.neg_mul _ _
  omega
theorem St.start {x y : Tr} (hx : Small x) (hy : Small y) (rx : RD r d x) (ry : RD r d y) (hlt : val d x < val d y) : St r d x y [] x (some y) 21 := by
  have cx := hx.can.1
  have cy := hy.can.1
  refine ⟨hx.can, rx, ?_, ?_, (fun h => absurd rfl h), by simp, ?_, (fun _ h => by simp at h), fun p q hq _ l1 l2 => ⟨hq, l1, l2 y rfl⟩⟩
  · simpa using hx.fm
  · intro u e
    cases e
    exact ⟨hy.can, ry, by simpa using hy.fm, hlt⟩
  · intro u e
    cases e
    refine .inl ⟨rfl, rfl, ?_⟩
    have vx := val_mul (d := d) hx.can.ne
    have vy := val_mul (d := d) hy.can.ne
    have px := cast_pos (d := d) cx
    have py := cast_pos (d := d) cy
    have p1 := pm hy.a1 hy.a2 (show 0 ≤ x.c by omega) hx.c2
    have p2 := pm hx.a1 hx.a2 (show 0 ≤ y.c by omega) hy.c2
    have p3 := pm hy.b1 hy.b2 (show 0 ≤ x.c by omega) hx.c2
    have p4 := pm hx.b1 hx.b2 (show 0 ≤ y.c by omega) hy.c2
    have p5 := pm (show -12 ≤ x.c by omega) hx.c2 (show 0 ≤ y.c by omega) hy.c2
    have e : (val d y - val d x) * ((x.c : QS d) * y.c) = ((y.a * x.c - x.a * y.c : Int) : QS d) + ((y.b * x.c - x.b * y.c : Int) : QS d) * rt d := by
      simp only [Ring.intCast_mul, Ring.intCast_sub]
      grind
    have gp : 0 < (val d y - val d x) * ((x.c : QS d) * y.c) := qmul_pos (by grind) (qmul_pos px py)
    rw [e] at gp
    have nr := near gp (M := 480) (by omega) (by omega) (by omega) (by omega)
    rw [← e] at nr
    have c3 := cast_le (d := d) |>.mpr (show x.c * y.c ≤ 144 by omega)
    rw [Ring.intCast_mul, show ((144 : Int) : QS d) = 144 from rfl] at c3
    have m := qmul_le c3 (show (0 : QS d) ≤ val d y - val d x by grind)
    rw [show ((480 : Int) : QS d) = 480 from rfl] at nr
    rw [show ((2 ^ 19 : Int) : QS d) = 524288 from rfl]
    grind
end
end K5

namespace K5
open Lean.Grind
section
variable {d : Int} [Irr d] {r : Int} {x y z : Tr}
theorem less_iff (hx : Can x) (hy : Can y) (rx : RD r d x) (ry : RD r d y) : less r x y = true ↔ val d x < val d y := less_eq hx.ne hy.ne rx ry
theorem less_same {a b u v : Tr} (ha : Can a) (hb : Can b) (hu : Can u) (hv : Can v) (ra : RD r d a) (rb : RD r d b) (ru : RD r d u) (rv : RD r d v) (h : val d a < val d b ↔ val d u < val d v) : less r a b = less r u v := by
  have h1 := less_iff ha hb ra rb
  have h2 := less_iff hu hv ru rv
  rw [Bool.eq_iff_iff, h1, h2, h]
theorem law_o1 (hx : Can x) (hy : Can y) (rx : RD r d x) (ry : RD r d y) (h : x ≠ y) : less r x y ≠ less r y x := by
  intro e
  have n : val d x ≠ val d y := fun z => h (val_inj hx hy z)
  rw [Bool.eq_iff_iff, less_iff hx hy rx ry, less_iff hy hx ry rx] at e
  grind
theorem law_o2 (hx : Can x) (rx : RD r d x) : less r x x = false := by
  rcases e : less r x x with _ | _
  · rfl
  · rw [less_iff hx hx rx rx] at e
    grind
theorem law_o3 (hx : Can x) (hy : Can y) (hz : Can z) (rx : RD r d x) (ry : RD r d y) (rz : RD r d z) (h : less r x y = true) (h' : less r y z = true) : less r x z = true := by
  rw [less_iff hx hy rx ry] at h
  rw [less_iff hy hz ry rz] at h'
  rw [less_iff hx hz rx rz]
  grind
theorem law_o4 (hx : Can x) (hy : Can y) (hz : Can z) (rx : RD r d x) (ry : RD r d y) (rz : RD r d z) : less r (plus x z) (plus y z) = less r x y := by
  refine less_same (can_plus hx.ne hz.ne) (can_plus hy.ne hz.ne) hx hy (rd_plus hx.ne hz.ne rx rz) (rd_plus hy.ne hz.ne ry rz) rx ry ?_
  rw [val_plus hx.ne hz.ne, val_plus hy.ne hz.ne]
  constructor <;> intro k <;> grind
theorem law_o5 (hx : Can x) (hy : Can y) (hz : Can z) (rx : RD r d x) (ry : RD r d y) (rz : RD r d z) (h : less r (wT 0) z = true) : less r (times r x z) (times r y z) = less r x y := by
  rw [less_iff (can_w 0) hz (rd_w rz.root 0) rz, val_w, cast0] at h
  refine less_same (can_times hx.ne hz.ne) (can_times hy.ne hz.ne) hx hy (rd_times hx.ne hz.ne rx rz) (rd_times hy.ne hz.ne ry rz) rx ry ?_
  rw [val_times hx.ne hz.ne rx rz, val_times hy.ne hz.ne ry rz]
  exact ⟨fun k => qlt_of_mul k h, fun k => qmul_lt k h⟩
theorem law_o6 (hx : Can x) (hy : Can y) (hz : Can z) (rx : RD r d x) (ry : RD r d y) (rz : RD r d z) (h : less r (wT 0) z = false) (h0 : z ≠ wT 0) : less r (times r x z) (times r y z) = less r y x := by
  have n : ¬ (0 < val d z) := by
    intro k
    have : less r (wT 0) z = true := by
      rw [less_iff (can_w 0) hz (rd_w rz.root 0) rz, val_w, cast0]
      exact k
    rw [h] at this
    cases this
  have n0 : val d z ≠ 0 := fun e => h0 (val_inj (d := d) hz (can_w 0) (by rw [e, val_w, cast0]))
  have neg : 0 < -val d z := by grind
  refine less_same (can_times hx.ne hz.ne) (can_times hy.ne hz.ne) hy hx (rd_times hx.ne hz.ne rx rz) (rd_times hy.ne hz.ne ry rz) ry rx ?_
  rw [val_times hx.ne hz.ne rx rz, val_times hy.ne hz.ne ry rz]
  constructor
  · intro k
    exact qlt_of_mul (z := -val d z) (by grind) neg
  · intro k
    have := qmul_lt k neg
    grind
theorem law_r1 (d : Int) [Irr d] (hx : Can x) (hy : Can y) (hz : Can z) : plus (plus x y) z = plus x (plus y z) := by
  have a := can_plus hx.ne hy.ne
  have b := can_plus hy.ne hz.ne
  refine val_inj (d := d) (can_plus a.ne hz.ne) (can_plus hx.ne b.ne) ?_
  rw [val_plus a.ne hz.ne, val_plus hx.ne hy.ne, val_plus hx.ne b.ne, val_plus hy.ne hz.ne]
  grind
theorem law_r2 (hx : Can x) (hy : Can y) (hz : Can z) (rx : RD r d x) (ry : RD r d y) (rz : RD r d z) : times r (times r x y) z = times r x (times r y z) := by
  have a := can_times (r := r) hx.ne hy.ne
  have b := can_times (r := r) hy.ne hz.ne
  have ra := rd_times hx.ne hy.ne rx ry
  have rb := rd_times hy.ne hz.ne ry rz
  refine val_inj (d := d) (can_times a.ne hz.ne) (can_times hx.ne b.ne) ?_
  rw [val_times a.ne hz.ne ra rz, val_times hx.ne hy.ne rx ry, val_times hx.ne b.ne rx rb, val_times hy.ne hz.ne ry rz]
  grind
theorem law_r3 (hx : Can x) (hy : Can y) (hz : Can z) (rx : RD r d x) (ry : RD r d y) (rz : RD r d z) : times r (plus x y) z = plus (times r x z) (times r y z) := by
  have a := can_plus hx.ne hy.ne
  have ra := rd_plus hx.ne hy.ne rx ry
  have b := can_times (r := r) hx.ne hz.ne
  have c := can_times (r := r) hy.ne hz.ne
  refine val_inj (d := d) (can_times a.ne hz.ne) (can_plus b.ne c.ne) ?_
  rw [val_times a.ne hz.ne ra rz, val_plus hx.ne hy.ne, val_plus b.ne c.ne, val_times hx.ne hz.ne rx rz, val_times hy.ne hz.ne ry rz]
  grind
theorem law_r4 (d : Int) [Irr d] (hx : Can x) (hy : Can y) : plus (minus x y) y = x := by
  have a := can_minus hx.ne hy.ne
  refine val_inj (d := d) (can_plus a.ne hy.ne) hx ?_
  rw [val_plus a.ne hy.ne, val_minus hx.ne hy.ne]
  grind
theorem ne_below (hz : Can z) (rz : RD r d z) (h : z ≠ wT 0) : below r z ≠ 0 := by
  refine below_ne (d := d) rz fun e => h (val_inj (d := d) hz (can_w 0) ?_)
  rw [val_w]
  have p := cast_ne (d := d) hz.ne
  unfold val
  rw [e.1, e.2, cast0]
  grind
theorem val_ne (hz : Can z) (h : z ≠ wT 0) : val d z ≠ 0 := fun e => h (val_inj (d := d) hz (can_w 0) (by rw [e, val_w, cast0]))
theorem law_r5 (hx : Can x) (hz : Can z) (rx : RD r d x) (rz : RD r d z) (h : z ≠ wT 0) : times r (over r x z) z = x := by
  have hb := ne_below hz rz h
  have a := can_over (r := r) (y := z) hx.ne hb
  have ra := rd_over hx.ne rx rz hb
  refine val_inj (d := d) (can_times a.ne hz.ne) hx ?_
  rw [val_times a.ne hz.ne ra rz, val_over hx.ne hz.ne rx rz hb]
  have := val_ne (d := d) hz h
  grind
/-- x + 1 -/
theorem fl_next {w v : Int} (hx : Can x) (h : IsFl d x w) (h' : IsFl d (plus x (wT 1)) v) : v = w + 1 := by
  refine fl_unique h h' ?_
  rw [val_plus hx.ne (can_w 1).ne, val_w, cast1]
/-- 1 over what is not 0 -/
theorem val_inv {t : Tr} (ht : Can t) (rd : RD r d t) (h : t ≠ wT 0) : val d (over r (wT 1) t) * val d t = 1 := by
  have hb := ne_below ht rd h
  rw [val_over (can_w 1).ne ht.ne (rd_w rd.root 1) rd hb, val_w, cast1]
  have := val_ne (d := d) ht h
  grind
theorem back_bound {ws : List Int} {p q : Int} (h : ∀ w ∈ ws, -(2 ^ 19) ≤ w ∧ w ≤ 2 ^ 19) (hp : p.natAbs < 2 ^ 20) (hq : q.natAbs < 2 ^ 20) : (back ws (p, q)).1.natAbs < 2 ^ (20 * (ws.length + 1)) ∧ (back ws (p, q)).2.natAbs < 2 ^ (20 * (ws.length + 1)) := by
  induction ws with
  | nil => exact ⟨hp, hq⟩
  | cons w ws ih =>
    obtain ⟨i1, i2⟩ := ih fun v hv => h v (List.mem_cons_of_mem _ hv)
    have hw := h w List.mem_cons_self
    have e : back (w :: ws) (p, q) = (w * (back ws (p, q)).1 + (back ws (p, q)).2, (back ws (p, q)).1) := rfl
    rw [e, List.length_cons]
    generalize back ws (p, q) = z at *
    have e2 : 20 * (ws.length + 1 + 1) = 20 * (ws.length + 1) + 20 := by omega
    rw [e2, Nat.pow_add]
    generalize 2 ^ (20 * (ws.length + 1)) = N at *
    have m : (w * z.1).natAbs ≤ 2 ^ 19 * z.1.natAbs := by
      rw [Int.natAbs_mul]
      exact Nat.mul_le_mul_right _ (by omega)
    constructor
    · show (w * z.1 + z.2).natAbs < N * 2 ^ 20
      omega
    · show z.1.natAbs < N * 2 ^ 20
      omega
end
/-! ### the roots -/
theorem mod_zero {p e n : Nat} (hp : 0 < p) (h : ∀ k, k < p → e * (k * k) % p = 0 → k = 0) (hd : p ∣ e * (n * n)) : p ∣ n := by
  have h1 : e * (n % p * (n % p)) % p = 0 := by
    rw [Nat.mul_mod, ← Nat.mul_mod n n, ← Nat.mul_mod]
    exact Nat.mod_eq_zero_of_dvd hd
  exact Nat.dvd_of_mod_eq_zero (h _ (Nat.mod_lt _ hp) h1)
theorem descent {p e : Nat} (hp1 : 1 < p) (h1 : ∀ k, k < p → 1 * (k * k) % p = 0 → k = 0) (h2 : ∀ k, k < p → e * (k * k) % p = 0 → k = 0) : ∀ (b n m : Nat), m ≤ b → n * n = p * e * (m * m) → m = 0
  | 0, _, m, hm, _ => by omega
  | b + 1, n, m, hm, he => by
    have hp : 0 < p := by omega
    have d1 : p ∣ 1 * (n * n) := ⟨e * (m * m), by rw [Nat.one_mul, he, Nat.mul_assoc]⟩
    obtain ⟨n', rfl⟩ := mod_zero hp h1 d1
    have e1 : p * (n' * n') = e * (m * m) := by
      have : p * (p * (n' * n')) = p * (e * (m * m)) := by
        calc p * (p * (n' * n')) = p * n' * (p * n') := by grind
          _ = p * e * (m * m) := he
          _ = p * (e * (m * m)) := by grind
      exact Nat.eq_of_mul_eq_mul_left hp this
    have d2 : p ∣ e * (m * m) := ⟨n' * n', e1.symm⟩
    obtain ⟨m', rfl⟩ := mod_zero hp h2 d2
    have e2 : n' * n' = p * e * (m' * m') := by
      have : p * (n' * n') = p * (p * e * (m' * m')) := by rw [e1]; grind
      exact Nat.eq_of_mul_eq_mul_left hp this
    by_cases hz : m' = 0
    · rw [hz]; rfl
    · have lt : m' < p * m' := by
        have := Nat.mul_lt_mul_of_pos_right hp1 (show 0 < m' by omega)
        omega
      have := descent hp1 h1 h2 b n' m' (by omega) e2
      exact absurd this hz
theorem rat_num (x : Rat) : x * ((x.den : Int) : Rat) = x.num := by
  have h := Rat.num_divInt_den x
  rw [Rat.divInt_eq_div] at h
  have n : ((x.den : Int) : Rat) ≠ 0 := fun z => x.den_nz (Int.ofNat_eq_zero.mp (Rat.intCast_inj.mp z))
  grind
theorem irr_of {d : Int} (h : ∀ n m : Nat, n * n = d.toNat * (m * m) → m = 0) (hd : 0 < d) (hf : d ≤ 16) : Irr d := by
  refine ⟨hd, hf, fun x y e => ?_⟩
  have ex := rat_num x
  have ey := rat_num y
  have e2 : ((x.num * y.den : Int) : Rat) * ((x.num * y.den : Int) : Rat) = ((d : Int) : Rat) * (((y.num * x.den : Int) : Rat) * ((y.num * x.den : Int) : Rat)) := by
    rw [Rat.intCast_mul, Rat.intCast_mul, ← ex, ← ey]
    grind
  rw [← Rat.intCast_mul, ← Rat.intCast_mul, ← Rat.intCast_mul] at e2
  have e3 := Rat.intCast_inj.mp e2
  have e4 := congrArg Int.natAbs e3
  rw [Int.natAbs_mul, Int.natAbs_mul d, Int.natAbs_mul (y.num * x.den)] at e4
  have z := h (x.num * y.den).natAbs (y.num * x.den).natAbs (by rw [e4, show d.natAbs = d.toNat by omega])
  have z2 : y.num * x.den = 0 := Int.natAbs_eq_zero.mp z
  rcases Int.mul_eq_zero.mp z2 with g | g
  · exact Rat.num_eq_zero.mp g
  · have := x.den_pos
    omega
theorem irr_by (p e : Nat) (hp : 1 < p) (h1 : ∀ k, k < p → 1 * (k * k) % p = 0 → k = 0) (h2 : ∀ k, k < p → e * (k * k) % p = 0 → k = 0) (h : 0 < p * e) (h16 : p * e ≤ 16) : Irr ((p * e : Nat) : Int) :=
  irr_of (fun n m he => descent hp h1 h2 m n m (Nat.le_refl _) he) (by omega) (by omega)
theorem irr2 : Irr 2 := irr_by 2 1 (by decide) (by decide) (by decide) (by decide) (by decide)
theorem irr3 : Irr 3 := irr_by 3 1 (by decide) (by decide) (by decide) (by decide) (by decide)
theorem irr5 : Irr 5 := irr_by 5 1 (by decide) (by decide) (by decide) (by decide) (by decide)
theorem irr6 : Irr 6 := irr_by 2 3 (by decide) (by decide) (by decide) (by decide) (by decide)
theorem irr7 : Irr 7 := irr_by 7 1 (by decide) (by decide) (by decide) (by decide) (by decide)
theorem irr13 : Irr 13 := irr_by 13 1 (by decide) (by decide) (by decide) (by decide) (by decide)
end K5

namespace K5W
open PySem PySem.Spec PyProof.Rows L2 K5
/-! ### the text -/
def topS (i : Nat) : Stmt := PySem.Challenge.pw_cutexchange_k05_whole_order_and_reckonin.main.body.getD i (.Pass ⟨0, 0, 0, 0⟩)
abbrev sDivisor : Stmt := topS 5
abbrev sLowest : Stmt := topS 6
abbrev sPlus : Stmt := topS 7
abbrev sMinus : Stmt := topS 8
abbrev sTimes : Stmt := topS 9
abbrev sOver : Stmt := topS 10
abbrev sSign : Stmt := topS 11
abbrev sLess : Stmt := topS 12
abbrev sRoot : Stmt := topS 13
abbrev sFloor : Stmt := topS 14
abbrev sSimp : Stmt := topS 15
abbrev sCell : Stmt := topS 17
abbrev sBox : Stmt := topS 18
abbrev sTake : Stmt := topS 19
abbrev sLow : Stmt := topS 20
abbrev sLRoot : Stmt := topS 21
abbrev sAny : Stmt := topS 22
abbrev sOrd : Stmt := topS 23
abbrev sReck : Stmt := topS 24
abbrev sLaw : Stmt := topS 25
theorem scDivisor : FnScope ["one", "other"] ["one", "other"] (defScope sDivisor) := ⟨rfl, rfl, rfl, by decide +kernel, rfl, by decide +kernel, by decide +kernel⟩
theorem scLowest : FnScope ["a", "b", "c", "by"] ["a", "b", "c"] (defScope sLowest) := ⟨rfl, rfl, rfl, by decide +kernel, rfl, by decide +kernel, by decide +kernel⟩

theorem ifTt {k : Bool} {A B : Prop} (e : k = true) (h : A) : if k = true then A else B := by rw [if_pos e]; exact h
theorem ifFf {k : Bool} {A B : Prop} (e : k = false) (h : B) : if k = true then A else B := by rw [e, if_neg Bool.false_ne_true]; exact h

/-! ### heaps, tuples -/
theorem same_new {H : Hp} {p : Addr} {o : HO} (h : H p = none) : Same H (upd H p o) := fun b x e => (upd_ne (ne_of_none e h)).trans e
theorem same_tup {K : PySem.W.Frag} {H H' : Hp} {a : Addr} {xs : List V} (e : Same H H') (h : SqT K H a xs) : SqT K H' a xs := by
  rcases h with (h | ⟨o, h⟩) | h
  · exact Or.inl (Or.inl (e _ _ h))
  · exact Or.inl (Or.inr ⟨o, e _ _ h⟩)
  · exact Or.inr h
def TV (t : Tr) : List V := [.int t.a, .int t.b, .int t.c]
/-- at p stands the tuple t -/
def At (K : PySem.W.Frag) (H : Hp) (p : Addr) (t : Tr) : Prop := SqT K H p (TV t)
theorem At.same {K : PySem.W.Frag} {H H' : Hp} {p : Addr} {t : Tr} (h : At K H p t) (e : Same H H') : At K H' p t := same_tup e h
theorem at_new {K : PySem.W.Frag} {H : Hp} {p : Addr} {t : Tr} : At K (upd H p (.tup (TV t))) p t := SqT.of upd_same
/-- all three below 2 ^ n -/
def Sz (n : Nat) (t : Tr) : Prop := t.a.natAbs < 2 ^ n ∧ t.b.natAbs < 2 ^ n ∧ t.c.natAbs < 2 ^ n

/-! ### // by any divisor of less than 9,000 bits -/
def DivC (_ j : Int) : Prop := j ≠ 0 ∧ j.natAbs.log2 < 9000
theorem op_divC {X : Cx} : OpR X (binaryOp .FloorDiv) (rI DivC fun i j => .int (i.fdiv j)) := opI fun _ _ _ _ _ _ _ c w => floordiv_int c.1 w (Or.inl (PyProof.noPylong_of_log2 c.2))
theorem lg {i : Int} {n : Nat} (h : i.natAbs < 2 ^ n) (h0 : 0 < n) : i.natAbs.log2 < n := PySem.Flt.log2_lt_of h0 h
section
variable {P : Program} {w : World} {K : PySem.W.Frag} {mg : Str → Option Value} {base : Heap}
/-! ### divisor -/
def spDivisor : Sp := fun vs H Q _ => ∃ a b : Int, vs = [.int a, .int b] ∧ Q (.int (Int.gcd a b : Nat)) H
theorem gcd_turn (a b : Int) : Int.gcd b (a.fmod b) = Int.gcd a b := by
  have h : a.fmod b = a - b * a.fdiv b := Int.fmod_def a b
  rw [h, Int.gcd_comm a b]
  rw [show a - b * a.fdiv b = a - a.fdiv b * b by rw [Int.mul_comm]]
  exact Int.gcd_sub_mul_right_right b a (a.fdiv b)
theorem fmod_small (a : Int) {b : Int} (h : b ≠ 0) : (a.fmod b).natAbs < b.natAbs := by
  rcases (show 0 < b ∨ b < 0 by omega) with g | g
  · have h1 := Int.fmod_nonneg_of_pos a g
    have h2 := Int.fmod_lt_of_pos a g
    omega
  · have e : a.fmod b = -((-a).fmod (-b)) := by
      rw [Int.neg_fmod_neg]; omega
    have h1 := Int.fmod_nonneg_of_pos (-a) (show 0 < -b by omega)
    have h2 := Int.fmod_lt_of_pos (-a) (show 0 < -b by omega)
    omega
theorem gcd_abs (a : Int) : (if a < 0 then -a else a) = ((Int.gcd a 0 : Nat) : Int) := by
  rw [Int.gcd_zero_right]
  split <;> omega
theorem ok_divisor {f : Addr} {fd : FuncData} {k : Nat} (F : Fun K "divisor" "divisor" sDivisor f fd) (ma : mg "abs" = none) : FnOk P w K mg base CX0 (k + 1) f fd ["one", "other"] spDivisor := by
  refine F.ok scDivisor (fun vs H Q E h => ?_) (fun cdv A outer s H vs Q E hr h => ?_)
  · obtain ⟨a, b, rfl, _⟩ := h
    rfl
  · obtain ⟨a, b, rfl, q⟩ := h
    refine ⟨_, pss_cons (ps_while PassesOwn.never (pt_cmpR op_ne (pv 1) pe_int (nomark _))
        (pss_one (ps_par (i := 0) (j := 1) rfl scDivisor.nd rfl rfl (by decide) rfl rfl (pa_cons (pv 1) (pa_cons (pe_op op_modN (pv 0) (pv 1)) pa_nil)) (by rfl))))
      (pss_one (ps_ret (pe_callB call_abs (by rfl) ma (by decide +kernel) (pa_cons (pv 0) pa_nil)))), ?_⟩
    refine ⟨fun m σ H' => ∃ x y : Int, σ = [some (.int x), some (.int y)] ∧ Int.gcd x y = Int.gcd a b ∧ m = y.natAbs ∧ H' = H, ⟨_, a, b, rfl, rfl, rfl, rfl⟩, fun m σ H' hW => ?_⟩
    obtain ⟨x, y, rfl, hg, rfl, rfl⟩ := hW
    refine ⟨.int y, rfl, rfl, _, rfl, ?_⟩
    by_cases hy : y = 0
    · subst hy
      refine iteF ⟨.int x, rfl, x, rfl, ?_⟩
      rw [gcd_abs, hg]
      exact q
    · have hd : (!decide ((V.int y) = V.int 0)) = true := by
        rw [decide_eq_false (fun e => hy (V.int.inj e))]
        rfl
      refine ifTt hd ⟨fun σ' H2 => ∃ x' y' : Int, σ' = [some (.int x'), some (.int y')] ∧ Int.gcd x' y' = Int.gcd a b ∧ y'.natAbs < y.natAbs ∧ H2 = H', fun σ' H2 hN => ?_, .int y, rfl, .int x, rfl, .int y, rfl, x, y, rfl, rfl, hy, _, _, rfl, ?_⟩
      · obtain ⟨x', y', e, h1, h2, h3⟩ := hN
        exact ⟨_, h2, x', y', e, h1, rfl, h3⟩
      · exact ⟨y, x.fmod y, rfl, (gcd_turn x y).trans hg, fmod_small x hy, rfl⟩
/-! ### lowest -/
def spLowest (K : PySem.W.Frag) : Sp := fun vs H Q _ => ∃ a b c : Int, vs = [.int a, .int b, .int c] ∧ c ≠ 0 ∧ c.natAbs < 2 ^ 8999 ∧ ∀ H' p, Same H H' → At K H' p (low a b c) → Q (.ref p) H'
theorem by_small {a b c : Int} (h : c ≠ 0) (hc : c.natAbs < 2 ^ 8999) : DivC a (byOf a b c) ∧ ∀ x, DivC x (byOf a b c) := by
  have h1 := byOf_ne (a := a) (b := b) h
  have h2 : (byOf a b c).natAbs = gcd3 a b c := by unfold byOf; split <;> omega
  have h3 : gcd3 a b c ≤ c.natAbs := Nat.le_of_dvd (by omega) (Int.ofNat_dvd_left.mp (gcd3_dvd a b c).2.2)
  have h4 : (byOf a b c).natAbs.log2 < 9000 := Nat.lt_of_lt_of_le (lg (n := 8999) (by omega) (by omega)) (by omega)
  exact ⟨⟨h1, h4⟩, fun _ => ⟨h1, h4⟩⟩
theorem ok_lowest {f f1 : Addr} {fd fd1 : FuncData} {k : Nat} (F : Fun K "lowest" "lowest" sLowest f fd) (F1 : Fun K "divisor" "divisor" sDivisor f1 fd1) (b1 : Binds K fd1 ["one", "other"] []) (m1 : mg "divisor" = some (.ref f1)) (ma : mg "abs" = none) :
    FnOk P w K mg base CX0 (k + 2) f fd ["a", "b", "c"] (spLowest K) := by
  have G1 : FnOk P w K mg base CX0 (k + 1) f1 fd1 ["one", "other"] spDivisor := ok_divisor F1 ma
  refine F.ok scLowest (fun vs H Q E h => ?_) (fun cdv A outer s H vs Q E hr h => ?_)
  · obtain ⟨a, b, c, rfl, _⟩ := h
    rfl
  · obtain ⟨a, b, c, rfl, hc, hz, q⟩ := h
    refine ⟨_, pss_cons (ps_set (i := 3) scLowest.nd rfl (.inl rfl) (pe_call G1 hr (by rfl) m1 F1.kp b1 .nil pass0 (pa_cons (pe_call G1 hr (by rfl) m1 F1.kp b1 .nil pass0 (pa_cons (pv 0) (pa_cons (pv 1) pa_nil))) (pa_cons (pv 2) pa_nil))))
      (pss_cons (ps_if (pt_cmpR op_lt (pv 2) pe_int (nomark _)) (pss_one (ps_set (i := 3) scLowest.nd rfl (.inl rfl) (pe_op op_sub pe_int (pv 3)))) pss_nil)
      (pss_one (ps_ret (pe_tup (pa_cons (pe_op op_divC (pv 0) (pv 3)) (pa_cons (pe_op op_divC (pv 1) (pv 3)) (pa_cons (pe_op op_divC (pv 2) (pv 3)) pa_nil))))))), ?_⟩
    have hS := by_small (a := a) (b := b) hc hz
    have last : ∀ z : Int, z = byOf a b c → ∃ v, v = V.int z ∧ ∃ v2, v2 = V.int z ∧ True := fun z e => ⟨_, rfl, _, rfl, trivial⟩
    refine ⟨.int a, rfl, .int b, rfl, a, b, rfl, .int c, rfl, _, c, rfl, ?_⟩
    refine ⟨.int c, rfl, _, _, rfl, rfl, _, rfl, ite2 (fun e => ?_) (fun e => ?_)⟩
    · have e' : c < 0 := of_decide_eq_true e
      have eb : 0 - ((gcd3 a b c : Nat) : Int) = byOf a b c := by unfold byOf; rw [if_pos e']
      refine ⟨.int (gcd3 a b c : Nat), rfl, 0, _, rfl, rfl, ?_⟩
      refine ⟨.int a, rfl, .int (0 - ((gcd3 a b c : Nat) : Int)), rfl, _, _, rfl, rfl, eb ▸ hS.2 a, .int b, rfl, .int (0 - ((gcd3 a b c : Nat) : Int)), rfl, _, _, rfl, rfl, eb ▸ hS.2 b, .int c, rfl, .int (0 - ((gcd3 a b c : Nat) : Int)), rfl, _, _, rfl, rfl, eb ▸ hS.2 c, (by show 3 ≤ sizeLine; decide), fun p np => ?_⟩
      refine q _ p (same_new np) ?_
      rw [eb]
      exact at_new (t := low a b c)
    · have e' : ¬ c < 0 := fun z => e (decide_eq_true z)
      have eb : ((gcd3 a b c : Nat) : Int) = byOf a b c := by unfold byOf; rw [if_neg e']
      refine ⟨.int a, rfl, .int (gcd3 a b c : Nat), rfl, _, _, rfl, rfl, eb ▸ hS.2 a, .int b, rfl, .int (gcd3 a b c : Nat), rfl, _, _, rfl, rfl, eb ▸ hS.2 b, .int c, rfl, .int (gcd3 a b c : Nat), rfl, _, _, rfl, rfl, eb ▸ hS.2 c, (by show 3 ≤ sizeLine; decide), fun p np => ?_⟩
      refine q _ p (same_new np) ?_
      rw [eb]
      exact at_new (t := low a b c)
end
end K5W

namespace K5W
open PySem PySem.Spec PyProof.Rows L2 K5
theorem scPlus : FnScope ["root", "one", "other", "a", "b", "c", "d", "e", "f"] ["root", "one", "other"] (defScope sPlus) := ⟨rfl, rfl, rfl, by decide +kernel, rfl, by decide +kernel, by decide +kernel⟩
theorem scMinus : FnScope ["root", "one", "other", "a", "b", "c"] ["root", "one", "other"] (defScope sMinus) := ⟨rfl, rfl, rfl, by decide +kernel, rfl, by decide +kernel, by decide +kernel⟩
theorem scTimes : FnScope ["root", "one", "other", "a", "b", "c", "d", "e", "f"] ["root", "one", "other"] (defScope sTimes) := ⟨rfl, rfl, rfl, by decide +kernel, rfl, by decide +kernel, by decide +kernel⟩
theorem scOver : FnScope ["root", "one", "other", "d", "e", "f", "below"] ["root", "one", "other"] (defScope sOver) := ⟨rfl, rfl, rfl, by decide +kernel, rfl, by decide +kernel, by decide +kernel⟩
theorem scSign : FnScope ["root", "one", "a", "b", "c"] ["root", "one"] (defScope sSign) := ⟨rfl, rfl, rfl, by decide +kernel, rfl, by decide +kernel, by decide +kernel⟩
theorem scLess : FnScope ["root", "one", "other"] ["root", "one", "other"] (defScope sLess) := ⟨rfl, rfl, rfl, by decide +kernel, rfl, by decide +kernel, by decide +kernel⟩

/-! ### sizes -/
theorem Sz.mono {n m : Nat} {t : Tr} (h : Sz n t) (e : n ≤ m) : Sz m t := by
  have p := Nat.pow_le_pow_right (show 0 < 2 by decide) e
  exact ⟨Nat.lt_of_lt_of_le h.1 p, Nat.lt_of_lt_of_le h.2.1 p, Nat.lt_of_lt_of_le h.2.2 p⟩
theorem nat_mul_lt {x y : Int} {n m : Nat} (h : x.natAbs < 2 ^ n) (h' : y.natAbs < 2 ^ m) : (x * y).natAbs < 2 ^ (n + m) := wide_lt h h'
theorem nat_add_lt {x y : Int} {n : Nat} (h : x.natAbs < 2 ^ n) (h' : y.natAbs < 2 ^ n) : (x + y).natAbs < 2 ^ (n + 1) := by
  rw [Nat.pow_succ]
  omega
theorem nat_up {x : Int} {n m : Nat} (h : x.natAbs < 2 ^ n) (e : n ≤ m) : x.natAbs < 2 ^ m := Nat.lt_of_lt_of_le h (Nat.pow_le_pow_right (by decide) e)
theorem natAbs_le_mul {k x : Int} (h : k ≠ 0) : x.natAbs ≤ (k * x).natAbs := by
  rw [Int.natAbs_mul]
  exact Nat.le_mul_of_pos_left _ (by omega)
theorem sz_low {a b c : Int} {n : Nat} (h : c ≠ 0) (ha : a.natAbs < 2 ^ n) (hb : b.natAbs < 2 ^ n) (hc : c.natAbs < 2 ^ n) : Sz n (low a b c) := by
  have l := low_of (a := a) (b := b) h
  have h1 := natAbs_le_mul (x := (low a b c).a) l.ne
  have h2 := natAbs_le_mul (x := (low a b c).b) l.ne
  have h3 := natAbs_le_mul (x := (low a b c).c) l.ne
  rw [← l.ha] at h1
  rw [← l.hb] at h2
  rw [← l.hc] at h3
  exact ⟨by omega, by omega, by omega⟩
theorem sz_plus {x y : Tr} {n m : Nat} (hx : x.c ≠ 0) (hy : y.c ≠ 0) (sx : Sz n x) (sy : Sz m y) : Sz (n + m + 1) (plus x y) := by
  obtain ⟨s1, s2, s3⟩ := sx
  obtain ⟨t1, t2, t3⟩ := sy
  have e : m + n = n + m := Nat.add_comm m n
  exact sz_low (Int.mul_ne_zero hx hy) (nat_add_lt (nat_mul_lt s1 t3) (e ▸ nat_mul_lt t1 s3)) (nat_add_lt (nat_mul_lt s2 t3) (e ▸ nat_mul_lt t2 s3)) (nat_up (nat_mul_lt s3 t3) (by omega))
theorem sz_neg {y : Tr} {n : Nat} (h : Sz n y) : Sz n (negT y) := by
  obtain ⟨h1, h2, h3⟩ := h
  refine ⟨?_, ?_, h3⟩
  · show (0 - y.a).natAbs < _
    omega
  · show (0 - y.b).natAbs < _
    omega
theorem sz_minus {x y : Tr} {n m : Nat} (hx : x.c ≠ 0) (hy : y.c ≠ 0) (sx : Sz n x) (sy : Sz m y) : Sz (n + m + 1) (minus x y) := sz_plus hx hy sx (sz_neg sy)
/-- what a root is here -/
def RtOk (r : Int) : Prop := 0 ≤ r ∧ r ≤ 99
theorem RtOk.lt {r : Int} (h : RtOk r) : r.natAbs < 2 ^ 7 := by
  obtain ⟨h1, h2⟩ := h
  omega
theorem sz_times {r : Int} {x y : Tr} {n m : Nat} (hr : RtOk r) (hx : x.c ≠ 0) (hy : y.c ≠ 0) (sx : Sz n x) (sy : Sz m y) : Sz (n + m + 8) (times r x y) := by
  obtain ⟨s1, s2, s3⟩ := sx
  obtain ⟨t1, t2, t3⟩ := sy
  refine sz_low (Int.mul_ne_zero hx hy) (nat_add_lt (n := n + m + 7) (nat_up (nat_mul_lt s1 t1) (by omega)) (nat_mul_lt (nat_mul_lt s2 t2) hr.lt)) (nat_up (nat_add_lt (nat_mul_lt s1 t2) (nat_mul_lt s2 t1)) (by omega)) (nat_up (nat_mul_lt s3 t3) (by omega))
theorem below_lt {r : Int} {y : Tr} {n : Nat} (hr : RtOk r) (sy : Sz n y) : (below r y).natAbs < 2 ^ (n + n + 8) := by
  obtain ⟨t1, t2, t3⟩ := sy
  have e : below r y = y.a * y.a + (-(y.b * y.b * r)) := by unfold below; omega
  rw [e]
  refine nat_add_lt (n := n + n + 7) (nat_up (nat_mul_lt t1 t1) (by omega)) ?_
  rw [Int.natAbs_neg]
  exact nat_mul_lt (nat_mul_lt t2 t2) hr.lt
theorem sz_turned {r : Int} {y : Tr} {n : Nat} (hr : RtOk r) (h0 : below r y ≠ 0) (sy : Sz n y) : Sz (n + n + 8) (turned r y) := by
  obtain ⟨t1, t2, t3⟩ := id sy
  refine sz_low h0 (nat_up (nat_mul_lt t1 t3) (by omega)) ?_ (below_lt hr sy)
  have := nat_up (nat_mul_lt t2 t3) (show n + n ≤ n + n + 8 by omega)
  omega
theorem sz_over {r : Int} {x y : Tr} {n m : Nat} (hr : RtOk r) (hx : x.c ≠ 0) (h0 : below r y ≠ 0) (sx : Sz n x) (sy : Sz m y) : Sz (n + (m + m + 8) + 8) (over r x y) := sz_times hr hx (can_low h0).ne sx (sz_turned hr h0 sy)
theorem cmul {x y : Int} (h : x.natAbs < 2 ^ 100000) (h' : y.natAbs < 2 ^ 100000) : CMulW x y := wide_mul h h' (by decide) (by decide) (by decide)
theorem cmul4 {x y : Int} (h : x.natAbs < 2 ^ 4000) (h' : y.natAbs < 2 ^ 4000) : CMulW x y := wide_mul h h' (by decide) (by decide) (by decide)
theorem cmulr {x r : Int} (h : RtOk r) : CMul x r := .inr ⟨by have := h.1; omega, by have := h.2; omega⟩

/-- what stands behind the top, of the defs that are called -/
structure Txt (K : PySem.W.Frag) (mg : Str → Option Value) (x : Str) (st : Stmt) (ps : List Str) (f : Addr) (fd : FuncData) : Prop where
  F : Fun K x x st f fd
  b : Binds K fd ps []
  m : mg x = some (.ref f)

section
variable {P : Program} {w : World} {K : PySem.W.Frag} {mg : Str → Option Value} {base : Heap}
/-! ### plus -/
def spPlus (K : PySem.W.Frag) : Sp := fun vs H Q _ => ∃ (r : Int) (p q : Addr) (x y : Tr), vs = [.int r, .ref p, .ref q] ∧ At K H p x ∧ At K H q y ∧ Sz 4000 x ∧ Sz 4000 y ∧ x.c ≠ 0 ∧ y.c ≠ 0 ∧ ∀ H' z, Same H H' → At K H' z (plus x y) → Q (.ref z) H'
theorem ok_plus {f fl : Addr} {fd fdl : FuncData} {k : Nat} (T : Txt K mg "plus" sPlus ["root", "one", "other"] f fd) (L : Txt K mg "lowest" sLowest ["a", "b", "c"] fl fdl) (G : FnOk P w K mg base CX0 k fl fdl ["a", "b", "c"] (spLowest K)) :
    FnOk P w K mg base CX0 (k + 1) f fd ["root", "one", "other"] (spPlus K) := by
  refine T.F.ok scPlus (fun vs H Q E h => ?_) (fun cdv A outer s H vs Q E hr h => ?_)
  · obtain ⟨r, p, q, x, y, rfl, _⟩ := h
    rfl
  · obtain ⟨r, p, q, x, y, rfl, hx, hy, sx, sy, cx, cy, ans⟩ := h
    have nd := scPlus.nd
    refine ⟨_, pss_cons (ps_asg (pv 1) (pg_tup (by rfl) (pgs_cons (pg_name (i := 3) nd rfl (.inl rfl)) (pgs_cons (pg_name (i := 4) nd rfl (.inl rfl)) (pgs_cons (pg_name (i := 5) nd rfl (.inl rfl)) pgs_nil)))))
      (pss_cons (ps_asg (pv 2) (pg_tup (by rfl) (pgs_cons (pg_name (i := 6) nd rfl (.inl rfl)) (pgs_cons (pg_name (i := 7) nd rfl (.inl rfl)) (pgs_cons (pg_name (i := 8) nd rfl (.inl rfl)) pgs_nil)))))
      (pss_one (ps_ret (pe_call G hr (by rfl) L.m L.F.kp L.b .nil pass0
        (pa_cons (pe_op op_add (pe_op op_mulW (pv 3) (pv 8)) (pe_op op_mulW (pv 6) (pv 5)))
        (pa_cons (pe_op op_add (pe_op op_mulW (pv 4) (pv 8)) (pe_op op_mulW (pv 7) (pv 5)))
        (pa_cons (pe_op op_mulW (pv 5) (pv 8)) pa_nil))))))), ?_⟩
    obtain ⟨s1, s2, s3⟩ := id sx
    obtain ⟨t1, t2, t3⟩ := id sy
    refine ⟨.ref p, rfl, p, TV x, rfl, hx, rfl, _, _, rfl, _, _, rfl, _, [], rfl, rfl, ?_⟩
    refine ⟨.ref q, rfl, q, TV y, rfl, hy, rfl, _, _, rfl, _, _, rfl, _, [], rfl, rfl, ?_⟩
    refine ⟨_, rfl, _, rfl, x.a, y.c, rfl, rfl, cmul4 s1 t3, _, rfl, _, rfl, y.a, x.c, rfl, rfl, cmul4 t1 s3, _, _, rfl, rfl, ?_⟩
    refine ⟨_, rfl, _, rfl, x.b, y.c, rfl, rfl, cmul4 s2 t3, _, rfl, _, rfl, y.b, x.c, rfl, rfl, cmul4 t2 s3, _, _, rfl, rfl, ?_⟩
    refine ⟨_, rfl, _, rfl, x.c, y.c, rfl, rfl, cmul4 s3 t3, ?_⟩
    exact ⟨_, _, _, rfl, Int.mul_ne_zero cx cy, nat_up (nat_mul_lt s3 t3) (by decide), ans⟩
/-! ### minus -/
def spMinus (K : PySem.W.Frag) : Sp := fun vs H Q _ => ∃ (r : Int) (p q : Addr) (x y : Tr), vs = [.int r, .ref p, .ref q] ∧ At K H p x ∧ At K H q y ∧ Sz 4000 x ∧ Sz 4000 y ∧ x.c ≠ 0 ∧ y.c ≠ 0 ∧ ∀ H' z, Same H H' → At K H' z (minus x y) → Q (.ref z) H'
theorem ok_minus {f fl : Addr} {fd fdl : FuncData} {k : Nat} (T : Txt K mg "minus" sMinus ["root", "one", "other"] f fd) (L : Txt K mg "plus" sPlus ["root", "one", "other"] fl fdl) (G : FnOk P w K mg base CX0 k fl fdl ["root", "one", "other"] (spPlus K)) :
    FnOk P w K mg base CX0 (k + 1) f fd ["root", "one", "other"] (spMinus K) := by
  refine T.F.ok scMinus (fun vs H Q E h => ?_) (fun cdv A outer s H vs Q E hr h => ?_)
  · obtain ⟨r, p, q, x, y, rfl, _⟩ := h
    rfl
  · obtain ⟨r, p, q, x, y, rfl, hx, hy, sx, sy, cx, cy, ans⟩ := h
    have nd := scMinus.nd
    refine ⟨_, pss_cons (ps_asg (pv 2) (pg_tup (by rfl) (pgs_cons (pg_name (i := 3) nd rfl (.inl rfl)) (pgs_cons (pg_name (i := 4) nd rfl (.inl rfl)) (pgs_cons (pg_name (i := 5) nd rfl (.inl rfl)) pgs_nil)))))
      (pss_one (ps_ret (pe_call G hr (by rfl) L.m L.F.kp L.b .nil pass0
        (pa_cons (pv 0) (pa_cons (pv 1) (pa_cons (pe_tup (pa_cons (pe_op op_sub pe_int (pv 3)) (pa_cons (pe_op op_sub pe_int (pv 4)) (pa_cons (pv 5) pa_nil)))) pa_nil)))))), ?_⟩
    refine ⟨.ref q, rfl, q, TV y, rfl, hy, rfl, _, _, rfl, _, _, rfl, _, [], rfl, rfl, ?_⟩
    refine ⟨_, rfl, _, rfl, _, rfl, _, _, rfl, rfl, _, rfl, _, _, rfl, rfl, _, rfl, (by show 3 ≤ sizeLine; decide), fun t nt => ?_⟩
    refine ⟨r, p, t, x, negT y, rfl, hx.same (same_new nt), at_new (t := negT y), sx, sz_neg sy, cx, cy, fun H' z sm az => ?_⟩
    exact ans H' z ((same_new nt).trans sm) az
/-! ### times -/
def spTimes (K : PySem.W.Frag) : Sp := fun vs H Q _ => ∃ (r : Int) (p q : Addr) (x y : Tr), vs = [.int r, .ref p, .ref q] ∧ At K H p x ∧ At K H q y ∧ RtOk r ∧ Sz 4000 x ∧ Sz 4000 y ∧ x.c ≠ 0 ∧ y.c ≠ 0 ∧ ∀ H' z, Same H H' → At K H' z (times r x y) → Q (.ref z) H'
theorem ok_times {f fl : Addr} {fd fdl : FuncData} {k : Nat} (T : Txt K mg "times" sTimes ["root", "one", "other"] f fd) (L : Txt K mg "lowest" sLowest ["a", "b", "c"] fl fdl) (G : FnOk P w K mg base CX0 k fl fdl ["a", "b", "c"] (spLowest K)) :
    FnOk P w K mg base CX0 (k + 1) f fd ["root", "one", "other"] (spTimes K) := by
  refine T.F.ok scTimes (fun vs H Q E h => ?_) (fun cdv A outer s H vs Q E hr h => ?_)
  · obtain ⟨r, p, q, x, y, rfl, _⟩ := h
    rfl
  · obtain ⟨r, p, q, x, y, rfl, hx, hy, ro, sx, sy, cx, cy, ans⟩ := h
    have nd := scTimes.nd
    refine ⟨_, pss_cons (ps_asg (pv 1) (pg_tup (by rfl) (pgs_cons (pg_name (i := 3) nd rfl (.inl rfl)) (pgs_cons (pg_name (i := 4) nd rfl (.inl rfl)) (pgs_cons (pg_name (i := 5) nd rfl (.inl rfl)) pgs_nil)))))
      (pss_cons (ps_asg (pv 2) (pg_tup (by rfl) (pgs_cons (pg_name (i := 6) nd rfl (.inl rfl)) (pgs_cons (pg_name (i := 7) nd rfl (.inl rfl)) (pgs_cons (pg_name (i := 8) nd rfl (.inl rfl)) pgs_nil)))))
      (pss_one (ps_ret (pe_call G hr (by rfl) L.m L.F.kp L.b .nil pass0
        (pa_cons (pe_op op_add (pe_op op_mulW (pv 3) (pv 6)) (pe_op op_mul (pe_op op_mulW (pv 4) (pv 7)) (pv 0)))
        (pa_cons (pe_op op_add (pe_op op_mulW (pv 3) (pv 7)) (pe_op op_mulW (pv 4) (pv 6)))
        (pa_cons (pe_op op_mulW (pv 5) (pv 8)) pa_nil))))))), ?_⟩
    obtain ⟨s1, s2, s3⟩ := id sx
    obtain ⟨t1, t2, t3⟩ := id sy
    refine ⟨.ref p, rfl, p, TV x, rfl, hx, rfl, _, _, rfl, _, _, rfl, _, [], rfl, rfl, ?_⟩
    refine ⟨.ref q, rfl, q, TV y, rfl, hy, rfl, _, _, rfl, _, _, rfl, _, [], rfl, rfl, ?_⟩
    refine ⟨_, rfl, _, rfl, x.a, y.a, rfl, rfl, cmul4 s1 t1, _, rfl, _, rfl, x.b, y.b, rfl, rfl, cmul4 s2 t2, _, rfl, _, r, rfl, rfl, cmulr ro, _, _, rfl, rfl, ?_⟩
    refine ⟨_, rfl, _, rfl, x.a, y.b, rfl, rfl, cmul4 s1 t2, _, rfl, _, rfl, x.b, y.a, rfl, rfl, cmul4 s2 t1, _, _, rfl, rfl, ?_⟩
    refine ⟨_, rfl, _, rfl, x.c, y.c, rfl, rfl, cmul4 s3 t3, ?_⟩
    exact ⟨_, _, _, rfl, Int.mul_ne_zero cx cy, nat_up (nat_mul_lt s3 t3) (by decide), ans⟩
/-! ### over -/
def spOver (K : PySem.W.Frag) : Sp := fun vs H Q _ => ∃ (r : Int) (p q : Addr) (x y : Tr), vs = [.int r, .ref p, .ref q] ∧ At K H p x ∧ At K H q y ∧ RtOk r ∧ Sz 4000 x ∧ Sz 1900 y ∧ x.c ≠ 0 ∧ below r y ≠ 0 ∧ ∀ H' z, Same H H' → At K H' z (over r x y) → Q (.ref z) H'
theorem ok_over {f fl ft : Addr} {fd fdl fdt : FuncData} {k : Nat} (T : Txt K mg "over" sOver ["root", "one", "other"] f fd) (L : Txt K mg "lowest" sLowest ["a", "b", "c"] fl fdl) (G : FnOk P w K mg base CX0 k fl fdl ["a", "b", "c"] (spLowest K))
    (M : Txt K mg "times" sTimes ["root", "one", "other"] ft fdt) (GM : FnOk P w K mg base CX0 (k + 1) ft fdt ["root", "one", "other"] (spTimes K)) :
    FnOk P w K mg base CX0 (k + 2) f fd ["root", "one", "other"] (spOver K) := by
  refine T.F.ok scOver (fun vs H Q E h => ?_) (fun cdv A outer s H vs Q E hr h => ?_)
  · obtain ⟨r, p, q, x, y, rfl, _⟩ := h
    rfl
  · obtain ⟨r, p, q, x, y, rfl, hx, hy, ro, sx, sy, cx, h0, ans⟩ := h
    have nd := scOver.nd
    refine ⟨_, pss_cons (ps_asg (pv 2) (pg_tup (by rfl) (pgs_cons (pg_name (i := 3) nd rfl (.inl rfl)) (pgs_cons (pg_name (i := 4) nd rfl (.inl rfl)) (pgs_cons (pg_name (i := 5) nd rfl (.inl rfl)) pgs_nil)))))
      (pss_cons (ps_set (i := 6) nd rfl (.inl rfl) (pe_op op_sub (pe_op op_mulW (pv 3) (pv 3)) (pe_op op_mul (pe_op op_mulW (pv 4) (pv 4)) (pv 0))))
      (pss_cons (ps_if (pt_cmpR op_eq (pv 6) pe_int (nomark _)) (pss_one ps_never) pss_nil)
      (pss_one (ps_ret (pe_call GM hr (by rfl) M.m M.F.kp M.b .nil pass0
        (pa_cons (pv 0) (pa_cons (pv 1) (pa_cons (pe_call G (hr.mono (by omega)) (by rfl) L.m L.F.kp L.b .nil pass0
          (pa_cons (pe_op op_mulW (pv 3) (pv 5)) (pa_cons (pe_op op_sub pe_int (pe_op op_mulW (pv 4) (pv 5))) (pa_cons (pv 6) pa_nil)))) pa_nil)))))))), ?_⟩
    have sy4 := sy.mono (show 1900 ≤ 4000 by decide)
    obtain ⟨t1, t2, t3⟩ := id sy4
    refine ⟨.ref q, rfl, q, TV y, rfl, hy, rfl, _, _, rfl, _, _, rfl, _, [], rfl, rfl, ?_⟩
    refine ⟨_, rfl, _, rfl, y.a, y.a, rfl, rfl, cmul4 t1 t1, _, rfl, _, rfl, y.b, y.b, rfl, rfl, cmul4 t2 t2, _, rfl, _, r, rfl, rfl, cmulr ro, _, _, rfl, rfl, ?_⟩
    refine ⟨.int (below r y), rfl, rfl, _, rfl, ifFf (decide_eq_false fun e => h0 (V.int.inj e)) ?_⟩
    refine ⟨_, rfl, _, rfl, _, rfl, _, rfl, y.a, y.c, rfl, rfl, cmul4 t1 t3, _, rfl, _, rfl, y.b, y.c, rfl, rfl, cmul4 t2 t3, _, _, rfl, rfl, .int (below r y), rfl, ?_⟩
    refine ⟨_, _, below r y, rfl, h0, nat_up (below_lt ro sy) (by decide), fun H1 z sm az => ?_⟩
    refine ⟨r, p, z, x, turned r y, rfl, hx.same sm, az, ro, sx, (sz_turned ro h0 sy).mono (by decide), cx, (can_low h0).ne, fun H' u sm' au => ?_⟩
    exact ans H' u (sm.trans sm') au
/-! ### sign_of -/
def spSign (K : PySem.W.Frag) : Sp := fun vs H Q _ => ∃ (r : Int) (p : Addr) (x : Tr), vs = [.int r, .ref p] ∧ At K H p x ∧ RtOk r ∧ Sz 100000 x ∧ Q (.int (sgn r x)) H
end
end K5W

namespace K5W
open PySem PySem.Spec PyProof.Rows L2 K5
theorem scRoot : FnScope ["number", "low", "high", "middle"] ["number"] (defScope sRoot) := ⟨rfl, rfl, rfl, by decide +kernel, rfl, by decide +kernel, by decide +kernel⟩
theorem scFloor : FnScope ["root", "one", "a", "b", "c"] ["root", "one"] (defScope sFloor) := ⟨rfl, rfl, rfl, by decide +kernel, rfl, by decide +kernel, by decide +kernel⟩
section
variable {P : Program} {w : World} {K : PySem.W.Frag} {mg : Str → Option Value} {base : Heap}
theorem sgn_0 {r : Int} {t : Tr} (h : t.a = 0 ∧ t.b = 0) : sgn r t = 0 := by unfold sgn; rw [if_pos h]
theorem sgn_1 {r : Int} {t : Tr} (h : ¬ (t.a = 0 ∧ t.b = 0)) (h1 : t.a ≥ 0 ∧ t.b ≥ 0) : sgn r t = 1 := by unfold sgn; rw [if_neg h, if_pos h1]
theorem sgn_2 {r : Int} {t : Tr} (h : ¬ (t.a = 0 ∧ t.b = 0)) (h1 : ¬ (t.a ≥ 0 ∧ t.b ≥ 0)) (h2 : t.a ≤ 0 ∧ t.b ≤ 0) : sgn r t = -1 := by unfold sgn; rw [if_neg h, if_neg h1, if_pos h2]
theorem sgn_3 {r : Int} {t : Tr} (h : ¬ (t.a = 0 ∧ t.b = 0)) (h1 : ¬ (t.a ≥ 0 ∧ t.b ≥ 0)) (h2 : ¬ (t.a ≤ 0 ∧ t.b ≤ 0)) (h3 : decide (t.a > 0) = decide (t.a * t.a > t.b * t.b * r)) : sgn r t = 1 := by unfold sgn; rw [if_neg h, if_neg h1, if_neg h2, if_pos h3]
theorem sgn_4 {r : Int} {t : Tr} (h : ¬ (t.a = 0 ∧ t.b = 0)) (h1 : ¬ (t.a ≥ 0 ∧ t.b ≥ 0)) (h2 : ¬ (t.a ≤ 0 ∧ t.b ≤ 0)) (h3 : ¬ decide (t.a > 0) = decide (t.a * t.a > t.b * t.b * r)) : sgn r t = -1 := by unfold sgn; rw [if_neg h, if_neg h1, if_neg h2, if_neg h3]
theorem ite3 {c A B : Prop} [Decidable c] (h1 : c → A) (h2 : ¬ c → B) : if decide c = true then A else B := by
  by_cases h : c
  · exact ifTt (decide_eq_true h) (h1 h)
  · exact ifFf (decide_eq_false h) (h2 h)
theorem and_ways {c1 c2 B : Prop} [Decidable c1] [Decidable c2] {R : Bool → Prop} (hB : R (decide c2) → B) (h1 : c1 ∧ c2 → R true) (h2 : ¬ (c1 ∧ c2) → R false) : if decide c1 = true then B else R false := by
  refine ite3 (fun a => hB ?_) (fun a => h2 fun z => a z.1)
  by_cases b : c2
  · rw [decide_eq_true b]; exact h1 ⟨a, b⟩
  · rw [decide_eq_false b]; exact h2 fun z => b z.2
theorem ok_sign {f : Addr} {fd : FuncData} {k : Nat} (T : Txt K mg "sign_of" sSign ["root", "one"] f fd) : FnOk P w K mg base CX0 (k + 1) f fd ["root", "one"] (spSign K) := by
  refine T.F.ok scSign (fun vs H Q E h => ?_) (fun cdv A outer s H vs Q E hr h => ?_)
  · obtain ⟨r, p, x, rfl, _⟩ := h
    rfl
  · obtain ⟨r, p, x, rfl, hx, ro, sx, ans⟩ := h
    have nd := scSign.nd
    refine ⟨_, pss_cons (ps_asg (pv 1) (pg_tup (by rfl) (pgs_cons (pg_name (i := 2) nd rfl (.inl rfl)) (pgs_cons (pg_name (i := 3) nd rfl (.inl rfl)) (pgs_cons (pg_name (i := 4) nd rfl (.inl rfl)) pgs_nil)))))
      (pss_cons (ps_if (PW.pt (pw_and (pt_cmpR op_eq (pv 2) pe_int (nomark _)) (pw_and1 (pt_cmpR op_eq (pv 3) pe_int (nomark _))))) (pss_one (ps_ret pe_int)) pss_nil)
      (pss_cons (ps_if (PW.pt (pw_and (pt_cmpR op_ge (pv 2) pe_int (nomark _)) (pw_and1 (pt_cmpR op_ge (pv 3) pe_int (nomark _))))) (pss_one (ps_ret pe_int)) pss_nil)
      (pss_cons (ps_if (PW.pt (pw_and (pt_cmpR op_le (pv 2) pe_int (nomark _)) (pw_and1 (pt_cmpR op_le (pv 3) pe_int (nomark _))))) (pss_one (ps_ret (pe_un un_neg pe_int))) pss_nil)
      (pss_cons (ps_if (pt_cmpR op_eq (pe_cmpR op_gt (pv 2) pe_int (nomark _)) (pe_cmpR op_gt (pe_op op_mulW (pv 2) (pv 2)) (pe_op op_mul (pe_op op_mulW (pv 3) (pv 3)) (pv 0)) (nomark _)) (nomark _)) (pss_one (ps_ret pe_int)) pss_nil)
      (pss_one (ps_ret (pe_un un_neg pe_int))))))), ?_⟩
    obtain ⟨s1, s2, s3⟩ := id sx
    refine ⟨.ref p, rfl, p, TV x, rfl, hx, rfl, _, _, rfl, _, _, rfl, _, [], rfl, rfl, ?_⟩
    -- a == 0 and b == 0
    refine ⟨.int x.a, rfl, rfl, _, rfl, ?_⟩
    refine and_ways (R := fun k => if k = true then _ else _) (fun q => ⟨.int x.b, rfl, rfl, _, rfl, q⟩) (fun h => ?_) (fun h => ?_)
    · have e : sgn r x = 0 := sgn_0 ⟨V.int.inj h.1, V.int.inj h.2⟩
      rw [e] at ans
      exact ifTt rfl ans
    have h0 : ¬ (x.a = 0 ∧ x.b = 0) := fun z => h ⟨congrArg V.int z.1, congrArg V.int z.2⟩
    refine ifFf rfl ?_
    -- a >= 0 and b >= 0
    refine ⟨.int x.a, rfl, _, _, rfl, rfl, _, rfl, ?_⟩
    refine and_ways (R := fun k => if k = true then _ else _) (fun q => ⟨.int x.b, rfl, _, _, rfl, rfl, _, rfl, q⟩) (fun h => ?_) (fun h => ?_)
    · have e : sgn r x = 1 := sgn_1 h0 ⟨h.1, h.2⟩
      rw [e] at ans
      exact ifTt rfl ans
    have h1 : ¬ (x.a ≥ 0 ∧ x.b ≥ 0) := h
    refine ifFf rfl ?_
    -- a <= 0 and b <= 0
    refine ⟨.int x.a, rfl, _, _, rfl, rfl, _, rfl, ?_⟩
    refine and_ways (R := fun k => if k = true then _ else _) (fun q => ⟨.int x.b, rfl, _, _, rfl, rfl, _, rfl, q⟩) (fun h => ?_) (fun h => ?_)
    · have e : sgn r x = -1 := sgn_2 h0 h1 ⟨h.1, h.2⟩
      rw [e] at ans
      exact ifTt rfl ⟨1, rfl, ans⟩
    have h2 : ¬ (x.a ≤ 0 ∧ x.b ≤ 0) := h
    refine ifFf rfl ?_
    -- (a > 0) == (a * a > b * b * root)
    refine ⟨.int x.a, rfl, x.a, 0, rfl, rfl, .int x.a, rfl, .int x.a, rfl, x.a, x.a, rfl, rfl, cmul s1 s1, .int x.b, rfl, .int x.b, rfl, x.b, x.b, rfl, rfl, cmul s2 s2, .int r, rfl, _, r, rfl, rfl, cmulr ro, _, _, rfl, rfl, rfl, _, rfl, ite3 (fun h => ?_) (fun h => ?_)⟩
    · have e : sgn r x = 1 := sgn_3 h0 h1 h2 (V.bl.inj h)
      rw [e] at ans
      exact ans
    · have e : sgn r x = -1 := sgn_4 h0 h1 h2 (fun z => h (congrArg V.bl z))
      rw [e] at ans
      exact ⟨1, rfl, ans⟩
/-! ### less -/
def spLess (K : PySem.W.Frag) : Sp := fun vs H Q _ => ∃ (r : Int) (p q : Addr) (x y : Tr), vs = [.int r, .ref p, .ref q] ∧ At K H p x ∧ At K H q y ∧ RtOk r ∧ Sz 4000 x ∧ Sz 4000 y ∧ x.c ≠ 0 ∧ y.c ≠ 0 ∧ ∀ H', Same H H' → Q (.bl (less r x y)) H'
theorem ok_less {f fl ft : Addr} {fd fdl fdt : FuncData} {k : Nat} (T : Txt K mg "less" sLess ["root", "one", "other"] f fd) (L : Txt K mg "sign_of" sSign ["root", "one"] fl fdl) (G : FnOk P w K mg base CX0 k fl fdl ["root", "one"] (spSign K))
    (M : Txt K mg "minus" sMinus ["root", "one", "other"] ft fdt) (GM : FnOk P w K mg base CX0 k ft fdt ["root", "one", "other"] (spMinus K)) :
    FnOk P w K mg base CX0 (k + 1) f fd ["root", "one", "other"] (spLess K) := by
  refine T.F.ok scLess (fun vs H Q E h => ?_) (fun cdv A outer s H vs Q E hr h => ?_)
  · obtain ⟨r, p, q, x, y, rfl, _⟩ := h
    rfl
  · obtain ⟨r, p, q, x, y, rfl, hx, hy, ro, sx, sy, cx, cy, ans⟩ := h
    refine ⟨_, pss_one (ps_ret (pe_cmpR op_lt (pe_call G hr (by rfl) L.m L.F.kp L.b .nil pass0
        (pa_cons (pv 0) (pa_cons (pe_call GM hr (by rfl) M.m M.F.kp M.b .nil pass0 (pa_cons (pv 0) (pa_cons (pv 1) (pa_cons (pv 2) pa_nil)))) pa_nil))) pe_int (nomark _))), ?_⟩
    refine ⟨_, rfl, _, rfl, _, rfl, _, rfl, r, p, q, x, y, rfl, hx, hy, sx, sy, cx, cy, fun H1 z sm az => ?_⟩
    refine ⟨r, z, minus x y, rfl, az, ro, (sz_minus cx cy sx sy).mono (by decide), ?_⟩
    exact ⟨_, _, rfl, rfl, ans H1 sm⟩
/-! ### root_below -/
def spRoot : Sp := fun vs H Q _ => ∃ n : Int, vs = [.int n] ∧ 0 ≤ n ∧ n.natAbs < 2 ^ 20000 ∧ ∀ s, 0 ≤ s → s * s ≤ n → n < (s + 1) * (s + 1) → Q (.int s) H
theorem ok_root {f : Addr} {fd : FuncData} {k : Nat} (T : Txt K mg "root_below" sRoot ["number"] f fd) : FnOk P w K mg base CX0 (k + 1) f fd ["number"] spRoot := by
  refine T.F.ok scRoot (fun vs H Q E h => ?_) (fun cdv A outer s H vs Q E hr h => ?_)
  · obtain ⟨n, rfl, _⟩ := h
    rfl
  · obtain ⟨n, rfl, h0, hz, ans⟩ := h
    have nd := scRoot.nd
    refine ⟨_, pss_cons (ps_set (i := 1) nd rfl (.inl rfl) pe_int)
      (pss_cons (ps_set (i := 2) nd rfl (.inl rfl) (pe_op op_add (pv 0) pe_int))
      (pss_cons (ps_while PassesOwn.never (pt_cmpR op_gt (pe_op op_sub (pv 2) (pv 1)) pe_int (nomark _))
        (pss_cons (ps_set (i := 3) nd rfl (.inl rfl) (pe_op op_fdiv (pe_op op_add (pv 1) (pv 2)) pe_int))
        (pss_one (ps_if (pt_cmpR op_gt (pe_op op_mulW (pv 3) (pv 3)) (pv 0) (nomark _)) (pss_one (ps_set (i := 2) nd rfl (.inl rfl) (pv 3))) (pss_one (ps_set (i := 1) nd rfl (.inl rfl) (pv 3)))))))
      (pss_one (ps_ret (pv 1))))), ?_⟩
    refine ⟨_, rfl, n, 1, rfl, rfl, ?_⟩
    have hn : n < (n + 1) * (n + 1) := by
      have : 0 ≤ n * n := Int.mul_nonneg h0 h0
      have e : (n + 1) * (n + 1) = n * n + n + n + 1 := by grind
      omega
    refine ⟨fun m σ H' => ∃ (lo hi : Int) (v : Option V), σ = [some (.int n), some (.int lo), some (.int hi), v] ∧ 0 ≤ lo ∧ lo < hi ∧ hi ≤ n + 1 ∧ lo * lo ≤ n ∧ n < hi * hi ∧ m = (hi - lo).toNat ∧ H' = H,
      ⟨_, 0, n + 1, none, rfl, by omega, by omega, by omega, h0, hn, rfl, rfl⟩, fun m σ H' hW => ?_⟩
    obtain ⟨lo, hi, v, rfl, l0, lh, hu, a1, a2, rfl, rfl⟩ := hW
    refine ⟨_, rfl, _, rfl, hi, lo, rfl, rfl, _, 1, rfl, rfl, _, rfl, ite3 (fun h => ?_) (fun h => ?_)⟩
    · have g1 : lo < (lo + hi) / 2 := by omega
      have g2 : (lo + hi) / 2 < hi := by omega
      have gz : ((lo + hi) / 2).natAbs < 2 ^ 20001 := nat_up (show ((lo + hi) / 2).natAbs < 2 ^ 20000 by omega) (by decide)
      refine ⟨fun σ' H2 => ∃ (lo' hi' : Int) (v : Option V), σ' = [some (.int n), some (.int lo'), some (.int hi'), v] ∧ 0 ≤ lo' ∧ lo' < hi' ∧ hi' ≤ n + 1 ∧ lo' * lo' ≤ n ∧ n < hi' * hi' ∧ (hi' - lo').toNat < (hi - lo).toNat ∧ H2 = H', fun σ' H2 hN => ?_, ?_⟩
      · obtain ⟨lo', hi', v', e, b0, b1, b2, b3, b4, b5, b6⟩ := hN
        exact ⟨_, b5, lo', hi', v', e, b0, b1, b2, b3, b4, rfl, b6⟩
      · refine ⟨_, rfl, _, rfl, lo, hi, rfl, rfl, _, 2, rfl, rfl, ⟨by decide, by decide⟩, ?_⟩
        refine ⟨_, rfl, _, rfl, _, _, rfl, rfl, wide_mul gz gz (by decide) (by decide) (by decide), .int n, rfl, _, n, rfl, rfl, _, rfl, ite3 (fun c => ?_) (fun c => ?_)⟩
        · exact ⟨_, rfl, lo, (lo + hi) / 2, _, rfl, l0, g1, by omega, a1, c, by omega, rfl⟩
        · exact ⟨_, rfl, (lo + hi) / 2, hi, _, rfl, by omega, g2, hu, by omega, a2, by omega, rfl⟩
    · have e : hi = lo + 1 := by omega
      subst e
      exact ⟨_, rfl, ans lo l0 a1 a2⟩
/-! ### floor_of -/
def spFloor (K : PySem.W.Frag) : Sp := fun vs H Q _ => ∃ (r : Int) (p : Addr) (x : Tr), vs = [.int r, .ref p] ∧ At K H p x ∧ RtOk r ∧ Sz 4000 x ∧ x.c ≠ 0 ∧
  ∀ s, 0 ≤ s → s * s ≤ x.b * x.b * r → x.b * x.b * r < (s + 1) * (s + 1) → Q (.int (if x.b ≥ 0 then (x.a + s).fdiv x.c else (x.a - s - 1).fdiv x.c)) H
theorem ok_floor {f fl : Addr} {fd fdl : FuncData} {k : Nat} (T : Txt K mg "floor_of" sFloor ["root", "one"] f fd) (L : Txt K mg "root_below" sRoot ["number"] fl fdl) (G : FnOk P w K mg base CX0 k fl fdl ["number"] spRoot) :
    FnOk P w K mg base CX0 (k + 1) f fd ["root", "one"] (spFloor K) := by
  refine T.F.ok scFloor (fun vs H Q E h => ?_) (fun cdv A outer s H vs Q E hr h => ?_)
  · obtain ⟨r, p, x, rfl, _⟩ := h
    rfl
  · obtain ⟨r, p, x, rfl, hx, ro, sx, cx, ans⟩ := h
    have nd := scFloor.nd
    refine ⟨_, pss_cons (ps_asg (pv 1) (pg_tup (by rfl) (pgs_cons (pg_name (i := 2) nd rfl (.inl rfl)) (pgs_cons (pg_name (i := 3) nd rfl (.inl rfl)) (pgs_cons (pg_name (i := 4) nd rfl (.inl rfl)) pgs_nil)))))
      (pss_cons (ps_if (pt_cmpR op_ge (pv 3) pe_int (nomark _))
        (pss_one (ps_ret (pe_op op_divC (pe_op op_add (pv 2) (pe_call G hr (by rfl) L.m L.F.kp L.b .nil pass0 (pa_cons (pe_op op_mul (pe_op op_mulW (pv 3) (pv 3)) (pv 0)) pa_nil))) (pv 4)))) pss_nil)
      (pss_one (ps_ret (pe_op op_divC (pe_op op_sub (pe_op op_sub (pv 2) (pe_call G hr (by rfl) L.m L.F.kp L.b .nil pass0 (pa_cons (pe_op op_mul (pe_op op_mulW (pv 3) (pv 3)) (pv 0)) pa_nil))) pe_int) (pv 4))))), ?_⟩
    obtain ⟨s1, s2, s3⟩ := id sx
    have nn : 0 ≤ x.b * x.b * r := by
      refine Int.mul_nonneg ?_ ro.1
      rcases (show 0 ≤ x.b ∨ 0 ≤ -x.b by omega) with g | g
      · exact Int.mul_nonneg g g
      · have := Int.mul_nonneg g g
        grind
    have nz : (x.b * x.b * r).natAbs < 2 ^ 20000 := nat_up (nat_mul_lt (nat_mul_lt s2 s2) ro.lt) (by decide)
    have dc : ∀ z, DivC z x.c := fun z => ⟨cx, Nat.lt_trans (lg s3 (by decide)) (by decide)⟩
    refine ⟨.ref p, rfl, p, TV x, rfl, hx, rfl, _, _, rfl, _, _, rfl, _, [], rfl, rfl, ?_⟩
    refine ⟨.int x.b, rfl, _, _, rfl, rfl, _, rfl, ite3 (fun h => ?_) (fun h => ?_)⟩
    · refine ⟨_, rfl, _, rfl, _, rfl, x.b, x.b, rfl, rfl, cmul4 s2 s2, _, rfl, _, r, rfl, rfl, cmulr ro, _, rfl, nn, nz, fun t t0 t1 t2 => ?_⟩
      have q := ans t t0 t1 t2
      rw [if_pos h] at q
      exact ⟨_, t, rfl, rfl, _, rfl, _, _, rfl, rfl, dc _, q⟩
    · refine ⟨_, rfl, _, rfl, _, rfl, x.b, x.b, rfl, rfl, cmul4 s2 s2, _, rfl, _, r, rfl, rfl, cmulr ro, _, rfl, nn, nz, fun t t0 t1 t2 => ?_⟩
      have q := ans t t0 t1 t2
      rw [if_neg h] at q
      exact ⟨_, t, rfl, rfl, _, 1, rfl, rfl, _, rfl, _, _, rfl, rfl, dc _, q⟩
end
end K5W

namespace K5W
open PySem PySem.Spec PyProof.Rows L2 K5
/-! ### ys[-2::-1] of a list that is not empty -/
theorem pick_back {its : List Value} (h : 1 ≤ its.length) : slicePick its.toArray (some (-2)) none (some (-1)) = its.dropLast.reverse.toArray := by
  obtain ⟨m, hm⟩ : ∃ m, its.length = m + 1 := ⟨its.length - 1, by omega⟩
  have sz : its.toArray.size = m + 1 := by rw [List.size_toArray]; exact hm
  have hb : sliceBounds (some (-2)) none (some (-1)) (m + 1) = ((m : Int) - 1, -1, -1) := by
    simp only [sliceBounds, Option.getD_some]
    congr 1
    omega
  have pr := pick_run its.toArray 0 m
  rw [show (fun k => 0 + k) = (id : Nat → Nat) from funext fun k => Nat.zero_add k, List.map_id, List.drop_zero] at pr
  unfold slicePick
  rw [sz, hb]
  show ((sliceRange ((m : Int) - 1) (-1) (-1)).filterMap (its.toArray[·]?)).toArray = _
  rw [PySem.W.krv_sliceRange, PySem.W.krv_range, List.filterMap_reverse, pr, List.dropLast_eq_take, hm]
  rfl
/-- its reading: the new list is all but the last, turned about -/
def tBackL (K : PySem.W.Frag) (te : TE) : TE := fun σ H Q => te σ H fun z H1 => ∃ (l : Addr) (ys : List V), z = .ref l ∧ SqL K H1 l ys ∧ 1 ≤ ys.length ∧ ∀ n, H1 n = none → Q (.ref n) (upd H1 n (.lst ys.dropLast.reverse))
theorem pe_backL {X : Cx} {e : Expr} {te : TE} {k k' : Nat} {q1 q2 q3 q4 q5 pos : Pos} (he : PE X e te) :
    PE X (.Subscript e (.Slice (some (.UnaryOp .USub (.Constant (.int 2) k q1) q2)) none (some (.UnaryOp .USub (.Constant (.int 1) k' q3) q4)) q5) pos) (tBackL X.K te) := by
  constructor
  intro pins s σ H Q I hW
  refine Subscript_ (thn (he.run pins s σ H _ I hW) ?_)
  rintro v s1 ⟨z, H1, I1, rz, l, ys, rfl, hl, h1, want⟩
  cases rz
  have part : ∀ (n : Int) (kk : Nat) (qa qb : Pos), PO X (some (.UnaryOp .USub (.Constant (.int n) kk qa) qb)) (tPart (tUn (rU fun i => .int (-i)) (tC (.int n)))) := fun n kk qa qb => po_some (pe_un un_neg pe_int)
  refine wpAny_Slice (thn ((part 2 k q1 q2).run pins s1 σ H1 (fun o Hx => o = some (-2) ∧ Hx = H1) I1 ⟨2, rfl, -2, rfl, rfl, rfl⟩) ?_)
  rintro va s2 ⟨oa, H2, I2, pa, rfl, ea⟩
  refine thn (po_none.run pins s2 σ _ (fun o Hx => o = none ∧ Hx = H2) I2 ⟨rfl, rfl⟩) ?_
  rintro vb s3 ⟨ob, H3, I3, pb, rfl, eb⟩
  refine thn ((part 1 k' q3 q4).run pins s3 σ _ (fun o Hx => o = some (-1) ∧ Hx = H3) I3 ⟨1, rfl, -1, rfl, rfl, rfl⟩) ?_
  rintro vc s4 ⟨oc, H4, I4, pc, rfl, ec⟩
  subst ea eb ec
  have I5 := I4.kept (h' := s4.heap.push { cls := .type "slice", data := .fields #[va, vb, vc] }) (t' := s4.toks) (fun b ob w => Heap.get?_push_of_some _ w)
  obtain ⟨its, vs, pl, size⟩ := I5.list hl
  have same := vs.length
  show wpAny _ _ (subscriptTail _ _ (.ref l) (.ref s4.heap.objs.size)) _ _ _
  refine tail_any (ops := [.ref l, .ref s4.heap.objs.size]) pl.isList.typeIs PySem.slot_list_getitem.lookup ?_ (by with_unfolding_all rfl)
  refine wpAny_getItem_list_slice pl.isList (Heap.IsSliceOf.new _ va vb vc) pa pb pc (by decide) ?_ (by rw [List.size_toArray, ← same]; exact size)
  rw [pick_back (by omega)]
  have big : ys.dropLast.reverse.length ≤ sizeLine := by
    rw [List.length_reverse, List.length_dropLast]
    omega
  have cut : Vals ys.dropLast its.dropLast := by
    rw [List.dropLast_eq_take, List.dropLast_eq_take, same]
    exact vs.take _
  exact ⟨.ref _, _, I5.laid (t' := s4.toks) (o := .lst ys.dropLast.reverse) (fun b ob w => Heap.get?_push_of_some _ w) (Nat.le_refl _) ⟨big, _, 0, cut.reverse, Heap.get?_push_size _ rfl⟩, rfl, want _ (I5.hok.fresh (Nat.le_refl _))⟩
end K5W

namespace K5W
open PySem PySem.Spec PyProof.Rows L2 K5
def dT (t : Tr) : PyData := .tuple [.int t.a, .int t.b, .int t.c]
theorem eqv_tr (t u : Tr) : PyData.eqv (dT t) (dT u) = decide (t = u) := by
  have e : PyData.eqv (dT t) (dT u) = (t.a == u.a && (t.b == u.b && (t.c == u.c && true))) := by
    unfold dT
    simp [PyData.eqv, PyData.eqvAll]
  rw [e, Bool.eq_iff_iff]
  cases t
  cases u
  simp
theorem shaped_tr (t : Tr) : SeqAt.shaped (dT t) = true := rfl
theorem At.dp {K : PySem.W.Frag} {H : Hp} {p : Addr} {t : Tr} (h : At K H p t) : Dp K H (.ref p) (dT t) := .tup h (.cons (.int _) (.cons (.int _) (.cons (.int _) .nil)))
/-- sizes of what the loop holds -/
theorem sz_of {t : Tr} {F M : Int} {n : Nat} (hb : -F ≤ t.b) (hb' : t.b ≤ F) (hc : t.c ≤ M) (hc' : 0 < t.c) (ha : -M ≤ t.a) (ha' : t.a ≤ M) (f : F < 2 ^ n) (m : M < 2 ^ n) : Sz n t := by
  have e : ((2 ^ n : Nat) : Int) = (2 : Int) ^ n := by simp
  refine ⟨?_, ?_, ?_⟩ <;> omega
theorem stSz {r d : Int} [Irr d] {x y : Tr} {ws : List Int} {t : Tr} {h : Option Tr} {n : Nat} (S : St r d x y ws t h n) : Sz 15 t := by
  have hl := S.len
  obtain ⟨b1, b2, b3, b4, b5⟩ := fm_sz S.can S.fm
  exact sz_of b1 b2 b3 S.can.1 b4 b5 (by decide) (by omega)
theorem stSzu {r d : Int} [Irr d] {x y : Tr} {ws : List Int} {t u : Tr} {n : Nat} (S : St r d x y ws t (some u) n) : Sz 15 u := by
  have hl := S.len
  obtain ⟨c, _, f, _⟩ := S.up u rfl
  obtain ⟨b1, b2, b3, b4, b5⟩ := fm_sz c f
  exact sz_of b1 b2 b3 c.1 b4 b5 (by decide) (by omega)
theorem sz_w {w : Int} {n : Nat} (h : w.natAbs < 2 ^ n) (h0 : 0 < n) : Sz n (wT w) := by
  have := Nat.pow_le_pow_right (show 0 < 2 by decide) (show 1 ≤ n by omega)
  refine ⟨h, ?_, ?_⟩
  · show (0 : Int).natAbs < _
    simp; omega
  · show (1 : Int).natAbs < _
    simp; omega
theorem scSimp : FnScope ["root", "one", "other", "wholes", "high", "here", "rest", "later", "found", "whole"] ["root", "one", "other"] (defScope sSimp) := ⟨rfl, rfl, rfl, by decide +kernel, rfl, by decide +kernel, by decide +kernel⟩
/-- the fraction that the last loop makes, so far -/
def pq (ws : List Int) (w : Int) (i : Nat) : Int × Int := (ws.reverse.take i).foldl (fun z v => (v * z.1 + z.2, z.1)) (w + 1, 1)
theorem pq_step {ws : List Int} {w v : Int} {i : Nat} (h : ws.reverse[i]? = some v) : pq ws w (i + 1) = (v * (pq ws w i).1 + (pq ws w i).2, (pq ws w i).1) := by
  unfold pq
  rw [List.take_add_one, h, List.foldl_append]
  rfl
theorem pq_all (ws : List Int) (w : Int) : pq ws w ws.length = back ws (w + 1, 1) := by
  unfold pq back
  rw [List.take_of_length_le (by rw [List.length_reverse]; exact Nat.le_refl _), List.foldl_reverse]
section
variable {P : Program} {w : World} {K : PySem.W.Frag} {mg : Str → Option Value} {base : Heap}
def spSimp (K : PySem.W.Frag) : Sp := fun vs H Q _ => ∃ (r d : Int) (_ : Irr d) (p q : Addr) (x y : Tr), vs = [.int r, .ref p, .ref q] ∧ At K H p x ∧ At K H q y ∧ RtOk r ∧ RD r d x ∧ RD r d y ∧ Small x ∧ Small y ∧ val d x < val d y ∧
  ∀ (H' : Hp) (z : Addr) (A B : Int), Same H H' → At K H' z ⟨A, 0, B⟩ → Sz 1000 ⟨A, 0, B⟩ → 0 < B → val d x < fr d A B → fr d A B < val d y → Q (.ref z) H'
/-- what stands behind the first loop -/
def Behind (H : Hp) (r : Int) (q : Addr) (l : Addr) (ws : List Int) (v : Int) (σ : L2.St) (H' : Hp) : Prop :=
  ∃ v1 v4 v5 v6 v7, σ = [some (.int r), v1, some (.ref q), some (.ref l), v4, v5, v6, v7, none, none] ∧ Same H H' ∧ H' l = some (.lst ((ws ++ [v]).map V.int))
theorem high_is {K : PySem.W.Frag} {H H' : Hp} {vh : V} {h : Option Tr} (f : ∀ u, h = some u → ∃ pu, vh = .ref pu ∧ At K H pu u) (e : Same H H') : ∀ u, h = some u → ∃ pu, vh = .ref pu ∧ At K H' pu u := fun u hu => by
  obtain ⟨pu, a, b⟩ := f u hu
  exact ⟨pu, a, b.same e⟩
theorem same_upd {H H' : Hp} {l : Addr} {o : HO} (h : H l = none) (e : Same H H') : Same H (upd H' l o) := fun b x hb => (upd_ne (ne_of_none hb h)).trans (e b x hb)
theorem atI_end (xs : List Int) (v : Int) : atI ((xs ++ [v]).map V.int) (-1) = some (.int v) := by
  rw [List.map_append]
  exact atI_last _ _
theorem ok_simp {f fL fF fM fO aN : Addr} {fd fdL fdF fdM fdO : FuncData} {k : Nat} (T : Txt K mg "simplest" sSimp ["root", "one", "other"] f fd)
    (TL : Txt K mg "less" sLess ["root", "one", "other"] fL fdL) (GL : FnOk P w K mg base CX0 k fL fdL ["root", "one", "other"] (spLess K))
    (TF : Txt K mg "floor_of" sFloor ["root", "one"] fF fdF) (GF : FnOk P w K mg base CX0 k fF fdF ["root", "one"] (spFloor K))
    (TM : Txt K mg "minus" sMinus ["root", "one", "other"] fM fdM) (GM : FnOk P w K mg base CX0 k fM fdM ["root", "one", "other"] (spMinus K))
    (TO : Txt K mg "over" sOver ["root", "one", "other"] fO fdO) (GO : FnOk P w K mg base CX0 k fO fdO ["root", "one", "other"] (spOver K))
    (mN : mg "NOUGHT" = some (.ref aN)) (tN : ∀ H : Hp, At K H aN (wT 0)) :
    FnOk P w K mg base CX0 (k + 1) f fd ["root", "one", "other"] (spSimp K) := by
  refine T.F.ok scSimp (fun vs H Q E h => ?_) (fun cdv A outer s H vs Q E hr h => ?_)
  · obtain ⟨r, d, _, p, q, x, y, rfl, _⟩ := h
    rfl
  · obtain ⟨r, d, irr, p, q, x, y, rfl, hx, hy, ro, rx, ry, sx, sy, lt, ans⟩ := h
    have nd := scSimp.nd
    have root := rx.root
    -- what stands behind the loop
    obtain ⟨tt, ht, hq⟩ : ∃ t, PSs (cxOf CX0 P w K mg base ["root", "one", "other", "wholes", "high", "here", "rest", "later", "found", "whole"] "simplest" (defScope sSimp) f cdv A outer s H E).nox ((defBody sSimp).drop 4) t ∧
        ∀ (l : Addr) (ws : List Int) (v : Int) (σ : L2.St) (H' : Hp), H l = none → ws.length ≤ 21 → (∀ u ∈ ws, -(2 ^ 19) ≤ u ∧ u ≤ 2 ^ 19) → (-(2 ^ 19) ≤ v ∧ v ≤ 2 ^ 19) → 0 < (back ws (v + 1, 1)).2 → val d x < fr d (back ws (v + 1, 1)).1 (back ws (v + 1, 1)).2 → fr d (back ws (v + 1, 1)).1 (back ws (v + 1, 1)).2 < val d y →
          Behind H r q l ws v σ H' → t { nx := fun _ H' => Q .non H', rt := Q } σ H' := by
      refine ⟨_, pss_cons (ps_set (i := 8) nd rfl (.inl rfl) (pe_tup (pa_cons (pe_op op_add (pe_ix ix_list (pv 3) (pe_un un_neg pe_int) (fun _ _ => rfl)) pe_int) (pa_cons pe_int pa_nil))))
        (pss_cons (ps_for PassesOwn.never rfl (pi_list (pe_backL (pv 3))) (pg_name (i := 9) nd rfl (.inl rfl))
          (pss_one (ps_set (i := 8) nd rfl (.inl rfl) (pe_tup (pa_cons (pe_op op_add (pe_op op_mul (pv 9) (pe_ix ix_tup (pv 8) pe_int (fun _ _ => rfl))) (pe_ix ix_tup (pv 8) pe_int (fun _ _ => rfl))) (pa_cons (pe_ix ix_tup (pv 8) pe_int (fun _ _ => rfl)) pa_nil))))))
        (pss_one (ps_ret (pe_tup (pa_cons (pe_ix ix_tup (pv 8) pe_int (fun _ _ => rfl)) (pa_cons pe_int (pa_cons (pe_ix ix_tup (pv 8) pe_int (fun _ _ => rfl)) pa_nil))))))), ?_⟩
      intro l ws v σ H' nl len sm smv b0 b1 b2 hb
      obtain ⟨v1, v4, v5, v6, v7, rfl, same, hl⟩ := hb
      have hL : SqL K H' l ((ws ++ [v]).map V.int) := SqL.of hl
      refine ⟨.ref l, rfl, 1, rfl, l, _, -1, .int v, rfl, rfl, hL, atI_end ws v, v, 1, rfl, rfl, (by show 2 ≤ sizeLine; decide), fun pf nf => ?_⟩
      have same1 := same.trans (same_new (o := .tup [.int (v + 1), .int 1]) nf)
      refine ⟨.ref l, rfl, l, _, rfl, SqL.of ((same_new nf) l _ hl), ?_, fun ni nn => ?_⟩
      · rw [List.length_map, List.length_append]
        simp
      have er : (((ws ++ [v]).map V.int).dropLast).reverse = (ws.reverse).map V.int := by
        rw [List.map_append, List.map_singleton, List.dropLast_concat, List.map_reverse]
      rw [er]
      refine ⟨ni, rfl, ⟨_, SqL.of upd_same⟩, ?_⟩
      refine for_list (K := K) (a := ni) (xs := (ws.reverse).map V.int) (fun i σ H3 => ∃ (pf : Addr) (v9 : Option V), σ = [some (.int r), v1, some (.ref q), some (.ref l), v4, v5, v6, v7, some (.ref pf), v9] ∧ Same H H3 ∧ H3 ni = some (.lst ((ws.reverse).map V.int)) ∧ SqT K H3 pf [.int (pq ws v i).1, .int (pq ws v i).2]) ?_ ?_ ?_ ?_
      · exact ⟨pf, _, rfl, same1.trans (same_new nn), upd_same, same_tup (same_new nn) (SqT.of upd_same)⟩
      · intro i σ H3 _ hi
        obtain ⟨_, _, _, _, h3, _⟩ := hi
        exact SqL.of h3
      · intro i z σ H3 hz hi
        obtain ⟨pf, v9, rfl, s3, h3, h4⟩ := hi
        obtain ⟨u, hu, rfl⟩ : ∃ u, ws.reverse[i]? = some u ∧ z = V.int u := by
          rw [List.getElem?_map] at hz
          cases e : ws.reverse[i]? with
          | none => rw [e] at hz; cases hz
          | some u => rw [e] at hz; exact ⟨u, rfl, (Option.some.inj hz).symm⟩
        have us := sm u (List.mem_reverse.mp (List.mem_of_getElem? hu))
        refine ⟨.int u, rfl, .ref pf, rfl, pf, _, 0, _, rfl, rfl, h4, atI_nat (j := 0) rfl, u, _, rfl, rfl, .inl ⟨by omega, by omega⟩, .ref pf, rfl, pf, _, 1, _, rfl, rfl, h4, atI_nat (j := 1) rfl, _, _, rfl, rfl, .ref pf, rfl, pf, _, 0, _, rfl, rfl, h4, atI_nat (j := 0) rfl, (by show 2 ≤ sizeLine; decide), fun p2 n2 => ?_⟩
        refine ⟨p2, _, rfl, s3.trans (same_new n2), (same_new n2) _ _ h3, ?_⟩
        rw [pq_step hu]
        exact SqT.of upd_same
      · intro σ H3 hi
        obtain ⟨pf, v9, rfl, s3, h3, h4⟩ := hi
        rw [List.length_map, List.length_reverse, pq_all] at h4
        refine ⟨.ref pf, rfl, pf, _, 0, _, rfl, rfl, h4, atI_nat (j := 0) rfl, .ref pf, rfl, pf, _, 1, _, rfl, rfl, h4, atI_nat (j := 1) rfl, (by show 3 ≤ sizeLine; decide), fun p2 n2 => ?_⟩
        have bb := back_bound (p := v + 1) (q := 1) sm (by omega) (by decide)
        have up : ∀ n : Nat, n < 2 ^ (20 * (ws.length + 1)) → n < 2 ^ 1000 := fun n hn => Nat.lt_of_lt_of_le hn (Nat.pow_le_pow_right (by decide) (by omega))
        refine ans _ p2 (back ws (v + 1, 1)).1 (back ws (v + 1, 1)).2 (s3.trans (same_new n2)) (at_new (t := ⟨_, 0, _⟩)) ⟨up _ bb.1, ?_, up _ bb.2⟩ b0 b1 b2
        show (0 : Int).natAbs < _
        exact Nat.pow_pos (by decide)
    refine ⟨_, pss_cons (ps_if (pt_not (pt_val (pe_call GL hr (by rfl) TL.m TL.F.kp TL.b .nil pass0 (pa_cons (pv 0) (pa_cons (pv 1) (pa_cons (pv 2) pa_nil)))))) (pss_one ps_never) pss_nil)
      (pss_cons (ps_set (i := 3) nd rfl (.inl rfl) (pe_lst pa_nil))
      (pss_cons (ps_set (i := 4) nd rfl (.inl rfl) (pv 2))
      (pss_cons (ps_while PassesOwn.never (pt_val pe_bl)
        (pss_cons (ps_expr (pe_bm PySem.F.plainAttrs_list PySem.F.slot_list_append PySem.F.type_list_append mt_append (pv 3) (pa_cons (pe_call GF hr (by rfl) TF.m TF.F.kp TF.b .nil pass0 (pa_cons (pv 0) (pa_cons (pv 1) pa_nil))) pa_nil)))
        (pss_cons (ps_set (i := 5) nd rfl (.inl rfl) (pe_tup (pa_cons (pe_ix ix_list (pv 3) (pe_un un_neg pe_int) (fun _ _ => rfl)) (pa_cons pe_int (pa_cons pe_int pa_nil)))))
        (pss_cons (ps_if (PW.pt (pw_or (pt_cmpR op_isN (pv 4) pe_non (nomark _)) (pw_or1 (pt_val (pe_call GL hr (by rfl) TL.m TL.F.kp TL.b .nil pass0 (pa_cons (pv 0) (pa_cons (pe_tup (pa_cons (pe_op op_add (pe_ix ix_list (pv 3) (pe_un un_neg pe_int) (fun _ _ => rfl)) pe_int) (pa_cons pe_int (pa_cons pe_int pa_nil)))) (pa_cons (pv 4) pa_nil)))))))) (pss_one ps_break) pss_nil)
        (pss_cons (ps_set (i := 6) nd rfl (.inl rfl) (pe_call GM hr (by rfl) TM.m TM.F.kp TM.b .nil pass0 (pa_cons (pv 0) (pa_cons (pv 1) (pa_cons (pv 5) pa_nil)))))
        (pss_cons (ps_set (i := 7) nd rfl (.inl rfl) (pe_call GO hr (by rfl) TO.m TO.F.kp TO.b .nil pass0 (pa_cons (pv 0) (pa_cons (pe_tup (pa_cons pe_int (pa_cons pe_int (pa_cons pe_int pa_nil)))) (pa_cons (pe_call GM hr (by rfl) TM.m TM.F.kp TM.b .nil pass0 (pa_cons (pv 0) (pa_cons (pv 4) (pa_cons (pv 5) pa_nil)))) pa_nil)))))
        (pss_cons (ps_set (i := 4) nd rfl (.inl rfl) pe_non)
        (pss_cons (ps_if (pt_cmpR (op_neD hr.units) (pv 6) (pe_glob (v := V.ref aN) (by rfl) mN rfl) (nomark _)) (pss_one (ps_set (i := 4) nd rfl (.inl rfl) (pe_call GO hr (by rfl) TO.m TO.F.kp TO.b .nil pass0 (pa_cons (pv 0) (pa_cons (pe_tup (pa_cons pe_int (pa_cons pe_int (pa_cons pe_int pa_nil)))) (pa_cons (pv 6) pa_nil)))))) pss_nil)
        (pss_one (ps_set (i := 1) nd rfl (.inl rfl) (pv 7))))))))))) ht))), ?_⟩
    -- if not less(root, one, other)
    have hless : less r x y = true := (less_iff sx.can sy.can rx ry).mpr lt
    have sz0 : ∀ {t : Tr}, Small t → Sz 4000 t := fun {t} st => (sz_of (F := 10) (M := 20) (n := 5) (by have := st.b1; omega) (by have := st.b2; omega) (by have := st.c2; omega) st.can.1 (by have := st.a1; omega) (by have := st.a2; omega) (by decide) (by decide)).mono (by decide)
    refine ⟨_, rfl, _, rfl, _, rfl, r, p, q, x, y, rfl, hx, hy, ro, sz0 sx, sz0 sy, sx.can.ne, sy.can.ne, fun H1 sm1 => ?_⟩
    rw [hless]
    refine ⟨true, rfl, iteF ?_⟩
    -- wholes = []
    refine ⟨Nat.zero_le _, fun l nl1 => ?_⟩
    have nl : H l = none := sm1.free nl1
    have sm2 : Same H (upd H1 l (.lst [])) := sm1.trans (same_new nl1)
    refine ⟨.ref q, rfl, ?_⟩
    refine ⟨fun m σ H' => ∃ (pt : Addr) (ws : List Int) (t : Tr) (h : Option Tr) (vh : V) (v5 v6 v7 : Option V), σ = [some (.int r), some (.ref pt), some (.ref q), some (.ref l), some vh, v5, v6, v7, none, none] ∧ Same H H' ∧ H' l = some (.lst (ws.map V.int)) ∧ At K H' pt t ∧ (h = none → vh = .non) ∧ (∀ u, h = some u → ∃ pu, vh = .ref pu ∧ At K H' pu u) ∧ St r d x y ws t h m,
      ⟨21, p, [], x, some y, .ref q, none, none, none, rfl, sm2, upd_same, hx.same sm2, (fun e => by cases e), (fun u e => by cases e; exact ⟨q, rfl, hy.same sm2⟩), St.start sx sy rx ry lt⟩, fun m σ H' hW => ?_⟩
    obtain ⟨pt, ws, t, h, vh, v5, v6, v7, rfl, sm, hl, ht1, hnone, hsome, S⟩ := hW
    refine ⟨true, rfl, ifTt rfl ?_⟩
    refine ⟨fun σ' H2 => ∃ (n : Nat) (pt : Addr) (ws : List Int) (t : Tr) (h : Option Tr) (vh : V) (v5 v6 v7 : Option V), n < m ∧ σ' = [some (.int r), some (.ref pt), some (.ref q), some (.ref l), some vh, v5, v6, v7, none, none] ∧ Same H H2 ∧ H2 l = some (.lst (ws.map V.int)) ∧ At K H2 pt t ∧ (h = none → vh = .non) ∧ (∀ u, h = some u → ∃ pu, vh = .ref pu ∧ At K H2 pu u) ∧ St r d x y ws t h n, fun σ' H2 hN => ?_, ?_⟩
    · obtain ⟨n, pt, ws, t, h, vh, v5, v6, v7, hn, rest⟩ := hN
      exact ⟨n, hn, pt, ws, t, h, vh, v5, v6, v7, rest⟩
    -- wholes.append(floor_of(root, one))
    have len := S.len
    refine ⟨.ref l, rfl, .inl ⟨rfl, _, SqL.of hl⟩, _, rfl, _, rfl, r, pt, t, rfl, ht1, ro, (stSz S).mono (by decide), S.can.ne, fun s0 q0 q1 q2 => ?_⟩
    have hw := is_floor S.can.1 S.rd q0 q1 q2
    generalize (if t.b ≥ 0 then (t.a + s0).fdiv t.c else (t.a - s0 - 1).fdiv t.c) = v at hw
    refine ⟨l, _, _, rfl, rfl, hl, ?_, ?_⟩
    · rw [List.length_map]
      exact Nat.lt_of_le_of_lt (show ws.length ≤ 21 by omega) (by decide)
    have nlH : ∀ b o, H b = some o → b ≠ l := fun b o e => ne_of_none e nl
    have el : ws.map V.int ++ [V.int v] = (ws ++ [v]).map V.int := by rw [List.map_append]; rfl
    rw [el]
    have smA : Same H (upd H' l (.lst ((ws ++ [v]).map V.int))) := same_upd nl sm
    have atA : ∀ {b : Addr} {z : Tr}, At K H' b z → At K (upd H' l (.lst ((ws ++ [v]).map V.int))) b z := by
      intro b z hb
      have nb : ∀ {o : HO}, H' b = some o → o ≠ .lst (ws.map V.int) → b ≠ l := fun h1 h2 => ne_of h1 hl h2
      rcases hb with (h | ⟨o, h⟩) | h
      · exact .inl (.inl ((upd_ne (nb h (fun z => by cases z))).trans h))
      · exact .inl (.inr ⟨o, (upd_ne (nb h (fun z => by cases z))).trans h⟩)
      · exact .inr h
    have hlA : SqL K (upd H' l (.lst ((ws ++ [v]).map V.int))) l ((ws ++ [v]).map V.int) := SqL.of upd_same
    -- here = (wholes[-1], 0, 1)
    refine ⟨.ref l, rfl, 1, rfl, l, _, -1, .int v, rfl, rfl, hlA, atI_end ws v, (by show 3 ≤ sizeLine; decide), fun ph nh => ?_⟩
    have smB := smA.trans (same_new (o := .tup [.int v, .int 0, .int 1]) nh)
    have keepB : Same (upd H' l (.lst ((ws ++ [v]).map V.int))) (upd (upd H' l (.lst ((ws ++ [v]).map V.int))) ph (.tup [.int v, .int 0, .int 1])) := same_new nh
    have atB : At K (upd (upd H' l (.lst ((ws ++ [v]).map V.int))) ph (.tup [.int v, .int 0, .int 1])) ph (wT v) := at_new (t := wT v)
    have htB := (atA ht1).same keepB
    have hlB := keepB.seq hlA
    have vs := S.wsm hw
    have szv : Sz 20 (wT v) := sz_w (by omega) (by decide)
    -- high is None or ..
    refine ⟨vh, rfl, rfl, _, rfl, ?_⟩
    cases h with
    | none =>
      cases hnone rfl
      have D := S.done hw (fun u e => by cases e)
      refine ifTt rfl (ifTt rfl ?_)
      exact hq l ws v _ _ nl (by omega) S.small vs D.1 D.2.1 D.2.2 ⟨_, _, _, _, _, rfl, smB, keepB _ _ upd_same⟩
    | some u =>
      obtain ⟨pu, rfl, hu⟩ := hsome u rfl
      have huB := (atA hu).same keepB
      obtain ⟨cu, ru, fu, lu⟩ := S.up u rfl
      refine ifFf rfl ?_
      refine ⟨_, rfl, .ref l, rfl, 1, rfl, l, _, -1, .int v, rfl, rfl, hlB, atI_end ws v, v, 1, rfl, rfl, (by show 3 ≤ sizeLine; decide), fun pw nw => ?_⟩
      have keepC := same_new (o := .tup [.int (v + 1), .int 0, .int 1]) nw
      refine ⟨_, rfl, r, pw, pu, wT (v + 1), u, rfl, at_new (t := wT (v + 1)), huB.same keepC, ro, (sz_w (n := 20) (by omega) (by decide)).mono (by decide), (stSzu S).mono (by decide), (can_w _).ne, cu.ne, fun H3 sm3 => ?_⟩
      have keepD := keepC.trans sm3
      have smD := smB.trans keepD
      refine ⟨_, rfl, ?_⟩
      have lem := less_iff (can_w (v + 1)) cu (rd_w root (v + 1)) ru
      rw [val_w] at lem
      cases hlt : less r (wT (v + 1)) u with
      | true =>
        rw [hlt] at lem
        have D := S.done hw (fun u' e => by
          cases e
          have := lem.mp rfl
          rw [Lean.Grind.Ring.intCast_add, cast1] at this
          exact this)
        refine ifTt rfl ?_
        exact hq l ws v _ _ nl (by omega) S.small vs D.1 D.2.1 D.2.2 ⟨_, _, _, _, _, rfl, smD, keepD _ _ (keepB _ _ upd_same)⟩
      | false =>
        rw [hlt] at lem
        refine ifFf rfl ?_
        have hge : val d u ≤ (v : QS d) + 1 := by
          rw [Lean.Grind.Ring.intCast_add, cast1] at lem
          rcases (show val d u ≤ (v : QS d) + 1 ∨ (v : QS d) + 1 < val d u by grind) with g | g
          · exact g
          · exact absurd (lem.mpr g) (by decide)
        have htD := htB.same keepD
        have hphD := atB.same keepD
        have huD := huB.same keepD
        have rw0 := rd_w root v
        -- rest = minus(root, one, here)
        refine ⟨_, rfl, _, rfl, _, rfl, r, pt, ph, t, wT v, rfl, htD, hphD, (stSz S).mono (by decide), szv.mono (by decide), S.can.ne, (can_w v).ne, fun H4 pr sm4 hr4 => ?_⟩
        have cr := can_minus S.can.ne (can_w v).ne
        have rr := rd_minus S.can.ne (can_w v).ne S.rd rw0
        have vr : val d (minus t (wT v)) = val d t - v := by rw [val_minus S.can.ne (can_w v).ne, val_w]
        have szr : Sz 36 (minus t (wT v)) := sz_minus S.can.ne (can_w v).ne (stSz S) szv
        -- later = over(root, (1, 0, 1), minus(root, high, here))
        refine ⟨_, rfl, (by show 3 ≤ sizeLine; decide), fun p1 n1 => ?_⟩
        have keep5 := same_new (o := .tup [.int 1, .int 0, .int 1]) n1
        refine ⟨_, rfl, _, rfl, _, rfl, r, pu, ph, u, wT v, rfl, (huD.same sm4).same keep5, (hphD.same sm4).same keep5, (stSzu S).mono (by decide), szv.mono (by decide), cu.ne, (can_w v).ne, fun H5 pd sm5 hd5 => ?_⟩
        have cd := can_minus cu.ne (can_w v).ne
        have rdd := rd_minus cu.ne (can_w v).ne ru rw0
        have vd : val d (minus u (wT v)) = val d u - v := by rw [val_minus cu.ne (can_w v).ne, val_w]
        have szd : Sz 36 (minus u (wT v)) := sz_minus cu.ne (can_w v).ne (stSzu S) szv
        have dne : minus u (wT v) ≠ wT 0 := fun z => by
          have e : val d (minus u (wT v)) = 0 := by rw [z, val_w, cast0]
          rw [vd] at e
          have := hw.1
          grind
        have below_d := ne_below cd rdd dne
        have sz1 : Sz 4000 (wT 1) := (sz_w (n := 20) (by decide) (by decide)).mono (by decide)
        refine ⟨r, p1, pd, wT 1, minus u (wT v), rfl, (at_new (t := wT 1)).same sm5, hd5, ro, sz1, szd.mono (by decide), (can_w 1).ne, below_d, fun H6 pl sm6 hl6 => ?_⟩
        have ct' := can_over (r := r) (can_w 1).ne below_d
        have rt' := rd_over (can_w 1).ne (rd_w root 1) rdd below_d
        have vt' := val_inv cd rdd dne
        rw [vd] at vt'
        have sm456 : Same H3 H6 := ((sm4.trans keep5).trans sm5).trans sm6
        have smE : Same H H6 := smD.trans sm456
        have hlE : H6 l = some (.lst ((ws ++ [v]).map V.int)) := sm456 _ _ (keepD _ _ (keepB _ _ upd_same))
        have hr6 : At K H6 pr (minus t (wT v)) := (((hr4.same keep5).same sm5).same sm6)
        -- if rest != NOUGHT
        refine ⟨_, rfl, dT (minus t (wT v)), dT (wT 0), hr6.dp, (tN H6).dp, shaped_tr _, shaped_tr _, _, rfl, ?_⟩
        rw [eqv_tr]
        by_cases hz : minus t (wT v) = wT 0
        · have e0 : val d t - v = 0 := by rw [← vr, hz, val_w, cast0]
          obtain ⟨S', hm⟩ := S.none hw hge e0 ct' rt' vt'
          rw [decide_eq_true hz]
          refine ifFf rfl ?_
          exact ⟨_, rfl, 0, pl, ws ++ [v], _, none, .non, _, _, _, hm, rfl, smE, hlE, hl6, (fun _ => rfl), (fun _ e => by cases e), S'⟩
        · have e0 : val d t - v ≠ 0 := by
            rw [← vr]
            exact val_ne cr hz
          rw [decide_eq_false hz]
          refine ifTt rfl ?_
          have below_r := ne_below cr rr hz
          refine ⟨_, rfl, (by show 3 ≤ sizeLine; decide), fun p2 n2 => ?_⟩
          have keep7 := same_new (o := .tup [.int 1, .int 0, .int 1]) n2
          refine ⟨_, rfl, r, p2, pr, wT 1, minus t (wT v), rfl, at_new (t := wT 1), hr6.same keep7, ro, sz1, szr.mono (by decide), (can_w 1).ne, below_r, fun H8 ph8 sm8 hh8 => ?_⟩
          have cu' := can_over (r := r) (can_w 1).ne below_r
          have ru' := rd_over (can_w 1).ne (rd_w root 1) rr below_r
          have vu' := val_inv cr rr hz
          rw [vr] at vu'
          obtain ⟨n', hn', S'⟩ := S.more hw hge e0 ct' rt' vt' cu' ru' vu'
          have sm78 := keep7.trans sm8
          exact ⟨_, rfl, n', pl, ws ++ [v], _, some _, .ref ph8, _, _, _, hn', rfl, smE.trans sm78, sm78 _ _ hlE, hl6.same sm78, (fun e => by cases e), (fun _ e => by cases e; exact ⟨ph8, rfl, hh8⟩), S'⟩
end
end K5W

namespace K5W
open PySem PySem.Spec PyProof.Rows L2 K5
theorem scCell : FnScope ["_law_script", "_law_k"] ["_law_script", "_law_k"] (defScope sCell) := ⟨rfl, rfl, rfl, by decide +kernel, rfl, by decide +kernel, by decide +kernel⟩
theorem scBox : FnScope ["_law_script", "_law_k", "_law_cell_here", "_law_number", "_law_mixed", "_law_j"] ["_law_script", "_law_k"] (defScope sBox) := ⟨rfl, rfl, rfl, by decide +kernel, rfl, by decide +kernel, by decide +kernel⟩
theorem scTake : FnScope ["_law_box_here", "_law_many", "_law_digit"] ["_law_box_here", "_law_many"] (defScope sTake) := ⟨rfl, rfl, rfl, by decide +kernel, rfl, by decide +kernel, by decide +kernel⟩
theorem scLow : FnScope ["_law_a", "_law_b", "_law_c", "_law_one", "_law_other"] ["_law_a", "_law_b", "_law_c"] (defScope sLow) := ⟨rfl, rfl, rfl, by decide +kernel, rfl, by decide +kernel, by decide +kernel⟩
theorem scLRoot : FnScope ["_law_box_here"] ["_law_box_here"] (defScope sLRoot) := ⟨rfl, rfl, rfl, by decide +kernel, rfl, by decide +kernel, by decide +kernel⟩
theorem scAny : FnScope ["_law_box_here", "_law_root_here", "_law_b"] ["_law_box_here", "_law_root_here"] (defScope sAny) := ⟨rfl, rfl, rfl, by decide +kernel, rfl, by decide +kernel, by decide +kernel⟩
/-- all but what stands at b is as it was -/
def But (b : Addr) (H H' : Hp) : Prop := ∀ x o, H x = some o → x ≠ b → H' x = some o
theorem But.trans {b : Addr} {H H1 H2 : Hp} (h : But b H H1) (h' : But b H1 H2) : But b H H2 := fun x o e ne => h' x o (h x o e ne) ne
theorem But.of {b : Addr} {H H' : Hp} (h : Same H H') : But b H H' := fun x o e _ => h x o e
theorem But.upd {b : Addr} {H : Hp} {o : HO} : But b H (upd H b o) := fun x o e ne => (upd_ne ne).trans e
theorem But.tup {K : PySem.W.Frag} {b p : Addr} {H H' : Hp} {t : Tr} {xs : List V} (h : But b H H') (hb : H b = some (.lst xs)) (hp : At K H p t) : At K H' p t := by
  rcases hp with (e | ⟨o, e⟩) | e
  · exact .inl (.inl (h _ _ e (ne_of e hb (fun z => by cases z))))
  · exact .inl (.inr ⟨o, h _ _ e (ne_of e hb (fun z => by cases z))⟩)
  · exact .inr e
theorem But.seq {K : PySem.W.Frag} {b p : Addr} {H H' : Hp} {xs : List V} (h : But b H H') (ne : p ≠ b) (hp : SqL K H p xs) : SqL K H' p xs := by
  rcases hp with (e | ⟨o, e⟩) | e
  · exact .inl (.inl (h _ _ e ne))
  · exact .inl (.inr ⟨o, h _ _ e ne⟩)
  · exact .inr e
section
variable {P : Program} {w : World} {K : PySem.W.Frag} {mg : Str → Option Value} {base : Heap}
/-! ### _law_cell -/
def spCell (K : PySem.W.Frag) : Sp := fun vs H Q _ => ∃ (a : Addr) (ns : List Int) (k : Nat), vs = [.ref a, .int k] ∧ SqL K H a (ns.map V.int) ∧ k ≤ 1000 ∧ ∀ i : Int, Q (.int i) H
theorem ok_cell {f : Addr} {fd : FuncData} {k : Nat} (T : Txt K mg "_law_cell" sCell ["_law_script", "_law_k"] f fd) (ml : mg "len" = none) : FnOk P w K mg base CX0 (k + 1) f fd ["_law_script", "_law_k"] (spCell K) := by
  refine T.F.ok scCell (fun vs H Q E h => ?_) (fun cdv A outer s H vs Q E hr h => ?_)
  · obtain ⟨a, ns, j, rfl, _⟩ := h
    rfl
  · obtain ⟨a, ns, j, rfl, hs, hj, ans⟩ := h
    refine ⟨_, pss_cons (ps_if (pt_cmpR op_lt (pv 1) (pe_callB call_len_seq (by rfl) ml PySem.boot_len (pa_cons (pv 0) pa_nil)) (nomark _)) (pss_one (ps_ret (pe_ix ix_list (pv 0) (pv 1) (fun _ _ => rfl)))) pss_nil)
      (pss_one (ps_ret (pe_op op_add (pe_op op_mul pe_int (pv 1)) pe_int))), ?_⟩
    refine ⟨_, rfl, .ref a, rfl, a, _, rfl, .inl hs, _, _, rfl, rfl, _, rfl, ite3 (fun h => ?_) (fun h => ?_)⟩
    · rw [List.length_map] at h
      have hj' : j < ns.length := by omega
      have g : (ns.map V.int)[j]? = some (.int ns[j]) := by
        rw [List.getElem?_map, List.getElem?_eq_getElem hj']
        rfl
      exact ⟨.ref a, rfl, _, rfl, a, _, _, _, rfl, rfl, hs, atI_nat g, ans _⟩
    · exact ⟨_, rfl, _, _, rfl, rfl, .inl ⟨by decide, by decide⟩, _, _, rfl, rfl, ans _⟩
/-! ### _law_box -/
def spBox (K : PySem.W.Frag) : Sp := fun vs H Q _ => ∃ (a : Addr) (ns : List Int) (k : Nat), vs = [.ref a, .int k] ∧ SqL K H a (ns.map V.int) ∧ k ≤ 1000 ∧ ∀ (l : Addr) (n : Int), H l = none → Q (.ref l) (upd H l (.lst [.int n]))
theorem ok_box {f f1 : Addr} {fd fd1 : FuncData} {k : Nat} (T : Txt K mg "_law_box" sBox ["_law_script", "_law_k"] f fd) (T1 : Txt K mg "_law_cell" sCell ["_law_script", "_law_k"] f1 fd1) (G : FnOk P w K mg base CX0 k f1 fd1 ["_law_script", "_law_k"] (spCell K)) (mr : mg "range" = none) :
    FnOk P w K mg base CX0 (k + 1) f fd ["_law_script", "_law_k"] (spBox K) := by
  refine T.F.ok scBox (fun vs H Q E h => ?_) (fun cdv A outer s H vs Q E hr h => ?_)
  · obtain ⟨a, ns, j, rfl, _⟩ := h
    rfl
  · obtain ⟨a, ns, j, rfl, hs, hj, ans⟩ := h
    have nd := scBox.nd
    refine ⟨_, pss_cons (ps_set (i := 2) nd rfl (.inl rfl) (pe_call G hr (by rfl) T1.m T1.F.kp T1.b .nil pass0 (pa_cons (pv 0) (pa_cons (pv 1) pa_nil))))
      (pss_cons (ps_if (pt_cmpR op_eq (pe_op op_mod (pv 2) pe_int) pe_int (nomark _)) (pss_one (ps_ret (pe_lst (pa_cons (pe_op op_fdiv (pv 2) pe_int) pa_nil)))) pss_nil)
      (pss_cons (ps_set (i := 3) nd rfl (.inl rfl) pe_int)
      (pss_cons (ps_set (i := 4) nd rfl (.inl rfl) (pe_op op_mod (pv 2) pe_int))
      (pss_cons (ps_for PassesOwn.never rfl (pi_range1 (by rfl) mr (pa_cons pe_int pa_nil)) (pg_name (i := 5) nd rfl (.inl rfl))
        (pss_cons (ps_set (i := 4) nd rfl (.inl rfl) (pe_op op_mod (pe_op op_add (pe_op op_add (pe_op op_add (pe_op op_mul (pv 4) pe_int) (pe_op op_mul (pe_op op_mul pe_int (pv 5)) (pv 5))) (pe_op op_mul pe_int (pv 1))) pe_int) pe_int))
        (pss_one (ps_set (i := 3) nd rfl (.inl rfl) (pe_op op_add (pe_op op_mul (pv 3) pe_int) (pv 4))))))
      (pss_one (ps_ret (pe_lst (pa_cons (pv 3) pa_nil)))))))), ?_⟩
    refine ⟨_, rfl, _, rfl, a, ns, j, rfl, hs, hj, fun c => ?_⟩
    refine ⟨_, rfl, c, 2, rfl, rfl, by show (0 : Int) < 2; decide, rfl, _, rfl, ite3 (fun _ => ?_) (fun _ => ?_)⟩
    · exact ⟨_, rfl, c, 2, rfl, rfl, ⟨by decide, by decide⟩, (by show 1 ≤ sizeLine; decide), fun l nl => ans l _ nl⟩
    · refine ⟨_, rfl, c, 2147483647, rfl, rfl, by show (0 : Int) < 2147483647; decide, ?_⟩
      refine ⟨24, rfl, by decide, by decide, for_range (lo := 0) (n := 24) (fun i σ H' => ∃ (n x : Int) (v : Option V), σ = [some (.ref a), some (.int j), some (.int c), some (.int n), some (.int x), v] ∧ H' = H) ?_ ?_ ?_⟩
      · exact ⟨_, _, _, rfl, rfl⟩
      · intro i σ H' hi hP
        obtain ⟨n, x, v, rfl, rfl⟩ := hP
        have hi' : (i : Int) < 24 := by omega
        refine ⟨_, rfl, x, 48271, rfl, rfl, .inr ⟨by decide, by decide⟩, _, rfl, 7, _, rfl, rfl, .inl ⟨by decide, by decide⟩, _, rfl, _, _, rfl, rfl, .inr ⟨by omega, by omega⟩, _, _, rfl, rfl, _, rfl, 11, _, rfl, rfl, .inl ⟨by decide, by decide⟩, _, _, rfl, rfl, _, 1, rfl, rfl, _, 2147483647, rfl, rfl, by show (0 : Int) < 2147483647; decide, ?_⟩
        refine ⟨_, rfl, n, 2147483647, rfl, rfl, .inr ⟨by decide, by decide⟩, _, rfl, _, _, rfl, rfl, ?_⟩
        exact ⟨_, _, _, rfl, rfl⟩
      · intro σ H' hP
        obtain ⟨n, x, v, rfl, rfl⟩ := hP
        exact ⟨_, rfl, (by show 1 ≤ sizeLine; decide), fun l nl => ans l _ nl⟩
/-! ### _law_take -/
def spTake : Sp := fun vs H Q _ => ∃ (b : Addr) (n m : Int), vs = [.ref b, .int m] ∧ H b = some (.lst [.int n]) ∧ 0 < m ∧ m < 1000 ∧ Q (.int (n % m)) (upd H b (.lst [.int (n / m)]))
theorem ok_take {f : Addr} {fd : FuncData} {k : Nat} (T : Txt K mg "_law_take" sTake ["_law_box_here", "_law_many"] f fd) : FnOk P w K mg base CX0 (k + 1) f fd ["_law_box_here", "_law_many"] spTake := by
  refine T.F.ok scTake (fun vs H Q E h => ?_) (fun cdv A outer s H vs Q E hr h => ?_)
  · obtain ⟨b, n, m, rfl, _⟩ := h
    rfl
  · obtain ⟨b, n, m, rfl, hb, h0, h1, ans⟩ := h
    have nd := scTake.nd
    refine ⟨_, pss_cons (ps_set (i := 2) nd rfl (.inl rfl) (pe_op op_mod (pe_ix ix_list (pv 0) pe_int (fun _ _ => rfl)) (pv 1)))
      (pss_cons (ps_asg (pe_op op_fdiv (pe_ix ix_list (pv 0) pe_int (fun _ _ => rfl)) (pv 1)) (pg_sub (pv 0) pe_int set_list))
      (pss_one (ps_ret (pv 2)))), ?_⟩
    refine ⟨.ref b, rfl, b, _, 0, .int n, rfl, rfl, SqL.of hb, atI_nat (j := 0) rfl, .int m, rfl, n, m, rfl, rfl, h0, ?_⟩
    refine ⟨.ref b, rfl, b, _, 0, .int n, rfl, rfl, SqL.of hb, atI_nat (j := 0) rfl, .int m, rfl, n, m, rfl, rfl, ⟨h0, by omega⟩, ?_⟩
    exact ⟨.ref b, rfl, b, _, 0, 0, rfl, rfl, hb, rfl, _, rfl, ans⟩
/-! ### _law_low -/
def spLowL (K : PySem.W.Frag) : Sp := fun vs H Q _ => ∃ a b c : Int, vs = [.int a, .int b, .int c] ∧ 0 < c ∧ c ≤ 12 ∧ ∀ H' p, Same H H' → At K H' p (low a b c) → Q (.ref p) H'
theorem gcd_turnE {x y : Int} (h : 0 < y) : Int.gcd y (x % y) = Int.gcd x y := by
  have := gcd_turn x y
  rwa [Int.fmod_eq_emod_of_nonneg x (by omega)] at this
theorem gcd_nat (a b : Int) : Int.gcd (a.natAbs : Int) (b.natAbs : Int) = Int.gcd a b := by
  unfold Int.gcd
  rw [Int.natAbs_natCast, Int.natAbs_natCast]
theorem abs_if (a : Int) : (if a < 0 then -a else a) = (a.natAbs : Int) := by split <;> omega
theorem ok_lowL {f : Addr} {fd : FuncData} {k : Nat} (T : Txt K mg "_law_low" sLow ["_law_a", "_law_b", "_law_c"] f fd) (ma : mg "abs" = none) : FnOk P w K mg base CX0 (k + 1) f fd ["_law_a", "_law_b", "_law_c"] (spLowL K) := by
  refine T.F.ok scLow (fun vs H Q E h => ?_) (fun cdv A outer s H vs Q E hr h => ?_)
  · obtain ⟨a, b, c, rfl, _⟩ := h
    rfl
  · obtain ⟨a, b, c, rfl, hc, hc', ans⟩ := h
    have nd := scLow.nd
    refine ⟨_, pss_cons (ps_par (i := 3) (j := 4) rfl nd rfl rfl (by decide) rfl rfl (pa_cons (pe_callB call_abs (by rfl) ma (by decide +kernel) (pa_cons (pv 0) pa_nil)) (pa_cons (pe_callB call_abs (by rfl) ma (by decide +kernel) (pa_cons (pv 1) pa_nil)) pa_nil)) (by rfl))
      (pss_cons (ps_while PassesOwn.never (pt_cmpR op_gt (pv 4) pe_int (nomark _)) (pss_one (ps_par (i := 3) (j := 4) rfl nd rfl rfl (by decide) rfl rfl (pa_cons (pv 4) (pa_cons (pe_op op_mod (pv 3) (pv 4)) pa_nil)) (by rfl))))
      (pss_cons (ps_set (i := 4) nd rfl (.inl rfl) (pe_callB call_abs (by rfl) ma (by decide +kernel) (pa_cons (pv 2) pa_nil)))
      (pss_cons (ps_while PassesOwn.never (pt_cmpR op_gt (pv 4) pe_int (nomark _)) (pss_one (ps_par (i := 3) (j := 4) rfl nd rfl rfl (by decide) rfl rfl (pa_cons (pv 4) (pa_cons (pe_op op_mod (pv 3) (pv 4)) pa_nil)) (by rfl))))
      (pss_cons (ps_if (pt_cmpR op_lt (pv 2) pe_int (nomark _)) (pss_one (ps_set (i := 3) nd rfl (.inl rfl) (pe_un un_neg (pv 3)))) pss_nil)
      (pss_one (ps_ret (pe_tup (pa_cons (pe_op op_divC (pv 0) (pv 3)) (pa_cons (pe_op op_divC (pv 1) (pv 3)) (pa_cons (pe_op op_divC (pv 2) (pv 3)) pa_nil)))))))))), ?_⟩
    refine ⟨_, rfl, a, rfl, _, rfl, b, rfl, _, _, rfl, ?_⟩
    rw [abs_if, abs_if]
    refine ⟨fun m σ H' => ∃ x y : Int, σ = [some (.int a), some (.int b), some (.int c), some (.int x), some (.int y)] ∧ 0 ≤ x ∧ 0 ≤ y ∧ Int.gcd x y = Int.gcd a b ∧ m = y.toNat ∧ H' = H, ⟨_, _, _, rfl, by omega, by omega, gcd_nat a b, rfl, rfl⟩, fun m σ H' hW => ?_⟩
    obtain ⟨x, y, rfl, x0, y0, hg, rfl, rfl⟩ := hW
    refine ⟨_, rfl, y, 0, rfl, rfl, _, rfl, ite3 (fun h => ?_) (fun h => ?_)⟩
    · refine ⟨fun σ' H2 => ∃ x' y' : Int, σ' = [some (.int a), some (.int b), some (.int c), some (.int x'), some (.int y')] ∧ 0 ≤ x' ∧ 0 ≤ y' ∧ Int.gcd x' y' = Int.gcd a b ∧ y'.toNat < y.toNat ∧ H2 = H', fun σ' H2 hN => ?_, ?_⟩
      · obtain ⟨x', y', e, h1, h2, h3, h4, h5⟩ := hN
        exact ⟨_, h4, x', y', e, h1, h2, h3, rfl, h5⟩
      · have n1 := Int.emod_nonneg x (show y ≠ 0 by omega)
        have n2 := Int.emod_lt_of_pos x h
        exact ⟨_, rfl, _, rfl, _, rfl, x, y, rfl, rfl, h, _, _, rfl, y, x % y, rfl, y0, n1, (gcd_turnE h).trans hg, by omega, rfl⟩
    · have ey : y = 0 := by omega
      subst ey
      have ex : x = (Int.gcd a b : Nat) := by rw [← hg, Int.gcd_zero_right]; omega
      subst ex
      -- the second loop
      refine ⟨_, rfl, c, rfl, ?_⟩
      rw [abs_if]
      refine ⟨fun m σ H2 => ∃ x y : Int, σ = [some (.int a), some (.int b), some (.int c), some (.int x), some (.int y)] ∧ 0 ≤ x ∧ 0 ≤ y ∧ Int.gcd x y = gcd3 a b c ∧ m = y.toNat ∧ H2 = H', ⟨_, _, _, rfl, by omega, by omega, ?_, rfl, rfl⟩, fun m σ H2 hW => ?_⟩
      · unfold gcd3
        have e := gcd_nat ((Int.gcd a b : Nat) : Int) c
        rw [Int.natAbs_natCast] at e
        exact e
      obtain ⟨x, y, rfl, x0, y0, hg, rfl, rfl⟩ := hW
      refine ⟨_, rfl, y, 0, rfl, rfl, _, rfl, ite3 (fun h => ?_) (fun h => ?_)⟩
      · refine ⟨fun σ' H3 => ∃ x' y' : Int, σ' = [some (.int a), some (.int b), some (.int c), some (.int x'), some (.int y')] ∧ 0 ≤ x' ∧ 0 ≤ y' ∧ Int.gcd x' y' = gcd3 a b c ∧ y'.toNat < y.toNat ∧ H3 = H2, fun σ' H3 hN => ?_, ?_⟩
        · obtain ⟨x', y', e, h1, h2, h3, h4, h5⟩ := hN
          exact ⟨_, h4, x', y', e, h1, h2, h3, rfl, h5⟩
        · have n1 := Int.emod_nonneg x (show y ≠ 0 by omega)
          have n2 := Int.emod_lt_of_pos x h
          exact ⟨_, rfl, _, rfl, _, rfl, x, y, rfl, rfl, h, _, _, rfl, y, x % y, rfl, y0, n1, (gcd_turnE h).trans hg, by omega, rfl⟩
      · have ey : y = 0 := by omega
        subst ey
        have ex : x = (gcd3 a b c : Nat) := by rw [← hg, Int.gcd_zero_right]; omega
        subst ex
        have eb : ((gcd3 a b c : Nat) : Int) = byOf a b c := by unfold byOf; rw [if_neg (by omega)]
        have hS := (by_small (a := a) (b := b) (c := c) (by omega) (Nat.lt_of_le_of_lt (show c.natAbs ≤ 12 by omega) (Nat.lt_of_lt_of_le (show 12 < 2 ^ 4 by decide) (Nat.pow_le_pow_right (by decide) (by decide))))).2
        refine ⟨_, rfl, c, 0, rfl, rfl, _, rfl, ifFf (decide_eq_false (by omega)) ?_⟩
        rw [eb]
        exact ⟨_, rfl, _, rfl, _, _, rfl, rfl, hS _, _, rfl, _, rfl, _, _, rfl, rfl, hS _, _, rfl, _, rfl, _, _, rfl, rfl, hS _, (by show 3 ≤ sizeLine; decide), fun p np => ans _ p (same_new np) (at_new (t := low a b c))⟩
/-! ### _law_root -/
def IsRoot (r : Int) : Prop := r = 0 ∨ r = 2 ∨ r = 3 ∨ r = 5 ∨ r = 6 ∨ r = 7 ∨ r = 13
def spLRoot : Sp := fun vs H Q _ => ∃ (b : Addr) (n : Int), vs = [.ref b] ∧ H b = some (.lst [.int n]) ∧ ∀ (H' : Hp) (r m : Int), IsRoot r → But b H H' → H' b = some (.lst [.int m]) → Q (.int r) H'
theorem roots_at {n : Int} : ∃ r, IsRoot r ∧ atI [V.int 0, V.int 0, V.int 2, V.int 3, V.int 5, V.int 6, V.int 7, V.int 13] (n % 8) = some (V.int r) := by
  have h1 := Int.emod_nonneg n (show (8 : Int) ≠ 0 by decide)
  have h2 := Int.emod_lt_of_pos n (show (0 : Int) < 8 by decide)
  generalize n % 8 = i at *
  have hi : i = 0 ∨ i = 1 ∨ i = 2 ∨ i = 3 ∨ i = 4 ∨ i = 5 ∨ i = 6 ∨ i = 7 := by omega
  rcases hi with rfl | rfl | rfl | rfl | rfl | rfl | rfl | rfl
  · exact ⟨0, .inl rfl, atI_nat (j := 0) rfl⟩
  · exact ⟨0, .inl rfl, atI_nat (j := 1) rfl⟩
  · exact ⟨2, .inr (.inl rfl), atI_nat (j := 2) rfl⟩
  · exact ⟨3, .inr (.inr (.inl rfl)), atI_nat (j := 3) rfl⟩
  · exact ⟨5, .inr (.inr (.inr (.inl rfl))), atI_nat (j := 4) rfl⟩
  · exact ⟨6, .inr (.inr (.inr (.inr (.inl rfl)))), atI_nat (j := 5) rfl⟩
  · exact ⟨7, .inr (.inr (.inr (.inr (.inr (.inl rfl))))), atI_nat (j := 6) rfl⟩
  · exact ⟨13, .inr (.inr (.inr (.inr (.inr (.inr rfl))))), atI_nat (j := 7) rfl⟩
theorem ok_lroot {f f1 : Addr} {fd fd1 : FuncData} {k : Nat} (T : Txt K mg "_law_root" sLRoot ["_law_box_here"] f fd) (T1 : Txt K mg "_law_take" sTake ["_law_box_here", "_law_many"] f1 fd1) (G : FnOk P w K mg base CX0 k f1 fd1 ["_law_box_here", "_law_many"] spTake) :
    FnOk P w K mg base CX0 (k + 1) f fd ["_law_box_here"] spLRoot := by
  refine T.F.ok scLRoot (fun vs H Q E h => ?_) (fun cdv A outer s H vs Q E hr h => ?_)
  · obtain ⟨b, n, rfl, _⟩ := h
    rfl
  · obtain ⟨b, n, rfl, hb, ans⟩ := h
    refine ⟨_, pss_one (ps_ret (pe_ix ix_list (pe_lst (pa_cons pe_int (pa_cons pe_int (pa_cons pe_int (pa_cons pe_int (pa_cons pe_int (pa_cons pe_int (pa_cons pe_int (pa_cons pe_int pa_nil)))))))))
      (pe_call G hr (by rfl) T1.m T1.F.kp T1.b .nil pass0 (pa_cons (pv 0) (pa_cons pe_int pa_nil))) (fun _ _ => rfl))), ?_⟩
    refine ⟨(by show 8 ≤ sizeLine; decide), fun l nl => ?_⟩
    have nb : b ≠ l := ne_of_none hb nl
    have sm := same_new (o := .lst [.int 0, .int 0, .int 2, .int 3, .int 5, .int 6, .int 7, .int 13]) nl
    obtain ⟨r, hr, ha⟩ := roots_at (n := n)
    refine ⟨_, rfl, b, n, 8, rfl, sm _ _ hb, by decide, by decide, ?_⟩
    exact ⟨l, _, _, _, rfl, rfl, SqL.of ((upd_ne nb.symm).trans upd_same), ha, ans _ r _ hr ((But.of sm).trans But.upd) upd_same⟩
/-! ### _law_any -/
def spAny (K : PySem.W.Frag) : Sp := fun vs H Q _ => ∃ (b : Addr) (r n : Int), vs = [.ref b, .int r] ∧ H b = some (.lst [.int n]) ∧ IsRoot r ∧ ∀ (H' : Hp) (p : Addr) (t : Tr) (m : Int), Small t → (r = 0 → t.b = 0) → At K H' p t → But b H H' → H' b = some (.lst [.int m]) → Q (.ref p) H'
theorem small_low {a b c : Int} (a1 : -20 ≤ a) (a2 : a ≤ 20) (b1 : -10 ≤ b) (b2 : b ≤ 10) (c1 : 0 < c) (c2 : c ≤ 12) : Small (low a b c) := by
  have l := low_of (a := a) (b := b) (c := c) (by omega)
  have h1 := natAbs_le_mul (x := (low a b c).a) l.ne
  have h2 := natAbs_le_mul (x := (low a b c).b) l.ne
  have h3 := natAbs_le_mul (x := (low a b c).c) l.ne
  rw [← l.ha] at h1
  rw [← l.hb] at h2
  rw [← l.hc] at h3
  exact ⟨l.can, by omega, by omega, by omega, by omega, by omega⟩
theorem ok_any {f f1 f2 : Addr} {fd fd1 fd2 : FuncData} {k : Nat} (T : Txt K mg "_law_any" sAny ["_law_box_here", "_law_root_here"] f fd) (T1 : Txt K mg "_law_take" sTake ["_law_box_here", "_law_many"] f1 fd1) (G : FnOk P w K mg base CX0 k f1 fd1 ["_law_box_here", "_law_many"] spTake)
    (T2 : Txt K mg "_law_low" sLow ["_law_a", "_law_b", "_law_c"] f2 fd2) (G2 : FnOk P w K mg base CX0 k f2 fd2 ["_law_a", "_law_b", "_law_c"] (spLowL K)) (mi : mg "int" = none) :
    FnOk P w K mg base CX0 (k + 1) f fd ["_law_box_here", "_law_root_here"] (spAny K) := by
  refine T.F.ok scAny (fun vs H Q E h => ?_) (fun cdv A outer s H vs Q E hr h => ?_)
  · obtain ⟨b, r, n, rfl, _⟩ := h
    rfl
  · obtain ⟨b, r, n, rfl, hb, hrt, ans⟩ := h
    have nd := scAny.nd
    refine ⟨_, pss_cons (ps_set (i := 2) nd rfl (.inl rfl) (pe_op op_mul (pe_op op_sub (pe_call G hr (by rfl) T1.m T1.F.kp T1.b .nil pass0 (pa_cons (pv 0) (pa_cons pe_int pa_nil))) pe_int)
        (pe_callTy call_int1 (by rfl) mi (by decide +kernel) (pa_cons (pe_cmpR op_gt (pv 1) pe_int (nomark _)) pa_nil))))
      (pss_one (ps_ret (pe_call G2 hr (by rfl) T2.m T2.F.kp T2.b .nil pass0 (pa_cons (pe_op op_sub (pe_call G hr (by rfl) T1.m T1.F.kp T1.b .nil pass0 (pa_cons (pv 0) (pa_cons pe_int pa_nil))) pe_int)
        (pa_cons (pv 2) (pa_cons (pe_op op_add pe_int (pe_call G hr (by rfl) T1.m T1.F.kp T1.b .nil pass0 (pa_cons (pv 0) (pa_cons pe_int pa_nil)))) pa_nil)))))), ?_⟩
    have rng : ∀ (x m : Int), 0 < m → 0 ≤ x % m ∧ x % m < m := fun x m h => ⟨Int.emod_nonneg x (by omega), Int.emod_lt_of_pos x h⟩
    have r1 := rng n 21 (by decide)
    have r2 := rng (n / 21) 41 (by decide)
    have r3 := rng (n / 21 / 41) 12 (by decide)
    refine ⟨_, rfl, b, n, 21, rfl, hb, by decide, by decide, _, 10, rfl, rfl, _, rfl, r, 0, rfl, rfl, .inr ⟨_, rfl, ?_⟩⟩
    obtain ⟨e, he, he1, he0⟩ : ∃ e : Int, e = (if (decide (0 < r)) = true then 1 else 0) ∧ (e = 0 ∨ e = 1) ∧ (r = 0 → e = 0) := by
      refine ⟨_, rfl, ?_, fun h => ?_⟩
      · split
        · exact .inr rfl
        · exact .inl rfl
      · subst h
        rfl
    rw [← he]
    refine ⟨_, _, rfl, rfl, .inl ⟨by omega, by omega⟩, ?_⟩
    refine ⟨_, rfl, b, n / 21, 41, rfl, upd_same, by decide, by decide, _, 20, rfl, rfl, _, rfl, _, rfl, b, n / 21 / 41, 12, rfl, upd_same, by decide, by decide, 1, _, rfl, rfl, ?_⟩
    refine ⟨_, _, _, rfl, by omega, by omega, fun H' p sm ap => ?_⟩
    have hbnd : -10 ≤ (n % 21 - 10) * e ∧ (n % 21 - 10) * e ≤ 10 := by
      rcases he1 with rfl | rfl <;> omega
    refine ans H' p _ _ (small_low (by omega) (by omega) hbnd.1 hbnd.2 (by omega) (by omega)) (fun h => ?_) ap ((But.upd.trans (But.upd.trans But.upd)).trans (But.of sm)) (sm _ _ upd_same)
    rw [he0 h, Int.mul_zero]
    exact low_b0 (by omega)
end
end K5W

namespace K5W
open PySem PySem.Spec PyProof.Rows L2 K5
theorem scOrd : FnScope ["_law_root_here", "_law_one", "_law_other", "_law_third"] ["_law_root_here", "_law_one", "_law_other", "_law_third"] (defScope sOrd) := ⟨rfl, rfl, rfl, by decide +kernel, rfl, by decide +kernel, by decide +kernel⟩
theorem scReck : FnScope ["_law_root_here", "_law_one", "_law_other", "_law_third", "_law_both"] ["_law_root_here", "_law_one", "_law_other", "_law_third"] (defScope sReck) := ⟨rfl, rfl, rfl, by decide +kernel, rfl, by decide +kernel, by decide +kernel⟩
theorem small_sz {t : Tr} (h : Small t) : Sz 5 t := sz_of (F := 10) (M := 20) (n := 5) (by have := h.b1; omega) (by have := h.b2; omega) (by have := h.c2; omega) h.can.1 (by have := h.a1; omega) (by have := h.a2; omega) (by decide) (by decide)
theorem szw0 : Sz 1 (wT 0) := sz_w (by decide) (by decide)
theorem szw1 : Sz 1 (wT 1) := sz_w (by decide) (by decide)
theorem new_w {K : PySem.W.Frag} {H : Hp} {p : Addr} (i : Int) (n : H p = none) : Same H (upd H p (.tup [.int i, .int 0, .int 1])) ∧ At K (upd H p (.tup [.int i, .int 0, .int 1])) p (wT i) := ⟨same_new n, at_new (t := wT i)⟩
/-- three numbers of one root -/
structure Three (r d : Int) (x y z : Tr) : Prop where
  s1 : Small x
  s2 : Small y
  s3 : Small z
  rx : RD r d x
  ry : RD r d y
  rz : RD r d z
section
variable {P : Program} {w : World} {K : PySem.W.Frag} {mg : Str → Option Value} {base : Heap}
def sp3 (K : PySem.W.Frag) : Sp := fun vs H Q _ => ∃ (r d : Int) (_ : Irr d) (p q u : Addr) (x y z : Tr), vs = [.int r, .ref p, .ref q, .ref u] ∧ At K H p x ∧ At K H q y ∧ At K H u z ∧ RtOk r ∧ Three r d x y z ∧ ∀ H', Same H H' → Q (.bl true) H'
theorem ok_ord {f fL fP fT fO fM : Addr} {fd fdL fdP fdT fdO fdM : FuncData} {k : Nat}
    (TL : Txt K mg "less" sLess ["root", "one", "other"] fL fdL) (GL : FnOk P w K mg base CX0 k fL fdL ["root", "one", "other"] (spLess K))
    (TP : Txt K mg "plus" sPlus ["root", "one", "other"] fP fdP) (GP : FnOk P w K mg base CX0 k fP fdP ["root", "one", "other"] (spPlus K))
    (TT : Txt K mg "times" sTimes ["root", "one", "other"] fT fdT) (GT : FnOk P w K mg base CX0 k fT fdT ["root", "one", "other"] (spTimes K))
    (TO : Txt K mg "over" sOver ["root", "one", "other"] fO fdO) (GO : FnOk P w K mg base CX0 k fO fdO ["root", "one", "other"] (spOver K))
    (TM : Txt K mg "minus" sMinus ["root", "one", "other"] fM fdM) (GM : FnOk P w K mg base CX0 k fM fdM ["root", "one", "other"] (spMinus K))
    (T : Txt K mg "_law_ordered" sOrd ["_law_root_here", "_law_one", "_law_other", "_law_third"] f fd) : FnOk P w K mg base CX0 (k + 1) f fd ["_law_root_here", "_law_one", "_law_other", "_law_third"] (sp3 K) := by
  refine T.F.ok scOrd (fun vs H Q E h => ?_) (fun cdv A outer s H vs Q E hr h => ?_)
  · obtain ⟨r, d, _, p, q, u, x, y, z, rfl, _⟩ := h
    rfl
  · obtain ⟨r, d, irr, p, q, u, x, y, z, rfl, hx, hy, hz, ro, th, ans⟩ := h
    have nd := scOrd.nd
    have sx := small_sz th.s1
    have sy := small_sz th.s2
    have sz := small_sz th.s3
    have Cx := th.s1.can
    have Cy := th.s2.can
    have Cz := th.s3.can
    have cx := Cx.ne
    have cy := Cy.ne
    have cz := Cz.ne
    -- from the third test on
    obtain ⟨t2, h2, q2⟩ : ∃ t, PSs (cxOf CX0 P w K mg base ["_law_root_here", "_law_one", "_law_other", "_law_third"] "_law_ordered" (defScope sOrd) f cdv A outer s H E).nox ((defBody sOrd).drop 2) t ∧ ∀ H', Same H H' → t { nx := fun _ H' => Q .non H', rt := Q } [some (.int r), some (.ref p), some (.ref q), some (.ref u)] H' := by
      refine ⟨_, pss_cons (ps_if (pt_cmpR op_ne (pe_call GL hr (by rfl) TL.m TL.F.kp TL.b .nil pass0 (pa_cons (pv 0) (pa_cons (pe_call GP hr (by rfl) TP.m TP.F.kp TP.b .nil pass0 (pa_cons (pv 0) (pa_cons (pv 1) (pa_cons (pv 3) pa_nil)))) (pa_cons (pe_call GP hr (by rfl) TP.m TP.F.kp TP.b .nil pass0 (pa_cons (pv 0) (pa_cons (pv 2) (pa_cons (pv 3) pa_nil)))) pa_nil)))) (pe_call GL hr (by rfl) TL.m TL.F.kp TL.b .nil pass0 (pa_cons (pv 0) (pa_cons (pv 1) (pa_cons (pv 2) pa_nil)))) (nomark _)) (pss_one (ps_ret pe_bl)) pss_nil)
        (pss_cons (ps_if (pt_val (pe_call GL hr (by rfl) TL.m TL.F.kp TL.b .nil pass0 (pa_cons (pv 0) (pa_cons (pe_tup (pa_cons pe_int (pa_cons pe_int (pa_cons pe_int pa_nil)))) (pa_cons (pv 3) pa_nil))))) (pss_one (ps_ret (pe_cmpR op_eq (pe_call GL hr (by rfl) TL.m TL.F.kp TL.b .nil pass0 (pa_cons (pv 0) (pa_cons (pe_call GT hr (by rfl) TT.m TT.F.kp TT.b .nil pass0 (pa_cons (pv 0) (pa_cons (pv 1) (pa_cons (pv 3) pa_nil)))) (pa_cons (pe_call GT hr (by rfl) TT.m TT.F.kp TT.b .nil pass0 (pa_cons (pv 0) (pa_cons (pv 2) (pa_cons (pv 3) pa_nil)))) pa_nil)))) (pe_call GL hr (by rfl) TL.m TL.F.kp TL.b .nil pass0 (pa_cons (pv 0) (pa_cons (pv 1) (pa_cons (pv 2) pa_nil)))) (nomark _)))) pss_nil)
        (pss_cons (ps_if (pt_cmpR (op_neD hr.units) (pv 3) (pe_tup (pa_cons pe_int (pa_cons pe_int (pa_cons pe_int pa_nil)))) (nomark _)) (pss_one (ps_ret (pe_cmpR op_eq (pe_call GL hr (by rfl) TL.m TL.F.kp TL.b .nil pass0 (pa_cons (pv 0) (pa_cons (pe_call GT hr (by rfl) TT.m TT.F.kp TT.b .nil pass0 (pa_cons (pv 0) (pa_cons (pv 1) (pa_cons (pv 3) pa_nil)))) (pa_cons (pe_call GT hr (by rfl) TT.m TT.F.kp TT.b .nil pass0 (pa_cons (pv 0) (pa_cons (pv 2) (pa_cons (pv 3) pa_nil)))) pa_nil)))) (pe_call GL hr (by rfl) TL.m TL.F.kp TL.b .nil pass0 (pa_cons (pv 0) (pa_cons (pv 2) (pa_cons (pv 1) pa_nil)))) (nomark _)))) pss_nil)
        (pss_one (ps_ret pe_bl)))), ?_⟩
      intro H' SM
      replace hx := hx.same SM
      replace hy := hy.same SM
      replace hz := hz.same SM
      refine ⟨_, rfl, _, rfl, _, rfl, _, rfl, r, p, u, x, z, rfl, hx, hz, sx.mono (by decide), sz.mono (by decide), cx, cz, fun Ha1 za1 ma1 ba1 => ?_⟩
      replace hx := hx.same ma1
      replace hy := hy.same ma1
      replace hz := hz.same ma1
      replace SM := SM.trans ma1
      have sa1 := sz_plus cx cz sx sz
      have ca1 := (can_plus cx cz).ne
      refine ⟨_, rfl, _, rfl, _, rfl, r, q, u, y, z, rfl, hy, hz, sy.mono (by decide), sz.mono (by decide), cy, cz, fun Ha2 za2 ma2 ba2 => ?_⟩
      replace hx := hx.same ma2
      replace hy := hy.same ma2
      replace hz := hz.same ma2
      replace ba1 := ba1.same ma2
      replace SM := SM.trans ma2
      have sa2 := sz_plus cy cz sy sz
      have ca2 := (can_plus cy cz).ne
      refine ⟨r, za1, za2, (plus x z), (plus y z), rfl, ba1, ba2, ro, sa1.mono (by decide), sa2.mono (by decide), ca1, ca2, fun Ha3 ma3 => ?_⟩
      replace hx := hx.same ma3
      replace hy := hy.same ma3
      replace hz := hz.same ma3
      replace ba1 := ba1.same ma3
      replace ba2 := ba2.same ma3
      replace SM := SM.trans ma3
      refine ⟨_, rfl, _, rfl, _, rfl, r, p, q, x, y, rfl, hx, hy, ro, sx.mono (by decide), sy.mono (by decide), cx, cy, fun Ha4 ma4 => ?_⟩
      replace hx := hx.same ma4
      replace hy := hy.same ma4
      replace hz := hz.same ma4
      replace ba1 := ba1.same ma4
      replace ba2 := ba2.same ma4
      replace SM := SM.trans ma4
      refine ⟨rfl, _, rfl, ifFf ?_ ?_⟩
      · rw [law_o4 Cx Cy Cz th.rx th.ry th.rz, decide_eq_true rfl]
        rfl
      refine ⟨_, rfl, (by show 3 ≤ sizeLine; decide), fun zb1 nb1 => ?_⟩
      obtain ⟨mb1, bb1⟩ := new_w (K := K) 0 nb1
      replace hx := hx.same mb1
      replace hy := hy.same mb1
      replace hz := hz.same mb1
      replace ba1 := ba1.same mb1
      replace ba2 := ba2.same mb1
      replace SM := SM.trans mb1
      refine ⟨_, rfl, r, zb1, u, (wT 0), z, rfl, bb1, hz, ro, szw0.mono (by decide), sz.mono (by decide), (can_w 0).ne, cz, fun Hb2 mb2 => ?_⟩
      replace hx := hx.same mb2
      replace hy := hy.same mb2
      replace hz := hz.same mb2
      replace ba1 := ba1.same mb2
      replace ba2 := ba2.same mb2
      replace bb1 := bb1.same mb2
      replace SM := SM.trans mb2
      refine ⟨_, rfl, ?_⟩
      cases e0 : less r (wT 0) z with
      | true =>
        refine ifTt rfl ?_
        refine ⟨_, rfl, _, rfl, _, rfl, _, rfl, r, p, u, x, z, rfl, hx, hz, ro, sx.mono (by decide), sz.mono (by decide), cx, cz, fun Hc1 zc1 mc1 bc1 => ?_⟩
        replace hx := hx.same mc1
        replace hy := hy.same mc1
        replace hz := hz.same mc1
        replace ba1 := ba1.same mc1
        replace ba2 := ba2.same mc1
        replace bb1 := bb1.same mc1
        replace SM := SM.trans mc1
        have sc1 := sz_times ro cx cz sx sz
        have cc1 := (can_times (r := r) cx cz).ne
        refine ⟨_, rfl, _, rfl, _, rfl, r, q, u, y, z, rfl, hy, hz, ro, sy.mono (by decide), sz.mono (by decide), cy, cz, fun Hc2 zc2 mc2 bc2 => ?_⟩
        replace hx := hx.same mc2
        replace hy := hy.same mc2
        replace hz := hz.same mc2
        replace ba1 := ba1.same mc2
        replace ba2 := ba2.same mc2
        replace bb1 := bb1.same mc2
        replace bc1 := bc1.same mc2
        replace SM := SM.trans mc2
        have sc2 := sz_times ro cy cz sy sz
        have cc2 := (can_times (r := r) cy cz).ne
        refine ⟨r, zc1, zc2, (times r x z), (times r y z), rfl, bc1, bc2, ro, sc1.mono (by decide), sc2.mono (by decide), cc1, cc2, fun Hc3 mc3 => ?_⟩
        replace hx := hx.same mc3
        replace hy := hy.same mc3
        replace hz := hz.same mc3
        replace ba1 := ba1.same mc3
        replace ba2 := ba2.same mc3
        replace bb1 := bb1.same mc3
        replace bc1 := bc1.same mc3
        replace bc2 := bc2.same mc3
        replace SM := SM.trans mc3
        refine ⟨_, rfl, _, rfl, _, rfl, r, p, q, x, y, rfl, hx, hy, ro, sx.mono (by decide), sy.mono (by decide), cx, cy, fun Hc4 mc4 => ?_⟩
        replace hx := hx.same mc4
        replace hy := hy.same mc4
        replace hz := hz.same mc4
        replace ba1 := ba1.same mc4
        replace ba2 := ba2.same mc4
        replace bb1 := bb1.same mc4
        replace bc1 := bc1.same mc4
        replace bc2 := bc2.same mc4
        replace SM := SM.trans mc4
        refine ⟨rfl, ?_⟩
        rw [law_o5 Cx Cy Cz th.rx th.ry th.rz e0, decide_eq_true rfl]
        exact ans _ SM
      | false =>
        refine ifFf rfl ?_
        refine ⟨_, rfl, (by show 3 ≤ sizeLine; decide), fun zn nn => ?_⟩
        obtain ⟨mn, an⟩ := new_w (K := K) 0 nn
        replace hx := hx.same mn
        replace hy := hy.same mn
        replace hz := hz.same mn
        replace ba1 := ba1.same mn
        replace ba2 := ba2.same mn
        replace bb1 := bb1.same mn
        replace SM := SM.trans mn
        refine ⟨dT z, dT (wT 0), hz.dp, an.dp, shaped_tr _, shaped_tr _, _, rfl, ?_⟩
        rw [eqv_tr]
        by_cases hz0 : z = wT 0
        · rw [decide_eq_true hz0]
          exact ifFf rfl (ans _ SM)
        · rw [decide_eq_false hz0]
          refine ifTt rfl ?_
          refine ⟨_, rfl, _, rfl, _, rfl, _, rfl, r, p, u, x, z, rfl, hx, hz, ro, sx.mono (by decide), sz.mono (by decide), cx, cz, fun Hd1 zd1 md1 bd1 => ?_⟩
          replace hx := hx.same md1
          replace hy := hy.same md1
          replace hz := hz.same md1
          replace SM := SM.trans md1
          have sd1 := sz_times ro cx cz sx sz
          have cd1 := (can_times (r := r) cx cz).ne
          refine ⟨_, rfl, _, rfl, _, rfl, r, q, u, y, z, rfl, hy, hz, ro, sy.mono (by decide), sz.mono (by decide), cy, cz, fun Hd2 zd2 md2 bd2 => ?_⟩
          replace hx := hx.same md2
          replace hy := hy.same md2
          replace hz := hz.same md2
          replace bd1 := bd1.same md2
          replace SM := SM.trans md2
          have sd2 := sz_times ro cy cz sy sz
          have cd2 := (can_times (r := r) cy cz).ne
          refine ⟨r, zd1, zd2, (times r x z), (times r y z), rfl, bd1, bd2, ro, sd1.mono (by decide), sd2.mono (by decide), cd1, cd2, fun Hd3 md3 => ?_⟩
          replace hx := hx.same md3
          replace hy := hy.same md3
          replace hz := hz.same md3
          replace bd1 := bd1.same md3
          replace bd2 := bd2.same md3
          replace SM := SM.trans md3
          refine ⟨_, rfl, _, rfl, _, rfl, r, q, p, y, x, rfl, hy, hx, ro, sy.mono (by decide), sx.mono (by decide), cy, cx, fun Hd4 md4 => ?_⟩
          replace hx := hx.same md4
          replace hy := hy.same md4
          replace hz := hz.same md4
          replace bd1 := bd1.same md4
          replace bd2 := bd2.same md4
          replace SM := SM.trans md4
          refine ⟨rfl, ?_⟩
          rw [law_o6 Cx Cy Cz th.rx th.ry th.rz e0 hz0, decide_eq_true rfl]
          exact ans _ SM
    -- from the second test on
    obtain ⟨t1, h1, q1⟩ : ∃ t, PSs (cxOf CX0 P w K mg base ["_law_root_here", "_law_one", "_law_other", "_law_third"] "_law_ordered" (defScope sOrd) f cdv A outer s H E).nox ((defBody sOrd).drop 1) t ∧ ∀ H', Same H H' → t { nx := fun _ H' => Q .non H', rt := Q } [some (.int r), some (.ref p), some (.ref q), some (.ref u)] H' := by
      refine ⟨_, pss_cons (ps_if (PW.pt (pw_and (pt_val (pe_call GL hr (by rfl) TL.m TL.F.kp TL.b .nil pass0 (pa_cons (pv 0) (pa_cons (pv 1) (pa_cons (pv 2) pa_nil))))) (pw_and (pt_val (pe_call GL hr (by rfl) TL.m TL.F.kp TL.b .nil pass0 (pa_cons (pv 0) (pa_cons (pv 2) (pa_cons (pv 3) pa_nil))))) (pw_and1 (pt_not (pt_val (pe_call GL hr (by rfl) TL.m TL.F.kp TL.b .nil pass0 (pa_cons (pv 0) (pa_cons (pv 1) (pa_cons (pv 3) pa_nil)))))))))) (pss_one (ps_ret pe_bl)) pss_nil) h2, ?_⟩
      intro H' SM
      replace hx := hx.same SM
      replace hy := hy.same SM
      replace hz := hz.same SM
      refine ⟨_, rfl, _, rfl, _, rfl, r, p, q, x, y, rfl, hx, hy, ro, sx.mono (by decide), sy.mono (by decide), cx, cy, fun Ha1 ma1 => ?_⟩
      replace hx := hx.same ma1
      replace hy := hy.same ma1
      replace hz := hz.same ma1
      replace SM := SM.trans ma1
      refine ⟨_, rfl, ?_⟩
      cases e1 : less r x y with
      | false => exact ifFf rfl (ifFf rfl (q2 _ SM))
      | true =>
        refine ifTt rfl ?_
        refine ⟨_, rfl, _, rfl, _, rfl, r, q, u, y, z, rfl, hy, hz, ro, sy.mono (by decide), sz.mono (by decide), cy, cz, fun Hb1 mb1 => ?_⟩
        replace hx := hx.same mb1
        replace hy := hy.same mb1
        replace hz := hz.same mb1
        replace SM := SM.trans mb1
        refine ⟨_, rfl, ?_⟩
        cases e2 : less r y z with
        | false => exact ifFf rfl (ifFf rfl (q2 _ SM))
        | true =>
          refine ifTt rfl ?_
          refine ⟨_, rfl, _, rfl, _, rfl, r, p, u, x, z, rfl, hx, hz, ro, sx.mono (by decide), sz.mono (by decide), cx, cz, fun Hc1 mc1 => ?_⟩
          replace hx := hx.same mc1
          replace hy := hy.same mc1
          replace hz := hz.same mc1
          replace SM := SM.trans mc1
          refine ⟨_, rfl, ?_⟩
          rw [law_o3 Cx Cy Cz th.rx th.ry th.rz e1 e2]
          exact ifFf rfl (q2 _ SM)
    have last : ∀ H', Same H H' → ∃ v, v = V.bl (less r x x) ∧ less r x x = false := fun _ _ => ⟨_, rfl, law_o2 Cx th.rx⟩
    refine ⟨_, pss_cons (ps_if (PW.pt (pw_or (PW.pt (pw_and (pt_cmpR (op_neD hr.units) (pv 1) (pv 2) (nomark _)) (pw_and1 (pt_cmpR op_eq (pe_call GL hr (by rfl) TL.m TL.F.kp TL.b .nil pass0 (pa_cons (pv 0) (pa_cons (pv 1) (pa_cons (pv 2) pa_nil)))) (pe_call GL hr (by rfl) TL.m TL.F.kp TL.b .nil pass0 (pa_cons (pv 0) (pa_cons (pv 2) (pa_cons (pv 1) pa_nil)))) (nomark _))))) (pw_or1 (pt_val (pe_call GL hr (by rfl) TL.m TL.F.kp TL.b .nil pass0 (pa_cons (pv 0) (pa_cons (pv 1) (pa_cons (pv 1) pa_nil)))))))) (pss_one (ps_ret pe_bl)) pss_nil) h1, ?_⟩
    have SM := Same.refl H
    refine ⟨_, rfl, _, rfl, dT x, dT y, hx.dp, hy.dp, shaped_tr _, shaped_tr _, _, rfl, ?_⟩
    rw [eqv_tr]
    by_cases e : x = y
    · rw [decide_eq_true e]
      refine ifFf rfl (ifFf rfl ?_)
      refine ⟨_, rfl, _, rfl, _, rfl, r, p, p, x, x, rfl, hx, hx, ro, sx.mono (by decide), sx.mono (by decide), cx, cx, fun Ha1 ma1 => ?_⟩
      replace hx := hx.same ma1
      replace hy := hy.same ma1
      replace hz := hz.same ma1
      replace SM := SM.trans ma1
      refine ⟨_, rfl, ?_⟩
      rw [law_o2 Cx th.rx]
      exact ifFf rfl (q1 _ SM)
    · rw [decide_eq_false e]
      refine ifTt rfl ?_
      refine ⟨_, rfl, _, rfl, _, rfl, r, p, q, x, y, rfl, hx, hy, ro, sx.mono (by decide), sy.mono (by decide), cx, cy, fun Hb1 mb1 => ?_⟩
      replace hx := hx.same mb1
      replace hy := hy.same mb1
      replace hz := hz.same mb1
      replace SM := SM.trans mb1
      refine ⟨_, rfl, _, rfl, _, rfl, r, q, p, y, x, rfl, hy, hx, ro, sy.mono (by decide), sx.mono (by decide), cy, cx, fun Hb2 mb2 => ?_⟩
      replace hx := hx.same mb2
      replace hy := hy.same mb2
      replace hz := hz.same mb2
      replace SM := SM.trans mb2
      refine ⟨rfl, _, rfl, ?_⟩
      rw [decide_eq_false (fun z => law_o1 Cx Cy th.rx th.ry e (V.bl.inj z))]
      refine ifFf rfl ?_
      refine ⟨_, rfl, _, rfl, _, rfl, r, p, p, x, x, rfl, hx, hx, ro, sx.mono (by decide), sx.mono (by decide), cx, cx, fun Hc1 mc1 => ?_⟩
      replace hx := hx.same mc1
      replace hy := hy.same mc1
      replace hz := hz.same mc1
      replace SM := SM.trans mc1
      refine ⟨_, rfl, ?_⟩
      rw [law_o2 Cx th.rx]
      exact ifFf rfl (q1 _ SM)
theorem ok_reck {f fL fP fT fO fM : Addr} {fd fdL fdP fdT fdO fdM : FuncData} {k : Nat}
    (TL : Txt K mg "less" sLess ["root", "one", "other"] fL fdL) (GL : FnOk P w K mg base CX0 k fL fdL ["root", "one", "other"] (spLess K))
    (TP : Txt K mg "plus" sPlus ["root", "one", "other"] fP fdP) (GP : FnOk P w K mg base CX0 k fP fdP ["root", "one", "other"] (spPlus K))
    (TT : Txt K mg "times" sTimes ["root", "one", "other"] fT fdT) (GT : FnOk P w K mg base CX0 k fT fdT ["root", "one", "other"] (spTimes K))
    (TO : Txt K mg "over" sOver ["root", "one", "other"] fO fdO) (GO : FnOk P w K mg base CX0 k fO fdO ["root", "one", "other"] (spOver K))
    (TM : Txt K mg "minus" sMinus ["root", "one", "other"] fM fdM) (GM : FnOk P w K mg base CX0 k fM fdM ["root", "one", "other"] (spMinus K))
    (T : Txt K mg "_law_reckoned" sReck ["_law_root_here", "_law_one", "_law_other", "_law_third"] f fd) : FnOk P w K mg base CX0 (k + 1) f fd ["_law_root_here", "_law_one", "_law_other", "_law_third"] (sp3 K) := by
  refine T.F.ok scReck (fun vs H Q E h => ?_) (fun cdv A outer s H vs Q E hr h => ?_)
  · obtain ⟨r, d, _, p, q, u, x, y, z, rfl, _⟩ := h
    rfl
  · obtain ⟨r, d, irr, p, q, u, x, y, z, rfl, hx, hy, hz, ro, th, ans⟩ := h
    have nd := scReck.nd
    have sx := small_sz th.s1
    have sy := small_sz th.s2
    have sz := small_sz th.s3
    have Cx := th.s1.can
    have Cy := th.s2.can
    have Cz := th.s3.can
    have cx := Cx.ne
    have cy := Cy.ne
    have cz := Cz.ne
    refine ⟨_, pss_cons (ps_if (pt_cmpR (op_neD hr.units) (pe_call GP hr (by rfl) TP.m TP.F.kp TP.b .nil pass0 (pa_cons (pv 0) (pa_cons (pe_call GP hr (by rfl) TP.m TP.F.kp TP.b .nil pass0 (pa_cons (pv 0) (pa_cons (pv 1) (pa_cons (pv 2) pa_nil)))) (pa_cons (pv 3) pa_nil)))) (pe_call GP hr (by rfl) TP.m TP.F.kp TP.b .nil pass0 (pa_cons (pv 0) (pa_cons (pv 1) (pa_cons (pe_call GP hr (by rfl) TP.m TP.F.kp TP.b .nil pass0 (pa_cons (pv 0) (pa_cons (pv 2) (pa_cons (pv 3) pa_nil)))) pa_nil)))) (nomark _)) (pss_one (ps_ret pe_bl)) pss_nil)
      (pss_cons (ps_if (pt_cmpR (op_neD hr.units) (pe_call GT hr (by rfl) TT.m TT.F.kp TT.b .nil pass0 (pa_cons (pv 0) (pa_cons (pe_call GT hr (by rfl) TT.m TT.F.kp TT.b .nil pass0 (pa_cons (pv 0) (pa_cons (pv 1) (pa_cons (pv 2) pa_nil)))) (pa_cons (pv 3) pa_nil)))) (pe_call GT hr (by rfl) TT.m TT.F.kp TT.b .nil pass0 (pa_cons (pv 0) (pa_cons (pv 1) (pa_cons (pe_call GT hr (by rfl) TT.m TT.F.kp TT.b .nil pass0 (pa_cons (pv 0) (pa_cons (pv 2) (pa_cons (pv 3) pa_nil)))) pa_nil)))) (nomark _)) (pss_one (ps_ret pe_bl)) pss_nil)
      (pss_cons (ps_set (i := 4) nd rfl (.inl rfl) (pe_call GP hr (by rfl) TP.m TP.F.kp TP.b .nil pass0 (pa_cons (pv 0) (pa_cons (pe_call GT hr (by rfl) TT.m TT.F.kp TT.b .nil pass0 (pa_cons (pv 0) (pa_cons (pv 1) (pa_cons (pv 3) pa_nil)))) (pa_cons (pe_call GT hr (by rfl) TT.m TT.F.kp TT.b .nil pass0 (pa_cons (pv 0) (pa_cons (pv 2) (pa_cons (pv 3) pa_nil)))) pa_nil)))))
      (pss_cons (ps_if (PW.pt (pw_or (pt_cmpR (op_neD hr.units) (pe_call GT hr (by rfl) TT.m TT.F.kp TT.b .nil pass0 (pa_cons (pv 0) (pa_cons (pe_call GP hr (by rfl) TP.m TP.F.kp TP.b .nil pass0 (pa_cons (pv 0) (pa_cons (pv 1) (pa_cons (pv 2) pa_nil)))) (pa_cons (pv 3) pa_nil)))) (pv 4) (nomark _)) (pw_or1 (pt_cmpR (op_neD hr.units) (pe_call GP hr (by rfl) TP.m TP.F.kp TP.b .nil pass0 (pa_cons (pv 0) (pa_cons (pe_call GM hr (by rfl) TM.m TM.F.kp TM.b .nil pass0 (pa_cons (pv 0) (pa_cons (pv 1) (pa_cons (pv 2) pa_nil)))) (pa_cons (pv 2) pa_nil)))) (pv 1) (nomark _))))) (pss_one (ps_ret pe_bl)) pss_nil)
      (pss_one (ps_ret (pe_or (pe_cmpR (op_eqD hr.units) (pv 3) (pe_tup (pa_cons pe_int (pa_cons pe_int (pa_cons pe_int pa_nil)))) (nomark _)) (pe_one (pe_cmpR (op_eqD hr.units) (pe_call GT hr (by rfl) TT.m TT.F.kp TT.b .nil pass0 (pa_cons (pv 0) (pa_cons (pe_call GO hr (by rfl) TO.m TO.F.kp TO.b .nil pass0 (pa_cons (pv 0) (pa_cons (pv 1) (pa_cons (pv 3) pa_nil)))) (pa_cons (pv 3) pa_nil)))) (pv 1) (nomark _))))))))), ?_⟩
    have SM := Same.refl H
    refine ⟨_, rfl, _, rfl, _, rfl, _, rfl, r, p, q, x, y, rfl, hx, hy, sx.mono (by decide), sy.mono (by decide), cx, cy, fun Ha1 za1 ma1 ba1 => ?_⟩
    replace hx := hx.same ma1
    replace hy := hy.same ma1
    replace hz := hz.same ma1
    replace SM := SM.trans ma1
    have sa1 := sz_plus cx cy sx sy
    have ca1 := (can_plus cx cy).ne
    refine ⟨_, rfl, r, za1, u, (plus x y), z, rfl, ba1, hz, sa1.mono (by decide), sz.mono (by decide), ca1, cz, fun Ha2 za2 ma2 ba2 => ?_⟩
    replace hx := hx.same ma2
    replace hy := hy.same ma2
    replace hz := hz.same ma2
    replace ba1 := ba1.same ma2
    replace SM := SM.trans ma2
    have sa2 := sz_plus ca1 cz sa1 sz
    have ca2 := (can_plus ca1 cz).ne
    refine ⟨_, rfl, _, rfl, _, rfl, _, rfl, _, rfl, r, q, u, y, z, rfl, hy, hz, sy.mono (by decide), sz.mono (by decide), cy, cz, fun Ha3 za3 ma3 ba3 => ?_⟩
    replace hx := hx.same ma3
    replace hy := hy.same ma3
    replace hz := hz.same ma3
    replace ba1 := ba1.same ma3
    replace ba2 := ba2.same ma3
    replace SM := SM.trans ma3
    have sa3 := sz_plus cy cz sy sz
    have ca3 := (can_plus cy cz).ne
    refine ⟨r, p, za3, x, (plus y z), rfl, hx, ba3, sx.mono (by decide), sa3.mono (by decide), cx, ca3, fun Ha4 za4 ma4 ba4 => ?_⟩
    replace hx := hx.same ma4
    replace hy := hy.same ma4
    replace hz := hz.same ma4
    replace ba1 := ba1.same ma4
    replace ba2 := ba2.same ma4
    replace ba3 := ba3.same ma4
    replace SM := SM.trans ma4
    have sa4 := sz_plus cx ca3 sx sa3
    have ca4 := (can_plus cx ca3).ne
    refine ⟨dT (plus (plus x y) z), dT (plus x (plus y z)), ba2.dp, ba4.dp, shaped_tr _, shaped_tr _, _, rfl, ?_⟩
    rw [eqv_tr, law_r1 d Cx Cy Cz, decide_eq_true rfl]
    refine ifFf rfl ?_
    refine ⟨_, rfl, _, rfl, _, rfl, _, rfl, r, p, q, x, y, rfl, hx, hy, ro, sx.mono (by decide), sy.mono (by decide), cx, cy, fun Ha5 za5 ma5 ba5 => ?_⟩
    replace hx := hx.same ma5
    replace hy := hy.same ma5
    replace hz := hz.same ma5
    replace ba1 := ba1.same ma5
    replace ba2 := ba2.same ma5
    replace ba3 := ba3.same ma5
    replace ba4 := ba4.same ma5
    replace SM := SM.trans ma5
    have sa5 := sz_times ro cx cy sx sy
    have ca5 := (can_times (r := r) cx cy).ne
    refine ⟨_, rfl, r, za5, u, (times r x y), z, rfl, ba5, hz, ro, sa5.mono (by decide), sz.mono (by decide), ca5, cz, fun Ha6 za6 ma6 ba6 => ?_⟩
    replace hx := hx.same ma6
    replace hy := hy.same ma6
    replace hz := hz.same ma6
    replace ba1 := ba1.same ma6
    replace ba2 := ba2.same ma6
    replace ba3 := ba3.same ma6
    replace ba4 := ba4.same ma6
    replace ba5 := ba5.same ma6
    replace SM := SM.trans ma6
    have sa6 := sz_times ro ca5 cz sa5 sz
    have ca6 := (can_times (r := r) ca5 cz).ne
    refine ⟨_, rfl, _, rfl, _, rfl, _, rfl, _, rfl, r, q, u, y, z, rfl, hy, hz, ro, sy.mono (by decide), sz.mono (by decide), cy, cz, fun Ha7 za7 ma7 ba7 => ?_⟩
    replace hx := hx.same ma7
    replace hy := hy.same ma7
    replace hz := hz.same ma7
    replace ba1 := ba1.same ma7
    replace ba2 := ba2.same ma7
    replace ba3 := ba3.same ma7
    replace ba4 := ba4.same ma7
    replace ba5 := ba5.same ma7
    replace ba6 := ba6.same ma7
    replace SM := SM.trans ma7
    have sa7 := sz_times ro cy cz sy sz
    have ca7 := (can_times (r := r) cy cz).ne
    refine ⟨r, p, za7, x, (times r y z), rfl, hx, ba7, ro, sx.mono (by decide), sa7.mono (by decide), cx, ca7, fun Ha8 za8 ma8 ba8 => ?_⟩
    replace hx := hx.same ma8
    replace hy := hy.same ma8
    replace hz := hz.same ma8
    replace ba1 := ba1.same ma8
    replace ba2 := ba2.same ma8
    replace ba3 := ba3.same ma8
    replace ba4 := ba4.same ma8
    replace ba5 := ba5.same ma8
    replace ba6 := ba6.same ma8
    replace ba7 := ba7.same ma8
    replace SM := SM.trans ma8
    have sa8 := sz_times ro cx ca7 sx sa7
    have ca8 := (can_times (r := r) cx ca7).ne
    refine ⟨dT (times r (times r x y) z), dT (times r x (times r y z)), ba6.dp, ba8.dp, shaped_tr _, shaped_tr _, _, rfl, ?_⟩
    rw [eqv_tr, law_r2 Cx Cy Cz th.rx th.ry th.rz, decide_eq_true rfl]
    refine ifFf rfl ?_
    -- both
    refine ⟨_, rfl, _, rfl, _, rfl, _, rfl, r, p, u, x, z, rfl, hx, hz, ro, sx.mono (by decide), sz.mono (by decide), cx, cz, fun Ha9 za9 ma9 ba9 => ?_⟩
    replace hx := hx.same ma9
    replace hy := hy.same ma9
    replace hz := hz.same ma9
    replace ba1 := ba1.same ma9
    replace ba2 := ba2.same ma9
    replace ba3 := ba3.same ma9
    replace ba4 := ba4.same ma9
    replace ba5 := ba5.same ma9
    replace ba6 := ba6.same ma9
    replace ba7 := ba7.same ma9
    replace ba8 := ba8.same ma9
    replace SM := SM.trans ma9
    have sa9 := sz_times ro cx cz sx sz
    have ca9 := (can_times (r := r) cx cz).ne
    refine ⟨_, rfl, _, rfl, _, rfl, r, q, u, y, z, rfl, hy, hz, ro, sy.mono (by decide), sz.mono (by decide), cy, cz, fun Ha10 za10 ma10 ba10 => ?_⟩
    replace hx := hx.same ma10
    replace hy := hy.same ma10
    replace hz := hz.same ma10
    replace ba1 := ba1.same ma10
    replace ba2 := ba2.same ma10
    replace ba3 := ba3.same ma10
    replace ba4 := ba4.same ma10
    replace ba5 := ba5.same ma10
    replace ba6 := ba6.same ma10
    replace ba7 := ba7.same ma10
    replace ba8 := ba8.same ma10
    replace ba9 := ba9.same ma10
    replace SM := SM.trans ma10
    have sa10 := sz_times ro cy cz sy sz
    have ca10 := (can_times (r := r) cy cz).ne
    refine ⟨r, za9, za10, (times r x z), (times r y z), rfl, ba9, ba10, sa9.mono (by decide), sa10.mono (by decide), ca9, ca10, fun Ha11 za11 ma11 ba11 => ?_⟩
    replace hx := hx.same ma11
    replace hy := hy.same ma11
    replace hz := hz.same ma11
    replace ba1 := ba1.same ma11
    replace ba2 := ba2.same ma11
    replace ba3 := ba3.same ma11
    replace ba4 := ba4.same ma11
    replace ba5 := ba5.same ma11
    replace ba6 := ba6.same ma11
    replace ba7 := ba7.same ma11
    replace ba8 := ba8.same ma11
    replace ba9 := ba9.same ma11
    replace ba10 := ba10.same ma11
    replace SM := SM.trans ma11
    have sa11 := sz_plus ca9 ca10 sa9 sa10
    have ca11 := (can_plus ca9 ca10).ne
    refine ⟨_, rfl, _, rfl, _, rfl, _, rfl, r, p, q, x, y, rfl, hx, hy, sx.mono (by decide), sy.mono (by decide), cx, cy, fun Ha12 za12 ma12 ba12 => ?_⟩
    replace hx := hx.same ma12
    replace hy := hy.same ma12
    replace hz := hz.same ma12
    replace ba1 := ba1.same ma12
    replace ba2 := ba2.same ma12
    replace ba3 := ba3.same ma12
    replace ba4 := ba4.same ma12
    replace ba5 := ba5.same ma12
    replace ba6 := ba6.same ma12
    replace ba7 := ba7.same ma12
    replace ba8 := ba8.same ma12
    replace ba9 := ba9.same ma12
    replace ba10 := ba10.same ma12
    replace ba11 := ba11.same ma12
    replace SM := SM.trans ma12
    have sa12 := sz_plus cx cy sx sy
    have ca12 := (can_plus cx cy).ne
    refine ⟨_, rfl, r, za12, u, (plus x y), z, rfl, ba12, hz, ro, sa12.mono (by decide), sz.mono (by decide), ca12, cz, fun Ha13 za13 ma13 ba13 => ?_⟩
    replace hx := hx.same ma13
    replace hy := hy.same ma13
    replace hz := hz.same ma13
    replace ba1 := ba1.same ma13
    replace ba2 := ba2.same ma13
    replace ba3 := ba3.same ma13
    replace ba4 := ba4.same ma13
    replace ba5 := ba5.same ma13
    replace ba6 := ba6.same ma13
    replace ba7 := ba7.same ma13
    replace ba8 := ba8.same ma13
    replace ba9 := ba9.same ma13
    replace ba10 := ba10.same ma13
    replace ba11 := ba11.same ma13
    replace ba12 := ba12.same ma13
    replace SM := SM.trans ma13
    have sa13 := sz_times ro ca12 cz sa12 sz
    have ca13 := (can_times (r := r) ca12 cz).ne
    refine ⟨_, rfl, dT (times r (plus x y) z), dT (plus (times r x z) (times r y z)), ba13.dp, ba11.dp, shaped_tr _, shaped_tr _, _, rfl, ?_⟩
    rw [eqv_tr, law_r3 Cx Cy Cz th.rx th.ry th.rz, decide_eq_true rfl]
    refine ifFf rfl ?_
    refine ⟨_, rfl, _, rfl, _, rfl, _, rfl, r, p, q, x, y, rfl, hx, hy, sx.mono (by decide), sy.mono (by decide), cx, cy, fun Ha14 za14 ma14 ba14 => ?_⟩
    replace hx := hx.same ma14
    replace hy := hy.same ma14
    replace hz := hz.same ma14
    replace ba1 := ba1.same ma14
    replace ba2 := ba2.same ma14
    replace ba3 := ba3.same ma14
    replace ba4 := ba4.same ma14
    replace ba5 := ba5.same ma14
    replace ba6 := ba6.same ma14
    replace ba7 := ba7.same ma14
    replace ba8 := ba8.same ma14
    replace ba9 := ba9.same ma14
    replace ba10 := ba10.same ma14
    replace ba11 := ba11.same ma14
    replace ba12 := ba12.same ma14
    replace ba13 := ba13.same ma14
    replace SM := SM.trans ma14
    have sa14 := sz_minus cx cy sx sy
    have ca14 := (can_minus cx cy).ne
    refine ⟨_, rfl, r, za14, q, (minus x y), y, rfl, ba14, hy, sa14.mono (by decide), sy.mono (by decide), ca14, cy, fun Ha15 za15 ma15 ba15 => ?_⟩
    replace hx := hx.same ma15
    replace hy := hy.same ma15
    replace hz := hz.same ma15
    replace ba1 := ba1.same ma15
    replace ba2 := ba2.same ma15
    replace ba3 := ba3.same ma15
    replace ba4 := ba4.same ma15
    replace ba5 := ba5.same ma15
    replace ba6 := ba6.same ma15
    replace ba7 := ba7.same ma15
    replace ba8 := ba8.same ma15
    replace ba9 := ba9.same ma15
    replace ba10 := ba10.same ma15
    replace ba11 := ba11.same ma15
    replace ba12 := ba12.same ma15
    replace ba13 := ba13.same ma15
    replace ba14 := ba14.same ma15
    replace SM := SM.trans ma15
    have sa15 := sz_plus ca14 cy sa14 sy
    have ca15 := (can_plus ca14 cy).ne
    refine ⟨_, rfl, dT (plus (minus x y) y), dT x, ba15.dp, hx.dp, shaped_tr _, shaped_tr _, _, rfl, ?_⟩
    rw [eqv_tr, law_r4 d Cx Cy, decide_eq_true rfl]
    refine ifFf rfl ?_
    refine ⟨_, rfl, (by show 3 ≤ sizeLine; decide), fun zn nn => ?_⟩
    obtain ⟨mn, an⟩ := new_w (K := K) 0 nn
    replace hx := hx.same mn
    replace hy := hy.same mn
    replace hz := hz.same mn
    replace SM := SM.trans mn
    refine ⟨dT z, dT (wT 0), hz.dp, an.dp, shaped_tr _, shaped_tr _, _, rfl, ?_⟩
    rw [eqv_tr]
    by_cases hz0 : z = wT 0
    · rw [decide_eq_true hz0]
      exact ifTt rfl (ans _ SM)
    · rw [decide_eq_false hz0]
      refine ifFf rfl ?_
      have hbelow := ne_below Cz th.rz hz0
      refine ⟨_, rfl, _, rfl, _, rfl, _, rfl, r, p, u, x, z, rfl, hx, hz, ro, sx.mono (by decide), sz.mono (by decide), cx, hbelow, fun He1 ze1 me1 be1 => ?_⟩
      replace hx := hx.same me1
      replace hy := hy.same me1
      replace hz := hz.same me1
      replace SM := SM.trans me1
      have se1 := sz_over ro cx hbelow sx sz
      have ce1 := (can_over (r := r) cx hbelow).ne
      refine ⟨_, rfl, r, ze1, u, (over r x z), z, rfl, be1, hz, ro, se1.mono (by decide), sz.mono (by decide), ce1, cz, fun He2 ze2 me2 be2 => ?_⟩
      replace hx := hx.same me2
      replace hy := hy.same me2
      replace hz := hz.same me2
      replace be1 := be1.same me2
      replace SM := SM.trans me2
      have se2 := sz_times ro ce1 cz se1 sz
      have ce2 := (can_times (r := r) ce1 cz).ne
      refine ⟨_, rfl, dT (times r (over r x z) z), dT x, be2.dp, hx.dp, shaped_tr _, shaped_tr _, ?_⟩
      rw [eqv_tr, law_r5 Cx Cz th.rx th.rz hz0, decide_eq_true rfl]
      exact ans _ SM
end
end K5W

namespace K5W
open PySem PySem.Spec PyProof.Rows L2 K5
theorem scLaw : FnScope ["_law_script", "_law_k", "_law_box_here", "_law_root_here", "_law_one", "_law_other", "_law_third", "_law_found", "_law_turn"] ["_law_script"] (defScope sLaw) := ⟨rfl, rfl, rfl, by decide +kernel, rfl, by decide +kernel, by decide +kernel⟩
theorem same_but {H0 H1 H2 : Hp} {b : Addr} (h0 : H0 b = none) (s : Same H0 H1) (t : But b H1 H2) : Same H0 H2 := fun x o e => t x o (s x o e) (ne_of_none e h0)
theorem root_d {r : Int} (h : IsRoot r) : RtOk r ∧ ∃ (d : Int) (_ : Irr d), ∀ t : Tr, (r = 0 → t.b = 0) → RD r d t := by
  refine ⟨?_, ?_⟩
  · unfold RtOk
    rcases h with h | h | h | h | h | h | h <;> omega
  · rcases h with rfl | rfl | rfl | rfl | rfl | rfl | rfl
    · exact ⟨2, irr2, fun t ht => .inr ⟨rfl, ht rfl⟩⟩
    · exact ⟨2, irr2, fun _ _ => .inl rfl⟩
    · exact ⟨3, irr3, fun _ _ => .inl rfl⟩
    · exact ⟨5, irr5, fun _ _ => .inl rfl⟩
    · exact ⟨6, irr6, fun _ _ => .inl rfl⟩
    · exact ⟨7, irr7, fun _ _ => .inl rfl⟩
    · exact ⟨13, irr13, fun _ _ => .inl rfl⟩
section
variable {P : Program} {w : World} {K : PySem.W.Frag} {mg : Str → Option Value} {base : Heap}
/-- the three numbers that are drawn, so far -/
def Drawn (K : PySem.W.Frag) (H0 : Hp) (r : Int) (b D : Addr) (i : Nat) (H : Hp) : Prop :=
  ∃ (ps : List Addr) (n : Int), ps.length = i ∧ H D = some (.lst (ps.map V.ref)) ∧ H b = some (.lst [.int n]) ∧ Same H0 H ∧ ∀ p ∈ ps, ∃ t, At K H p t ∧ Small t ∧ (r = 0 → t.b = 0)
def spLaw (K : PySem.W.Frag) : Sp := fun vs H Q _ => ∃ (a : Addr) (ns : List Int), vs = [.ref a] ∧ SqL K H a (ns.map V.int) ∧ ns.length ≤ 63 ∧ ∀ H', Q (.bl true) H'
theorem ok_law {f fL fP fF fB fR fA fO fK fS : Addr} {fd fdL fdP fdF fdB fdR fdA fdO fdK fdS : FuncData} {k : Nat}
    (T : Txt K mg "law" sLaw ["_law_script"] f fd)
    (TL : Txt K mg "less" sLess ["root", "one", "other"] fL fdL) (GL : FnOk P w K mg base CX0 k fL fdL ["root", "one", "other"] (spLess K))
    (TP : Txt K mg "plus" sPlus ["root", "one", "other"] fP fdP) (GP : FnOk P w K mg base CX0 k fP fdP ["root", "one", "other"] (spPlus K))
    (TF : Txt K mg "floor_of" sFloor ["root", "one"] fF fdF) (GF : FnOk P w K mg base CX0 k fF fdF ["root", "one"] (spFloor K))
    (TB : Txt K mg "_law_box" sBox ["_law_script", "_law_k"] fB fdB) (GB : FnOk P w K mg base CX0 k fB fdB ["_law_script", "_law_k"] (spBox K))
    (TR : Txt K mg "_law_root" sLRoot ["_law_box_here"] fR fdR) (GR : FnOk P w K mg base CX0 k fR fdR ["_law_box_here"] spLRoot)
    (TA : Txt K mg "_law_any" sAny ["_law_box_here", "_law_root_here"] fA fdA) (GA : FnOk P w K mg base CX0 k fA fdA ["_law_box_here", "_law_root_here"] (spAny K))
    (TO : Txt K mg "_law_ordered" sOrd ["_law_root_here", "_law_one", "_law_other", "_law_third"] fO fdO) (GO : FnOk P w K mg base CX0 k fO fdO ["_law_root_here", "_law_one", "_law_other", "_law_third"] (sp3 K))
    (TK : Txt K mg "_law_reckoned" sReck ["_law_root_here", "_law_one", "_law_other", "_law_third"] fK fdK) (GK : FnOk P w K mg base CX0 k fK fdK ["_law_root_here", "_law_one", "_law_other", "_law_third"] (sp3 K))
    (TS : Txt K mg "simplest" sSimp ["root", "one", "other"] fS fdS) (GS : FnOk P w K mg base CX0 k fS fdS ["root", "one", "other"] (spSimp K))
    (mr : mg "range" = none) (mx : mg "max" = none) (mn : mg "min" = none) (ml : mg "len" = none) :
    FnOk P w K mg base CX0 (k + 1) f fd ["_law_script"] (spLaw K) := by
  refine T.F.ok scLaw (fun vs H Q E h => ?_) (fun cdv A outer s H vs Q E hr h => ?_)
  · obtain ⟨a, ns, rfl, _⟩ := h
    rfl
  · obtain ⟨a, ns, rfl, hs, hlen, ans⟩ := h
    have nd := scLaw.nd
    refine ⟨_, pss_cons (ps_for PassesOwn.never rfl (pi_range1 (by rfl) mr (pa_cons (pe_callB (call_max2 rfl) (by rfl) mx (by decide +kernel) (pa_cons pe_int (pa_cons (pe_callB (call_min2 rfl) (by rfl) mn (by decide +kernel) (pa_cons (pe_callB call_len_seq (by rfl) ml PySem.boot_len (pa_cons (pv 0) pa_nil)) (pa_cons pe_int pa_nil))) pa_nil))) pa_nil)) (pg_name (i := 1) nd rfl (.inl rfl))
        (pss_cons (ps_set (i := 2) nd rfl (.inr rfl) (pe_call GB hr (by rfl) TB.m TB.F.kp TB.b .nil pass0 (pa_cons (pv 0) (pa_cons (pv 1) pa_nil))))
        (pss_cons (ps_set (i := 3) nd rfl (.inr rfl) (pe_call GR hr (by rfl) TR.m TR.F.kp TR.b .nil pass0 (pa_cons (pv 2) pa_nil)))
        (pss_cons (ps_asg (pe_lc (own := [("_law_turn", 8)]) (g := gName 8) (tt := tYes) rfl nd (pi_range1 (by rfl) mr (pa_cons pe_int pa_nil)) (blkOk_by (own := [("_law_turn", 8)]) (N := ["_law_script", "_law_k", "_law_box_here", "_law_root_here", "_law_one", "_law_other", "_law_third", "_law_found", "_law_turn"]) (sc := defScope sLaw) (by decide +kernel))
            (fun _ _ _ _ _ => pg_name (i := 8) nd rfl (Or.inl rfl)) (fun _ _ _ _ _ => pts_nil) (fun _ _ _ _ _ => pe_call GA hr (by rfl) TA.m TA.F.kp TA.b .nil pass0 (pa_cons (pv 2) (pa_cons (pv 3) pa_nil))))
            (pg_lst (by rfl) (pgs_cons (pg_name (i := 4) nd rfl (.inl rfl)) (pgs_cons (pg_name (i := 5) nd rfl (.inl rfl)) (pgs_cons (pg_name (i := 6) nd rfl (.inl rfl)) pgs_nil)))))
        (pss_cons (ps_if (PW.pt (pw_or (pt_not (pt_val (pe_call GO hr (by rfl) TO.m TO.F.kp TO.b .nil pass0 (pa_cons (pv 3) (pa_cons (pv 4) (pa_cons (pv 5) (pa_cons (pv 6) pa_nil))))))) (pw_or1 (pt_not (pt_val (pe_call GK hr (by rfl) TK.m TK.F.kp TK.b .nil pass0 (pa_cons (pv 3) (pa_cons (pv 4) (pa_cons (pv 5) (pa_cons (pv 6) pa_nil)))))))))) (pss_one (ps_ret pe_bl)) pss_nil)
        (pss_cons (ps_if (pt_cmpR op_ne (pe_call GF hr (by rfl) TF.m TF.F.kp TF.b .nil pass0 (pa_cons (pv 3) (pa_cons (pe_call GP hr (by rfl) TP.m TP.F.kp TP.b .nil pass0 (pa_cons (pv 3) (pa_cons (pv 4) (pa_cons (pe_tup (pa_cons pe_int (pa_cons pe_int (pa_cons pe_int pa_nil)))) pa_nil)))) pa_nil)))
            (pe_op op_add (pe_call GF hr (by rfl) TF.m TF.F.kp TF.b .nil pass0 (pa_cons (pv 3) (pa_cons (pv 4) pa_nil))) pe_int) (nomark _)) (pss_one (ps_ret pe_bl)) pss_nil)
        (pss_one (ps_if (pt_val (pe_call GL hr (by rfl) TL.m TL.F.kp TL.b .nil pass0 (pa_cons (pv 3) (pa_cons (pv 4) (pa_cons (pv 5) pa_nil)))))
          (pss_cons (ps_set (i := 7) nd rfl (.inl rfl) (pe_call GS hr (by rfl) TS.m TS.F.kp TS.b .nil pass0 (pa_cons (pv 3) (pa_cons (pv 4) (pa_cons (pv 5) pa_nil)))))
          (pss_one (ps_if (PW.pt (pw_or (pt_not (pt_val (pe_call GL hr (by rfl) TL.m TL.F.kp TL.b .nil pass0 (pa_cons (pv 3) (pa_cons (pv 4) (pa_cons (pv 7) pa_nil)))))) (pw_or1 (pt_not (pt_val (pe_call GL hr (by rfl) TL.m TL.F.kp TL.b .nil pass0 (pa_cons (pv 3) (pa_cons (pv 7) (pa_cons (pv 5) pa_nil))))))))) (pss_one (ps_ret pe_bl)) pss_nil)))
          pss_nil))))))))
      (pss_one (ps_ret pe_bl)), ?_⟩
    have hb7 : ∀ L : Int, 0 ≤ L → -(2 ^ 62) ≤ (if (if 6 < L then 6 else L) > 1 then (if 6 < L then 6 else L) else 1) ∧ (if (if 6 < L then 6 else L) > 1 then (if 6 < L then 6 else L) else 1) < 2 ^ 62 ∧ (if (if 6 < L then 6 else L) > 1 then (if 6 < L then 6 else L) else 1).toNat ≤ 6 := fun L h => by
      have : ∀ z : Int, z ≤ 6 → (if z > 1 then z else 1) ≤ 6 ∧ 1 ≤ (if z > 1 then z else 1) := fun z hz => by split <;> omega
      have h6 : (if 6 < L then 6 else L) ≤ 6 := by split <;> omega
      have := this _ h6
      omega
    obtain ⟨g1, g2, g3⟩ := hb7 (((ns.map V.int).length : Nat) : Int) (by omega)
    refine ⟨.ref a, rfl, a, _, rfl, .inl hs, _, _, rfl, _, _, rfl, _, rfl, g1, g2, for_range (lo := 0) (fun i σ H' => ∃ v1 v2 v3 v4 v5 v6 v7 v8, σ = [some (.ref a), v1, v2, v3, v4, v5, v6, v7, v8] ∧ Same H H') ⟨_, _, _, _, _, _, _, _, rfl, Same.refl H⟩ (fun i σ H0 hi hP => ?_) (fun σ H' hP => ?_)⟩
    · obtain ⟨v1, v2, v3, v4, v5, v6, v7, v8, rfl, S0⟩ := hP
      have hi' : i ≤ 1000 := by omega
      have hs0 := S0.seq hs
      -- _law_box_here = _law_box(_law_script, _law_k)
      refine ⟨_, rfl, _, rfl, a, ns, i, by rw [Int.zero_add]; rfl, hs0, hi', fun b n nb => ?_⟩
      have sB := same_new (o := .lst [.int n]) nb
      -- _law_root_here = _law_root(_law_box_here)
      refine ⟨_, rfl, b, n, rfl, upd_same, fun H1 r n1 hr1 bt1 hb1 => ?_⟩
      have s1 := same_but nb sB bt1
      obtain ⟨ro, d, irr, rdd⟩ := root_d hr1
      -- the three numbers
      refine ⟨3, rfl, by decide, by decide, fun D nD => ?_⟩
      have nbD : b ≠ D := ne_of_none hb1 nD
      have nD0 : H0 D = none := s1.free nD
      refine lc_range (lo := 0) (n := 3) (Drawn K H0 r b D) ⟨[], n1, rfl, upd_same, (upd_ne nbD).trans hb1, same_upd nD0 s1, fun p hp => by simp at hp⟩ (fun j H2 hj hP => ?_) (fun H2 hP => ?_)
      · obtain ⟨ps, m, hl, hD, hbm, sm, hps⟩ := hP
        refine ⟨rfl, .ref b, rfl, .int r, rfl, b, r, m, rfl, hbm, hr1, fun H3 p t m' st zt at3 bt3 hb3 => ?_⟩
        have hD3 : H3 D = some (.lst (ps.map V.ref)) := bt3 _ _ hD nbD.symm
        have sm3 := same_but nb sm bt3
        have atD : ∀ {q : Addr} {u : Tr} {o : HO}, At K H3 q u → At K (upd H3 D o) q u := fun {q u o} hq => But.upd.tup hD3 hq
        refine ⟨_, hD3, ?_, ps ++ [p], m', by rw [List.length_append, hl]; rfl, ?_, (upd_ne nbD).trans hb3, same_upd nD0 sm3, fun q hq => ?_⟩
        · rw [List.length_map, hl]
          exact Nat.lt_of_lt_of_le hj (by decide)
        · rw [List.map_append]
          exact upd_same
        · rcases List.mem_append.mp hq with hq | hq
          · obtain ⟨u, hu1, hu2, hu3⟩ := hps q hq
            exact ⟨u, atD (bt3.tup hbm hu1), hu2, hu3⟩
          · rw [List.mem_singleton.mp hq]
            exact ⟨t, atD at3, st, zt⟩
      · obtain ⟨ps, m, hl, hD, hbm, sm, hps⟩ := hP
        obtain ⟨p, q, u, rfl⟩ : ∃ p q u, ps = [p, q, u] := by
          match ps, hl with
          | [p, q, u], _ => exact ⟨p, q, u, rfl⟩
        obtain ⟨x, hx, sx, zx⟩ := hps p (by simp)
        obtain ⟨y, hy, sy, zy⟩ := hps q (by simp)
        obtain ⟨z, hz, sz, zz⟩ := hps u (by simp)
        have th : Three r d x y z := ⟨sx, sy, sz, rdd x zx, rdd y zy, rdd z zz⟩
        have szx := small_sz sx
        have szy := small_sz sy
        have cx := sx.can.ne
        have cy := sy.can.ne
        have rx := th.rx
        have ry := th.ry
        refine ⟨D, _, rfl, SqL.of hD, rfl, _, _, rfl, _, _, rfl, _, [], rfl, rfl, ?_⟩
        have SM : Same H H2 := S0.trans sm
        -- if not _law_ordered(..) or not _law_reckoned(..)
        refine ⟨_, rfl, _, rfl, _, rfl, _, rfl, r, d, irr, p, q, u, x, y, z, rfl, hx, hy, hz, ro, th, fun H3 m3 => ?_⟩
        replace hx := hx.same m3
        replace hy := hy.same m3
        replace hz := hz.same m3
        replace SM := SM.trans m3
        refine ⟨true, rfl, iteF ⟨_, rfl, _, rfl, _, rfl, _, rfl, r, d, irr, p, q, u, x, y, z, rfl, hx, hy, hz, ro, th, fun H4 m4 => ?_⟩⟩
        replace hx := hx.same m4
        replace hy := hy.same m4
        replace SM := SM.trans m4
        refine ⟨true, rfl, iteF ?_⟩
        -- if floor_of(..) != floor_of(..) + 1
        refine ⟨_, rfl, _, rfl, _, rfl, (by show 3 ≤ sizeLine; decide), fun z5 n5 => ?_⟩
        obtain ⟨m5, a5⟩ := new_w (K := K) 1 n5
        replace hx := hx.same m5
        replace hy := hy.same m5
        replace SM := SM.trans m5
        refine ⟨r, p, z5, x, wT 1, rfl, hx, a5, szx.mono (by decide), szw1.mono (by decide), cx, (can_w 1).ne, fun H6 z6 m6 a6 => ?_⟩
        replace hx := hx.same m6
        replace hy := hy.same m6
        replace SM := SM.trans m6
        have cn := can_plus cx (can_w 1).ne
        refine ⟨r, z6, plus x (wT 1), rfl, a6, ro, (sz_plus cx (can_w 1).ne szx szw1).mono (by decide), cn.ne, fun t t0 t1 t2 => ?_⟩
        have fl1 := is_floor cn.1 (rd_plus cx (can_w 1).ne rx (rd_w rx.root 1)) t0 t1 t2
        refine ⟨_, rfl, _, rfl, r, p, x, rfl, hx, ro, szx.mono (by decide), cx, fun t' t0' t1' t2' => ?_⟩
        have fl0 := is_floor sx.can.1 rx t0' t1' t2'
        have fe := fl_next sx.can fl0 fl1
        refine ⟨_, 1, rfl, rfl, rfl, _, rfl, ?_⟩
        rw [fe, decide_eq_true rfl]
        refine ifFf rfl ?_
        -- if less(..)
        refine ⟨_, rfl, _, rfl, _, rfl, r, p, q, x, y, rfl, hx, hy, ro, szx.mono (by decide), szy.mono (by decide), cx, cy, fun H7 m7 => ?_⟩
        replace hx := hx.same m7
        replace hy := hy.same m7
        replace SM := SM.trans m7
        refine ⟨_, rfl, ?_⟩
        have lem := less_iff sx.can sy.can rx ry
        cases hlt : less r x y with
        | false =>
          exact ifFf rfl ⟨_, _, _, _, _, _, _, _, rfl, SM⟩
        | true =>
          have lt := lem.mp hlt
          refine ifTt rfl ?_
          refine ⟨_, rfl, _, rfl, _, rfl, r, d, irr, p, q, x, y, rfl, hx, hy, ro, rx, ry, sx, sy, lt, fun H8 z8 A8 B8 m8 a8 s8 b8 l8 l8' => ?_⟩
          replace hx := hx.same m8
          replace hy := hy.same m8
          replace SM := SM.trans m8
          have vf : val d ⟨A8, 0, B8⟩ = fr d A8 B8 := by
            unfold val fr
            rw [cast0]
            congr 1
            grind
          have rf : RD r d ⟨A8, 0, B8⟩ := by
            rcases rx.root with e | e
            · exact .inl e
            · exact .inr ⟨e, rfl⟩
          have cf : (⟨A8, 0, B8⟩ : Tr).c ≠ 0 := by
            show B8 ≠ 0
            omega
          refine ⟨_, rfl, _, rfl, _, rfl, r, p, z8, x, ⟨A8, 0, B8⟩, rfl, hx, a8, ro, szx.mono (by decide), s8.mono (by decide), cx, cf, fun H9 m9 => ?_⟩
          replace a8 := a8.same m9
          replace hy := hy.same m9
          replace SM := SM.trans m9
          have q9 : less r x ⟨A8, 0, B8⟩ = true := (less_eq cx cf rx rf).mpr (by rw [vf]; exact l8)
          rw [q9]
          refine ⟨true, rfl, iteF ⟨_, rfl, _, rfl, _, rfl, r, z8, q, ⟨A8, 0, B8⟩, y, rfl, a8, hy, ro, s8.mono (by decide), szy.mono (by decide), cf, cy, fun H10 m10 => ?_⟩⟩
          have q10 : less r ⟨A8, 0, B8⟩ y = true := (less_eq cf cy rf ry).mpr (by rw [vf]; exact l8')
          rw [q10]
          exact ⟨true, rfl, iteF ⟨_, _, _, _, _, _, _, _, rfl, SM.trans m10⟩⟩
    · obtain ⟨v1, v2, v3, v4, v5, v6, v7, v8, rfl, _⟩ := hP
      exact ans _
end
end K5W

namespace K5W
open PySem PySem.Spec PyProof.Rows L2 K5
theorem txt_mk {K : PySem.W.Frag} {mg : Str → Option Value} {h : Heap} {x : Str} {st : Stmt} {ps : List Str} {f : Addr} {oc : Value} {od an : Option Addr} {osl : Array (Option Value)} {kV doc pm cdv ct : Value} (X : K.In h) (G : h.Ns mainGlobals mg)
    (a : PySem.W.nsIn K mainGlobals x = some (some (.ref f))) (l : K.lookup f = some ⟨oc, od, .func (PySem.W.fnOf x x (defArgs st) (defBody st) (defScope st) .none kV doc pm an cdv ct), osl⟩) (c : PySem.W.codeIn K cdv x = true) (k : PySem.W.keepIn K (.ref f) = true)
    (b : ∀ (kV doc pm : Value) (an : Option Addr) (cdv ct : Value) (us : List Value), us.length = ps.length → bindArgs (PySem.W.fnOf x x (defArgs st) (defBody st) (defScope st) .none kV doc pm an cdv ct) ⟨us, []⟩ = pure (ps.zip us)) :
    Txt K mg x st ps f (PySem.W.fnOf x x (defArgs st) (defBody st) (defScope st) .none kV doc pm an cdv ct) :=
  have F := fun_mk (st := st) l c k
  ⟨F, F.binds b, PySem.W.mg_of X G a⟩
theorem all_mk {l : PySem.W.OpenLaw} {w : World} {K : PySem.W.Frag} {h : Heap} {mg : Str → Option Value} {fa : Addr} (X : K.In h) (G : h.Ns mainGlobals mg) (hfa : mg "law" = some (.ref fa))
    {f0 : Addr} {od0 an0 : Option Addr} {sl0 : Array (Option Value)} {oc0 kV0 dc0 pm0 cd0 ct0 : Value}
    {f1 : Addr} {od1 an1 : Option Addr} {sl1 : Array (Option Value)} {oc1 kV1 dc1 pm1 cd1 ct1 : Value}
    {f2 : Addr} {od2 an2 : Option Addr} {sl2 : Array (Option Value)} {oc2 kV2 dc2 pm2 cd2 ct2 : Value}
    {f3 : Addr} {od3 an3 : Option Addr} {sl3 : Array (Option Value)} {oc3 kV3 dc3 pm3 cd3 ct3 : Value}
    {f4 : Addr} {od4 an4 : Option Addr} {sl4 : Array (Option Value)} {oc4 kV4 dc4 pm4 cd4 ct4 : Value}
    {f5 : Addr} {od5 an5 : Option Addr} {sl5 : Array (Option Value)} {oc5 kV5 dc5 pm5 cd5 ct5 : Value}
    {f6 : Addr} {od6 an6 : Option Addr} {sl6 : Array (Option Value)} {oc6 kV6 dc6 pm6 cd6 ct6 : Value}
    {f7 : Addr} {od7 an7 : Option Addr} {sl7 : Array (Option Value)} {oc7 kV7 dc7 pm7 cd7 ct7 : Value}
    {f8 : Addr} {od8 an8 : Option Addr} {sl8 : Array (Option Value)} {oc8 kV8 dc8 pm8 cd8 ct8 : Value}
    {f9 : Addr} {od9 an9 : Option Addr} {sl9 : Array (Option Value)} {oc9 kV9 dc9 pm9 cd9 ct9 : Value}
    {f10 : Addr} {od10 an10 : Option Addr} {sl10 : Array (Option Value)} {oc10 kV10 dc10 pm10 cd10 ct10 : Value}
    {f11 : Addr} {od11 an11 : Option Addr} {sl11 : Array (Option Value)} {oc11 kV11 dc11 pm11 cd11 ct11 : Value}
    {f12 : Addr} {od12 an12 : Option Addr} {sl12 : Array (Option Value)} {oc12 kV12 dc12 pm12 cd12 ct12 : Value}
    {f13 : Addr} {od13 an13 : Option Addr} {sl13 : Array (Option Value)} {oc13 kV13 dc13 pm13 cd13 ct13 : Value}
    {f14 : Addr} {od14 an14 : Option Addr} {sl14 : Array (Option Value)} {oc14 kV14 dc14 pm14 cd14 ct14 : Value}
    {f15 : Addr} {od15 an15 : Option Addr} {sl15 : Array (Option Value)} {oc15 kV15 dc15 pm15 cd15 ct15 : Value}
    {f16 : Addr} {od16 an16 : Option Addr} {sl16 : Array (Option Value)} {oc16 kV16 dc16 pm16 cd16 ct16 : Value}
    {f17 : Addr} {od17 an17 : Option Addr} {sl17 : Array (Option Value)} {oc17 kV17 dc17 pm17 cd17 ct17 : Value}
    {f18 : Addr} {od18 an18 : Option Addr} {sl18 : Array (Option Value)} {oc18 kV18 dc18 pm18 cd18 ct18 : Value}
    {f19 : Addr} {od19 an19 : Option Addr} {sl19 : Array (Option Value)} {oc19 kV19 dc19 pm19 cd19 ct19 : Value}
    {aN : Addr} {odN : Option Addr} {nN : Nat} {slN : Array (Option Value)} {t0 t1 t2 : Tok}
    (a0 : PySem.W.nsIn K mainGlobals "divisor" = some (some (.ref f0))) (l0 : K.lookup f0 = some ⟨oc0, od0, .func (PySem.W.fnOf "divisor" "divisor" (defArgs sDivisor) (defBody sDivisor) (defScope sDivisor) .none kV0 dc0 pm0 an0 cd0 ct0), sl0⟩) (c0 : PySem.W.codeIn K cd0 "divisor" = true) (k0 : PySem.W.keepIn K (.ref f0) = true)
    (a1 : PySem.W.nsIn K mainGlobals "lowest" = some (some (.ref f1))) (l1 : K.lookup f1 = some ⟨oc1, od1, .func (PySem.W.fnOf "lowest" "lowest" (defArgs sLowest) (defBody sLowest) (defScope sLowest) .none kV1 dc1 pm1 an1 cd1 ct1), sl1⟩) (c1 : PySem.W.codeIn K cd1 "lowest" = true) (k1 : PySem.W.keepIn K (.ref f1) = true)
    (a2 : PySem.W.nsIn K mainGlobals "plus" = some (some (.ref f2))) (l2 : K.lookup f2 = some ⟨oc2, od2, .func (PySem.W.fnOf "plus" "plus" (defArgs sPlus) (defBody sPlus) (defScope sPlus) .none kV2 dc2 pm2 an2 cd2 ct2), sl2⟩) (c2 : PySem.W.codeIn K cd2 "plus" = true) (k2 : PySem.W.keepIn K (.ref f2) = true)
    (a3 : PySem.W.nsIn K mainGlobals "minus" = some (some (.ref f3))) (l3 : K.lookup f3 = some ⟨oc3, od3, .func (PySem.W.fnOf "minus" "minus" (defArgs sMinus) (defBody sMinus) (defScope sMinus) .none kV3 dc3 pm3 an3 cd3 ct3), sl3⟩) (c3 : PySem.W.codeIn K cd3 "minus" = true) (k3 : PySem.W.keepIn K (.ref f3) = true)
    (a4 : PySem.W.nsIn K mainGlobals "times" = some (some (.ref f4))) (l4 : K.lookup f4 = some ⟨oc4, od4, .func (PySem.W.fnOf "times" "times" (defArgs sTimes) (defBody sTimes) (defScope sTimes) .none kV4 dc4 pm4 an4 cd4 ct4), sl4⟩) (c4 : PySem.W.codeIn K cd4 "times" = true) (k4 : PySem.W.keepIn K (.ref f4) = true)
    (a5 : PySem.W.nsIn K mainGlobals "over" = some (some (.ref f5))) (l5 : K.lookup f5 = some ⟨oc5, od5, .func (PySem.W.fnOf "over" "over" (defArgs sOver) (defBody sOver) (defScope sOver) .none kV5 dc5 pm5 an5 cd5 ct5), sl5⟩) (c5 : PySem.W.codeIn K cd5 "over" = true) (k5 : PySem.W.keepIn K (.ref f5) = true)
    (a6 : PySem.W.nsIn K mainGlobals "sign_of" = some (some (.ref f6))) (l6 : K.lookup f6 = some ⟨oc6, od6, .func (PySem.W.fnOf "sign_of" "sign_of" (defArgs sSign) (defBody sSign) (defScope sSign) .none kV6 dc6 pm6 an6 cd6 ct6), sl6⟩) (c6 : PySem.W.codeIn K cd6 "sign_of" = true) (k6 : PySem.W.keepIn K (.ref f6) = true)
    (a7 : PySem.W.nsIn K mainGlobals "less" = some (some (.ref f7))) (l7 : K.lookup f7 = some ⟨oc7, od7, .func (PySem.W.fnOf "less" "less" (defArgs sLess) (defBody sLess) (defScope sLess) .none kV7 dc7 pm7 an7 cd7 ct7), sl7⟩) (c7 : PySem.W.codeIn K cd7 "less" = true) (k7 : PySem.W.keepIn K (.ref f7) = true)
    (a8 : PySem.W.nsIn K mainGlobals "root_below" = some (some (.ref f8))) (l8 : K.lookup f8 = some ⟨oc8, od8, .func (PySem.W.fnOf "root_below" "root_below" (defArgs sRoot) (defBody sRoot) (defScope sRoot) .none kV8 dc8 pm8 an8 cd8 ct8), sl8⟩) (c8 : PySem.W.codeIn K cd8 "root_below" = true) (k8 : PySem.W.keepIn K (.ref f8) = true)
    (a9 : PySem.W.nsIn K mainGlobals "floor_of" = some (some (.ref f9))) (l9 : K.lookup f9 = some ⟨oc9, od9, .func (PySem.W.fnOf "floor_of" "floor_of" (defArgs sFloor) (defBody sFloor) (defScope sFloor) .none kV9 dc9 pm9 an9 cd9 ct9), sl9⟩) (c9 : PySem.W.codeIn K cd9 "floor_of" = true) (k9 : PySem.W.keepIn K (.ref f9) = true)
    (a10 : PySem.W.nsIn K mainGlobals "simplest" = some (some (.ref f10))) (l10 : K.lookup f10 = some ⟨oc10, od10, .func (PySem.W.fnOf "simplest" "simplest" (defArgs sSimp) (defBody sSimp) (defScope sSimp) .none kV10 dc10 pm10 an10 cd10 ct10), sl10⟩) (c10 : PySem.W.codeIn K cd10 "simplest" = true) (k10 : PySem.W.keepIn K (.ref f10) = true)
    (a11 : PySem.W.nsIn K mainGlobals "_law_cell" = some (some (.ref f11))) (l11 : K.lookup f11 = some ⟨oc11, od11, .func (PySem.W.fnOf "_law_cell" "_law_cell" (defArgs sCell) (defBody sCell) (defScope sCell) .none kV11 dc11 pm11 an11 cd11 ct11), sl11⟩) (c11 : PySem.W.codeIn K cd11 "_law_cell" = true) (k11 : PySem.W.keepIn K (.ref f11) = true)
    (a12 : PySem.W.nsIn K mainGlobals "_law_box" = some (some (.ref f12))) (l12 : K.lookup f12 = some ⟨oc12, od12, .func (PySem.W.fnOf "_law_box" "_law_box" (defArgs sBox) (defBody sBox) (defScope sBox) .none kV12 dc12 pm12 an12 cd12 ct12), sl12⟩) (c12 : PySem.W.codeIn K cd12 "_law_box" = true) (k12 : PySem.W.keepIn K (.ref f12) = true)
    (a13 : PySem.W.nsIn K mainGlobals "_law_take" = some (some (.ref f13))) (l13 : K.lookup f13 = some ⟨oc13, od13, .func (PySem.W.fnOf "_law_take" "_law_take" (defArgs sTake) (defBody sTake) (defScope sTake) .none kV13 dc13 pm13 an13 cd13 ct13), sl13⟩) (c13 : PySem.W.codeIn K cd13 "_law_take" = true) (k13 : PySem.W.keepIn K (.ref f13) = true)
    (a14 : PySem.W.nsIn K mainGlobals "_law_low" = some (some (.ref f14))) (l14 : K.lookup f14 = some ⟨oc14, od14, .func (PySem.W.fnOf "_law_low" "_law_low" (defArgs sLow) (defBody sLow) (defScope sLow) .none kV14 dc14 pm14 an14 cd14 ct14), sl14⟩) (c14 : PySem.W.codeIn K cd14 "_law_low" = true) (k14 : PySem.W.keepIn K (.ref f14) = true)
    (a15 : PySem.W.nsIn K mainGlobals "_law_root" = some (some (.ref f15))) (l15 : K.lookup f15 = some ⟨oc15, od15, .func (PySem.W.fnOf "_law_root" "_law_root" (defArgs sLRoot) (defBody sLRoot) (defScope sLRoot) .none kV15 dc15 pm15 an15 cd15 ct15), sl15⟩) (c15 : PySem.W.codeIn K cd15 "_law_root" = true) (k15 : PySem.W.keepIn K (.ref f15) = true)
    (a16 : PySem.W.nsIn K mainGlobals "_law_any" = some (some (.ref f16))) (l16 : K.lookup f16 = some ⟨oc16, od16, .func (PySem.W.fnOf "_law_any" "_law_any" (defArgs sAny) (defBody sAny) (defScope sAny) .none kV16 dc16 pm16 an16 cd16 ct16), sl16⟩) (c16 : PySem.W.codeIn K cd16 "_law_any" = true) (k16 : PySem.W.keepIn K (.ref f16) = true)
    (a17 : PySem.W.nsIn K mainGlobals "_law_ordered" = some (some (.ref f17))) (l17 : K.lookup f17 = some ⟨oc17, od17, .func (PySem.W.fnOf "_law_ordered" "_law_ordered" (defArgs sOrd) (defBody sOrd) (defScope sOrd) .none kV17 dc17 pm17 an17 cd17 ct17), sl17⟩) (c17 : PySem.W.codeIn K cd17 "_law_ordered" = true) (k17 : PySem.W.keepIn K (.ref f17) = true)
    (a18 : PySem.W.nsIn K mainGlobals "_law_reckoned" = some (some (.ref f18))) (l18 : K.lookup f18 = some ⟨oc18, od18, .func (PySem.W.fnOf "_law_reckoned" "_law_reckoned" (defArgs sReck) (defBody sReck) (defScope sReck) .none kV18 dc18 pm18 an18 cd18 ct18), sl18⟩) (c18 : PySem.W.codeIn K cd18 "_law_reckoned" = true) (k18 : PySem.W.keepIn K (.ref f18) = true)
    (a19 : PySem.W.nsIn K mainGlobals "law" = some (some (.ref f19))) (l19 : K.lookup f19 = some ⟨oc19, od19, .func (PySem.W.fnOf "law" "law" (defArgs sLaw) (defBody sLaw) (defScope sLaw) .none kV19 dc19 pm19 an19 cd19 ct19), sl19⟩) (c19 : PySem.W.codeIn K cd19 "law" = true) (k19 : PySem.W.keepIn K (.ref f19) = true)
    (aNn : PySem.W.nsIn K mainGlobals "NOUGHT" = some (some (.ref aN))) (lN : K.lookup aN = some ⟨.type "tuple", odN, .seq #[.int 0 t0, .int 0 t1, .int 1 t2] nN, slN⟩)
    (z0 : PySem.W.nsIn K mainGlobals "abs" = some none) (z1 : PySem.W.nsIn K mainGlobals "len" = some none) (z2 : PySem.W.nsIn K mainGlobals "range" = some none) (z3 : PySem.W.nsIn K mainGlobals "max" = some none) (z4 : PySem.W.nsIn K mainGlobals "min" = some none) (z5 : PySem.W.nsIn K mainGlobals "int" = some none) :
    ∃ fd : FuncData, (∀ (s : Shared) (v : Value), BindsTo s fd ⟨[v], []⟩ [("_law_script", v)]) ∧ ∀ base : Heap, K.In base → base.Ns mainGlobals mg → FnOk l.prog w K mg base CX0 7 fa fd ["_law_script"] (spLaw K) := by
  have e := hfa.symm.trans (PySem.W.mg_of X G a19)
  cases e
  have T0 : Txt K mg "divisor" sDivisor ["one", "other"] f0 _ := txt_mk X G a0 l0 c0 k0 fun _ _ _ _ _ _ us hl => match us, hl with | [_, _], _ => rfl
  have T1 : Txt K mg "lowest" sLowest ["a", "b", "c"] f1 _ := txt_mk X G a1 l1 c1 k1 fun _ _ _ _ _ _ us hl => match us, hl with | [_, _, _], _ => rfl
  have T2 : Txt K mg "plus" sPlus ["root", "one", "other"] f2 _ := txt_mk X G a2 l2 c2 k2 fun _ _ _ _ _ _ us hl => match us, hl with | [_, _, _], _ => rfl
  have T3 : Txt K mg "minus" sMinus ["root", "one", "other"] f3 _ := txt_mk X G a3 l3 c3 k3 fun _ _ _ _ _ _ us hl => match us, hl with | [_, _, _], _ => rfl
  have T4 : Txt K mg "times" sTimes ["root", "one", "other"] f4 _ := txt_mk X G a4 l4 c4 k4 fun _ _ _ _ _ _ us hl => match us, hl with | [_, _, _], _ => rfl
  have T5 : Txt K mg "over" sOver ["root", "one", "other"] f5 _ := txt_mk X G a5 l5 c5 k5 fun _ _ _ _ _ _ us hl => match us, hl with | [_, _, _], _ => rfl
  have T6 : Txt K mg "sign_of" sSign ["root", "one"] f6 _ := txt_mk X G a6 l6 c6 k6 fun _ _ _ _ _ _ us hl => match us, hl with | [_, _], _ => rfl
  have T7 : Txt K mg "less" sLess ["root", "one", "other"] f7 _ := txt_mk X G a7 l7 c7 k7 fun _ _ _ _ _ _ us hl => match us, hl with | [_, _, _], _ => rfl
  have T8 : Txt K mg "root_below" sRoot ["number"] f8 _ := txt_mk X G a8 l8 c8 k8 fun _ _ _ _ _ _ us hl => match us, hl with | [_], _ => rfl
  have T9 : Txt K mg "floor_of" sFloor ["root", "one"] f9 _ := txt_mk X G a9 l9 c9 k9 fun _ _ _ _ _ _ us hl => match us, hl with | [_, _], _ => rfl
  have T10 : Txt K mg "simplest" sSimp ["root", "one", "other"] f10 _ := txt_mk X G a10 l10 c10 k10 fun _ _ _ _ _ _ us hl => match us, hl with | [_, _, _], _ => rfl
  have T11 : Txt K mg "_law_cell" sCell ["_law_script", "_law_k"] f11 _ := txt_mk X G a11 l11 c11 k11 fun _ _ _ _ _ _ us hl => match us, hl with | [_, _], _ => rfl
  have T12 : Txt K mg "_law_box" sBox ["_law_script", "_law_k"] f12 _ := txt_mk X G a12 l12 c12 k12 fun _ _ _ _ _ _ us hl => match us, hl with | [_, _], _ => rfl
  have T13 : Txt K mg "_law_take" sTake ["_law_box_here", "_law_many"] f13 _ := txt_mk X G a13 l13 c13 k13 fun _ _ _ _ _ _ us hl => match us, hl with | [_, _], _ => rfl
  have T14 : Txt K mg "_law_low" sLow ["_law_a", "_law_b", "_law_c"] f14 _ := txt_mk X G a14 l14 c14 k14 fun _ _ _ _ _ _ us hl => match us, hl with | [_, _, _], _ => rfl
  have T15 : Txt K mg "_law_root" sLRoot ["_law_box_here"] f15 _ := txt_mk X G a15 l15 c15 k15 fun _ _ _ _ _ _ us hl => match us, hl with | [_], _ => rfl
  have T16 : Txt K mg "_law_any" sAny ["_law_box_here", "_law_root_here"] f16 _ := txt_mk X G a16 l16 c16 k16 fun _ _ _ _ _ _ us hl => match us, hl with | [_, _], _ => rfl
  have T17 : Txt K mg "_law_ordered" sOrd ["_law_root_here", "_law_one", "_law_other", "_law_third"] f17 _ := txt_mk X G a17 l17 c17 k17 fun _ _ _ _ _ _ us hl => match us, hl with | [_, _, _, _], _ => rfl
  have T18 : Txt K mg "_law_reckoned" sReck ["_law_root_here", "_law_one", "_law_other", "_law_third"] f18 _ := txt_mk X G a18 l18 c18 k18 fun _ _ _ _ _ _ us hl => match us, hl with | [_, _, _, _], _ => rfl
  have T19 : Txt K mg "law" sLaw ["_law_script"] fa _ := txt_mk X G a19 l19 c19 k19 fun _ _ _ _ _ _ us hl => match us, hl with | [_], _ => rfl
  have b0 := PySem.W.mg_none_of X G z0
  have b1 := PySem.W.mg_none_of X G z1
  have b2 := PySem.W.mg_none_of X G z2
  have b3 := PySem.W.mg_none_of X G z3
  have b4 := PySem.W.mg_none_of X G z4
  have b5 := PySem.W.mg_none_of X G z5
  have mN := PySem.W.mg_of X G aNn
  have tN : ∀ H : Hp, At K H aN (wT 0) := fun H => .inr ⟨_, _, _, lN, rfl, rfl, (by show 3 ≤ sizeLine; decide), .cons ⟨_, rfl⟩ (.cons ⟨_, rfl⟩ (.cons ⟨_, rfl⟩ .nil))⟩
  refine ⟨PySem.W.fnOf "law" "law" (defArgs sLaw) (defBody sLaw) (defScope sLaw) .none kV19 dc19 pm19 an19 cd19 ct19, fun s v => .of_eq rfl, fun base _ _ => ?_⟩
  have lowest : ∀ k, FnOk l.prog w K mg base CX0 (k + 2) f1 _ ["a", "b", "c"] (spLowest K) := fun k => ok_lowest T1.F T0.F T0.b T0.m b0
  have plus : ∀ k, FnOk l.prog w K mg base CX0 (k + 3) f2 _ ["root", "one", "other"] (spPlus K) := fun k => ok_plus T2 T1 (lowest k)
  have minus : ∀ k, FnOk l.prog w K mg base CX0 (k + 4) f3 _ ["root", "one", "other"] (spMinus K) := fun k => ok_minus T3 T2 (plus k)
  have times : ∀ k, FnOk l.prog w K mg base CX0 (k + 3) f4 _ ["root", "one", "other"] (spTimes K) := fun k => ok_times T4 T1 (lowest k)
  have over : ∀ k, FnOk l.prog w K mg base CX0 (k + 4) f5 _ ["root", "one", "other"] (spOver K) := fun k => ok_over T5 T1 (lowest k) T4 (times k)
  have sign : ∀ k, FnOk l.prog w K mg base CX0 (k + 1) f6 _ ["root", "one"] (spSign K) := fun k => ok_sign T6
  have less : ∀ k, FnOk l.prog w K mg base CX0 (k + 5) f7 _ ["root", "one", "other"] (spLess K) := fun k => ok_less T7 T6 (sign (k + 3)) T3 (minus k)
  have root : ∀ k, FnOk l.prog w K mg base CX0 (k + 1) f8 _ ["number"] spRoot := fun k => ok_root T8
  have floor : ∀ k, FnOk l.prog w K mg base CX0 (k + 2) f9 _ ["root", "one"] (spFloor K) := fun k => ok_floor T9 T8 (root k)
  have simp : FnOk l.prog w K mg base CX0 6 f10 _ ["root", "one", "other"] (spSimp K) := ok_simp T10 T7 (less 0) T9 (floor 3) T3 (minus 1) T5 (over 1) mN tN
  have cell : ∀ k, FnOk l.prog w K mg base CX0 (k + 1) f11 _ ["_law_script", "_law_k"] (spCell K) := fun k => ok_cell T11 b1
  have box : ∀ k, FnOk l.prog w K mg base CX0 (k + 2) f12 _ ["_law_script", "_law_k"] (spBox K) := fun k => ok_box T12 T11 (cell k) b2
  have take : ∀ k, FnOk l.prog w K mg base CX0 (k + 1) f13 _ ["_law_box_here", "_law_many"] spTake := fun k => ok_take T13
  have lowL : ∀ k, FnOk l.prog w K mg base CX0 (k + 1) f14 _ ["_law_a", "_law_b", "_law_c"] (spLowL K) := fun k => ok_lowL T14 b0
  have lroot : ∀ k, FnOk l.prog w K mg base CX0 (k + 2) f15 _ ["_law_box_here"] spLRoot := fun k => ok_lroot T15 T13 (take k)
  have anyy : ∀ k, FnOk l.prog w K mg base CX0 (k + 2) f16 _ ["_law_box_here", "_law_root_here"] (spAny K) := fun k => ok_any T16 T13 (take k) T14 (lowL k) b5
  have ord : FnOk l.prog w K mg base CX0 6 f17 _ ["_law_root_here", "_law_one", "_law_other", "_law_third"] (sp3 K) := ok_ord T7 (less 0) T2 (plus 2) T4 (times 2) T5 (over 1) T3 (minus 1) T17
  have reck : FnOk l.prog w K mg base CX0 6 f18 _ ["_law_root_here", "_law_one", "_law_other", "_law_third"] (sp3 K) := ok_reck T7 (less 0) T2 (plus 2) T4 (times 2) T5 (over 1) T3 (minus 1) T18
  exact ok_law T19 T7 (less 1) T2 (plus 3) T9 (floor 4) T12 (box 4) T15 (lroot 4) T16 (anyy 4) T17 ord T18 reck T10 simp b2 b3 b4 b1
end K5W
open PySem PySem.W PyProof.Rows
set_option maxHeartbeats 0 in
theorem PySem.Challenge.cw_cutexchange_k05_whole_order_and_reckonin_holds : PySem.Challenge.rw_cutexchange_k05_whole_order_and_reckonin.Holds := by
  w_on; o_law; k_head; (case hw => w_witness2)
  k_fill
  refine L2.walk_of (l := PySem.Challenge.rw_cutexchange_k05_whole_order_and_reckonin) (n := 63) (k := 7) (x := "_law_script") (CX := fun _ => L2.CX0) (sp := fun w => K5W.spLaw _) rfl (by decide) rfl ⟨rfl, by decide, by decide⟩ (fun w h Y => PySem.W.kIn_of Y) ?F (fun _ _ a ns hl _ hS => ⟨a, ns, rfl, hS, hl, fun _ => rfl⟩) (fun _ _ _ _ _ h => h)
  case F =>
    intro w mg fa h KX G hmg
    refine' K5W.all_mk KX G hmg ?a0 ?l0 ?c0 ?k0 ?a1 ?l1 ?c1 ?k1 ?a2 ?l2 ?c2 ?k2 ?a3 ?l3 ?c3 ?k3 ?a4 ?l4 ?c4 ?k4 ?a5 ?l5 ?c5 ?k5 ?a6 ?l6 ?c6 ?k6 ?a7 ?l7 ?c7 ?k7 ?a8 ?l8 ?c8 ?k8 ?a9 ?l9 ?c9 ?k9 ?a10 ?l10 ?c10 ?k10 ?a11 ?l11 ?c11 ?k11 ?a12 ?l12 ?c12 ?k12 ?a13 ?l13 ?c13 ?k13 ?a14 ?l14 ?c14 ?k14 ?a15 ?l15 ?c15 ?k15 ?a16 ?l16 ?c16 ?k16 ?a17 ?l17 ?c17 ?k17 ?a18 ?l18 ?c18 ?k18 ?a19 ?l19 ?c19 ?k19 ?aNn ?lN ?z0 ?z1 ?z2 ?z3 ?z4 ?z5
    (case a0 => k_is); (case l0 => k_is); (case c0 => k_is); (case k0 => k_is)
    (case a1 => k_is); (case l1 => k_is); (case c1 => k_is); (case k1 => k_is)
    (case a2 => k_is); (case l2 => k_is); (case c2 => k_is); (case k2 => k_is)
    (case a3 => k_is); (case l3 => k_is); (case c3 => k_is); (case k3 => k_is)
    (case a4 => k_is); (case l4 => k_is); (case c4 => k_is); (case k4 => k_is)
    (case a5 => k_is); (case l5 => k_is); (case c5 => k_is); (case k5 => k_is)
    (case a6 => k_is); (case l6 => k_is); (case c6 => k_is); (case k6 => k_is)
    (case a7 => k_is); (case l7 => k_is); (case c7 => k_is); (case k7 => k_is)
    (case a8 => k_is); (case l8 => k_is); (case c8 => k_is); (case k8 => k_is)
    (case a9 => k_is); (case l9 => k_is); (case c9 => k_is); (case k9 => k_is)
    (case a10 => k_is); (case l10 => k_is); (case c10 => k_is); (case k10 => k_is)
    (case a11 => k_is); (case l11 => k_is); (case c11 => k_is); (case k11 => k_is)
    (case a12 => k_is); (case l12 => k_is); (case c12 => k_is); (case k12 => k_is)
    (case a13 => k_is); (case l13 => k_is); (case c13 => k_is); (case k13 => k_is)
    (case a14 => k_is); (case l14 => k_is); (case c14 => k_is); (case k14 => k_is)
    (case a15 => k_is); (case l15 => k_is); (case c15 => k_is); (case k15 => k_is)
    (case a16 => k_is); (case l16 => k_is); (case c16 => k_is); (case k16 => k_is)
    (case a17 => k_is); (case l17 => k_is); (case c17 => k_is); (case k17 => k_is)
    (case a18 => k_is); (case l18 => k_is); (case c18 => k_is); (case k18 => k_is)
    (case a19 => k_is); (case l19 => k_is); (case c19 => k_is); (case k19 => k_is)
    (case aNn => k_is); (case lN => k_is)
    (case z0 => k_is); (case z1 => k_is); (case z2 => k_is); (case z3 => k_is); (case z4 => k_is); (case z5 => k_is)
