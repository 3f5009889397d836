import PyProof.Rows.All
import Wide.All
import OpenK.AllK
import Wide.FinOn
import PyProof.EqAt
import PyProof.EqKinds
import PyProof.TupleCall
import PyProof.NeKinds
import Open.SpecLaws
import KE.OsGo
import HandS.ForSpec
import HandS.Comp
import HandS.Dict
import HandS.Iter
import HandS.Text
import HandS.Deep
import HandS.Wide
import HandS.StrMore
import HandS.Replace
import HandS.Strs
import HandS.TupSets
import HandS.TryMany
import HandS.ExcCtx
import HandS.Hot
import HandS.HotCalls
import HandS.RaiseOp
import HandS.SuiteRaise
import HandS.RaiseFrom
import HandS.ExcInit
import HandS.ExcInitHot
import HandS.ExcField
import HandS.CallRecv
import PySem.Challenge.RW_scoretexts_s01_answers
import HandS.Walk
import PyFlatLaws
/-! # Fractions: plain laws of the specification's own -/
namespace Pf
open Sx62

theorem frac_ext {x y : Frac} (h1 : x.num = y.num) (h2 : x.den = y.den) : x = y := by
  cases x; cases y; cases h1; cases h2; rfl

theorem lowest_num (a b : Nat) : (lowest a b).num = a / Nat.gcd a b := rfl
theorem lowest_den (a b : Nat) : (lowest a b).den = b / Nat.gcd a b := rfl

theorem gcd_pos {a b : Nat} (hb : 0 < b) : 0 < Nat.gcd a b := Nat.gcd_pos_of_pos_right _ hb
theorem lowest_num_mul (a b : Nat) : (lowest a b).num * Nat.gcd a b = a := Nat.div_mul_cancel (Nat.gcd_dvd_left a b)
theorem lowest_den_mul (a b : Nat) : (lowest a b).den * Nat.gcd a b = b := Nat.div_mul_cancel (Nat.gcd_dvd_right a b)
theorem lowest_den_pos {a b : Nat} (hb : 0 < b) : 0 < (lowest a b).den := by
  have h := lowest_den_mul a b
  cases e : (lowest a b).den with
  | zero => rw [e, Nat.zero_mul] at h; omega
  | succ n => omega
theorem lowest_coprime {a b : Nat} (hb : 0 < b) : Nat.Coprime (lowest a b).num (lowest a b).den := Nat.coprime_div_gcd_div_gcd (gcd_pos hb)
theorem lowest_cross {a b : Nat} : (lowest a b).num * b = a * (lowest a b).den := by
  have h1 := lowest_num_mul a b
  have h2 := lowest_den_mul a b
  generalize (lowest a b).num = n at *
  generalize (lowest a b).den = d at *
  generalize Nat.gcd a b = g at *
  rw [← h1, ← h2, Nat.mul_right_comm n g d, Nat.mul_assoc n d g]
theorem coprime_eq {a b c d : Nat} (hb : 0 < b) (hd : 0 < d) (h1 : Nat.Coprime a b) (h2 : Nat.Coprime c d) (h : a * d = c * b) : a = c ∧ b = d := by
  have e1 : b ∣ d := by
    refine Nat.Coprime.dvd_of_dvd_mul_left (m := a) h1.symm ?_
    rw [h]
    exact Nat.dvd_mul_left _ _
  have e2 : d ∣ b := by
    refine Nat.Coprime.dvd_of_dvd_mul_left (m := c) h2.symm ?_
    rw [← h]
    exact Nat.dvd_mul_left _ _
  have e := Nat.dvd_antisymm e1 e2
  subst e
  exact ⟨Nat.eq_of_mul_eq_mul_right hb h, rfl⟩
theorem lowest_eq {a b c d : Nat} (hb : 0 < b) (hd : 0 < d) (h : a * d = c * b) : lowest a b = lowest c d := by
  have p1 := lowest_den_pos (a := a) hb
  have p2 := lowest_den_pos (a := c) hd
  have c1 := lowest_cross (a := a) (b := b)
  have c2 := lowest_cross (a := c) (b := d)
  have key : (lowest a b).num * (lowest c d).den = (lowest c d).num * (lowest a b).den := by
    have q1 := lowest_coprime (a := a) hb
    generalize (lowest a b).num = n1 at *
    generalize (lowest a b).den = d1 at *
    generalize (lowest c d).num = n2 at *
    generalize (lowest c d).den = d2 at *
    -- n1*b = a*d1, n2*d = c*d2, a*d = c*b
    have hbd : 0 < b * d := Nat.mul_pos hb hd
    refine Nat.eq_of_mul_eq_mul_right hbd ?_
    calc n1 * d2 * (b * d) = (n1 * b) * (d2 * d) := by ac_rfl
      _ = (a * d1) * (d2 * d) := by rw [c1]
      _ = (a * d) * (d1 * d2) := by ac_rfl
      _ = (c * b) * (d1 * d2) := by rw [h]
      _ = (c * d2) * (d1 * b) := by ac_rfl
      _ = (n2 * d) * (d1 * b) := by rw [c2]
      _ = n2 * d1 * (b * d) := by ac_rfl
  obtain ⟨e1, e2⟩ := coprime_eq p1 p2 (lowest_coprime hb) (lowest_coprime hd) key
  exact frac_ext e1 e2
theorem lowest_inj {a b c d : Nat} (hb : 0 < b) (hd : 0 < d) (h : lowest a b = lowest c d) : a * d = c * b := by
  have c1 := lowest_cross (a := a) (b := b)
  have c2 := lowest_cross (a := c) (b := d)
  have p2 := lowest_den_pos (a := c) hd
  rw [h] at c1
  generalize (lowest c d).num = n2 at *
  generalize (lowest c d).den = d2 at *
  -- n2*b = a*d2 ; n2*d = c*d2
  refine Nat.eq_of_mul_eq_mul_right p2 ?_
  calc a * d * d2 = (a * d2) * d := by ac_rfl
    _ = (n2 * b) * d := by rw [c1]
    _ = (n2 * d) * b := by ac_rfl
    _ = (c * d2) * b := by rw [c2]
    _ = c * b * d2 := by ac_rfl
/-- in lowest terms -/
def Lw (x : Frac) : Prop := 0 < x.den ∧ Nat.Coprime x.num x.den
theorem lw_lowest {a b : Nat} (hb : 0 < b) : Lw (lowest a b) := ⟨lowest_den_pos hb, lowest_coprime hb⟩
theorem Lw.eq {x : Frac} (h : Lw x) : lowest x.num x.den = x := by
  have g : Nat.gcd x.num x.den = 1 := h.2
  refine frac_ext ?_ ?_
  · rw [lowest_num, g, Nat.div_one]
  · rw [lowest_den, g, Nat.div_one]
theorem lw_plus {x y : Frac} (hx : 0 < x.den) (hy : 0 < y.den) : Lw (x.plus y) := lw_lowest (Nat.mul_pos hx hy)
theorem plus_low_left {a b : Nat} {y : Frac} (hb : 0 < b) (hy : 0 < y.den) : (lowest a b).plus y = lowest (a * y.den + y.num * b) (b * y.den) := by
  have p := lowest_den_pos (a := a) hb
  have c := lowest_cross (a := a) (b := b)
  unfold Frac.plus
  generalize (lowest a b).num = n at *
  generalize (lowest a b).den = d at *
  refine lowest_eq (Nat.mul_pos p hy) (Nat.mul_pos hb hy) ?_
  rw [Nat.add_mul, Nat.add_mul]
  have e1 : n * y.den * (b * y.den) = a * y.den * (d * y.den) := by
    calc n * y.den * (b * y.den) = (n * b) * (y.den * y.den) := by ac_rfl
      _ = (a * d) * (y.den * y.den) := by rw [c]
      _ = a * y.den * (d * y.den) := by ac_rfl
  have e2 : y.num * d * (b * y.den) = y.num * b * (d * y.den) := by ac_rfl
  rw [e1, e2]
theorem plus_comm (x y : Frac) : x.plus y = y.plus x := by
  unfold Frac.plus
  rw [Nat.add_comm, Nat.mul_comm x.den y.den]
theorem plus_low_right {a b : Nat} {y : Frac} (hb : 0 < b) (hy : 0 < y.den) : y.plus (lowest a b) = lowest (y.num * b + a * y.den) (y.den * b) := by
  rw [plus_comm, plus_low_left hb hy, Nat.add_comm, Nat.mul_comm b y.den]
theorem plus_assoc {x y z : Frac} (hx : 0 < x.den) (hy : 0 < y.den) (hz : 0 < z.den) : (x.plus y).plus z = x.plus (y.plus z) := by
  have h1 : (x.plus y).plus z = lowest ((x.num * y.den + y.num * x.den) * z.den + z.num * (x.den * y.den)) (x.den * y.den * z.den) := plus_low_left (Nat.mul_pos hx hy) hz
  have h2 : x.plus (y.plus z) = lowest (x.num * (y.den * z.den) + (y.num * z.den + z.num * y.den) * x.den) (x.den * (y.den * z.den)) := plus_low_right (Nat.mul_pos hy hz) hx
  rw [h1, h2]
  refine lowest_eq (Nat.mul_pos (Nat.mul_pos hx hy) hz) (Nat.mul_pos hx (Nat.mul_pos hy hz)) ?_
  rw [Nat.mul_assoc x.den y.den z.den]
  congr 1
  rw [Nat.add_mul, Nat.add_mul]
  generalize x.num = a, y.num = b, z.num = c, x.den = d, y.den = e, z.den = f
  have e1 : a * e * f = a * (e * f) := Nat.mul_assoc ..
  have e2 : b * d * f = b * f * d := by ac_rfl
  have e3 : c * (d * e) = c * e * d := by ac_rfl
  omega
/-- plus nought -/
theorem plus_zero {x : Frac} (h : Lw x) : x.plus ⟨0, 1⟩ = x := by
  show lowest (x.num * 1 + 0 * x.den) (x.den * 1) = x
  rw [Nat.mul_one, Nat.zero_mul, Nat.add_zero, Nat.mul_one, h.eq]
theorem zero_plus {x : Frac} (h : Lw x) : (⟨0, 1⟩ : Frac).plus x = x := by
  rw [plus_comm]; exact plus_zero h

/-! ### the product -/
def mul (x y : Frac) : Frac := lowest (x.num * y.num) (x.den * y.den)
theorem mul_low_left {a b : Nat} {y : Frac} (hb : 0 < b) (hy : 0 < y.den) : mul (lowest a b) y = lowest (a * y.num) (b * y.den) := by
  have p := lowest_den_pos (a := a) hb
  have c := lowest_cross (a := a) (b := b)
  unfold mul
  generalize (lowest a b).num = n at *
  generalize (lowest a b).den = d at *
  refine lowest_eq (Nat.mul_pos p hy) (Nat.mul_pos hb hy) ?_
  calc n * y.num * (b * y.den) = (n * b) * (y.num * y.den) := by ac_rfl
    _ = (a * d) * (y.num * y.den) := by rw [c]
    _ = a * y.num * (d * y.den) := by ac_rfl
theorem mul_comm (x y : Frac) : mul x y = mul y x := by
  unfold mul
  rw [Nat.mul_comm x.num, Nat.mul_comm x.den]
theorem mul_low_right {a b : Nat} {y : Frac} (hb : 0 < b) (hy : 0 < y.den) : mul y (lowest a b) = lowest (y.num * a) (y.den * b) := by
  rw [mul_comm, mul_low_left hb hy, Nat.mul_comm a, Nat.mul_comm b]
theorem mul_one {x : Frac} (h : Lw x) : mul x ⟨1, 1⟩ = x := by
  show lowest (x.num * 1) (x.den * 1) = x
  rw [Nat.mul_one, Nat.mul_one, h.eq]
theorem mul_den_pos {x y : Frac} (hx : 0 < x.den) (hy : 0 < y.den) : 0 < (mul x y).den := lowest_den_pos (Nat.mul_pos hx hy)
theorem mul_assoc {x y z : Frac} (hx : 0 < x.den) (hy : 0 < y.den) (hz : 0 < z.den) : mul (mul x y) z = mul x (mul y z) := by
  have h1 : mul (mul x y) z = lowest (x.num * y.num * z.num) (x.den * y.den * z.den) := mul_low_left (Nat.mul_pos hx hy) hz
  have h2 : mul x (mul y z) = lowest (x.num * (y.num * z.num)) (x.den * (y.den * z.den)) := mul_low_right (Nat.mul_pos hy hz) hx
  rw [h1, h2, Nat.mul_assoc, Nat.mul_assoc]

/-! ### tuplets -/
/-- by what the open tuplets (the innermost first) multiply -/
def byOf : List (Nat × Nat) → Frac
  | [] => ⟨1, 1⟩
  | (n, m) :: st => mul (byOf st) (lowest m n)
def StOk (st : List (Nat × Nat)) : Prop := ∀ p ∈ st, 2 ≤ p.1 ∧ p.1 ≤ 9 ∧ 2 ≤ p.2 ∧ p.2 ≤ 9
theorem byOf_den : ∀ {st : List (Nat × Nat)}, StOk st → 0 < (byOf st).den
  | [], _ => Nat.one_pos
  | (n, m) :: st, h => by
    have h0 := h (n, m) List.mem_cons_self
    have ih := byOf_den (st := st) fun p hp => h p (List.mem_cons_of_mem _ hp)
    exact mul_den_pos ih (lowest_den_pos (by omega))
theorem byOf_lw : ∀ {st : List (Nat × Nat)}, StOk st → Lw (byOf st)
  | [], _ => ⟨Nat.one_pos, by decide⟩
  | (n, m) :: st, h => by
    have h0 := h (n, m) List.mem_cons_self
    have ih := byOf_den (st := st) fun p hp => h p (List.mem_cons_of_mem _ hp)
    exact lw_lowest (Nat.mul_pos ih (lowest_den_pos (by omega)))
theorem signLong_step {x : Frac} {n m : Nat} (hn : 0 < n) (hx : 0 < x.den) : lowest (x.num * m) (x.den * n) = mul x (lowest m n) := (mul_low_right hn hx).symm
theorem fold_mul : ∀ (st : List (Nat × Nat)) (x : Frac), StOk st → Lw x → st.foldl (fun x y => lowest (x.num * y.2) (x.den * y.1)) x = mul x (byOf st)
  | [], x, _, hx => (mul_one hx).symm
  | (n, m) :: st, x, h, hx => by
    have h0 := h (n, m) List.mem_cons_self
    have hs : StOk st := fun p hp => h p (List.mem_cons_of_mem _ hp)
    have e : List.foldl (fun (x : Frac) (y : Nat × Nat) => lowest (x.num * y.2) (x.den * y.1)) x ((n, m) :: st) = List.foldl (fun (x : Frac) (y : Nat × Nat) => lowest (x.num * y.2) (x.den * y.1)) (lowest (x.num * m) (x.den * n)) st := rfl
    have hn : 0 < n := by have := h0.1; omega
    rw [e, fold_mul st _ hs (lw_lowest (Nat.mul_pos hx.1 hn)), signLong_step hn hx.1, mul_assoc hx.1 (lowest_den_pos hn) (byOf_den hs), mul_comm (lowest m n)]
    rfl
theorem signLong_eq {k d : Nat} {st : List (Nat × Nat)} (hk : 0 < k) (h : StOk st) : signLong k d st = mul (lowest (2 ^ (d + 1) - 1) (k * 2 ^ d)) (byOf st) := by
  unfold signLong
  exact fold_mul st _ h (lw_lowest (Nat.mul_pos hk (Nat.two_pow_pos d)))

/-! ### bounds -/
def DD : Nat := 256 * 2520 ^ 3
/-- below so many wholes, with a part that divides DD -/
structure FG (n : Nat) (f : Frac) : Prop where
  pos : 0 < f.den
  dvd : f.den ∣ DD
  le : f.num ≤ n * f.den
/-- small enough to be reckoned with -/
structure Sm (f : Frac) : Prop where
  pos : 0 < f.den
  den : f.den < 2 ^ 63
  num : f.num < 2 ^ 63
theorem FG.sm {n : Nat} {f : Frac} (h : FG n f) (hn : n ≤ 2 ^ 19) : Sm f := by
  have d : f.den ≤ DD := Nat.le_of_dvd (by decide) h.dvd
  have e : n * f.den ≤ 2 ^ 19 * DD := Nat.mul_le_mul hn d
  have z : 2 ^ 19 * DD < 2 ^ 63 := by decide
  have z2 : DD < 2 ^ 63 := by decide
  exact ⟨h.pos, Nat.lt_of_le_of_lt d z2, Nat.lt_of_le_of_lt h.le (Nat.lt_of_le_of_lt e z)⟩
theorem FG.mono {n m : Nat} {f : Frac} (h : FG n f) (hn : n ≤ m) : FG m f := ⟨h.pos, h.dvd, Nat.le_trans h.le (Nat.mul_le_mul_right _ hn)⟩
theorem lowest_dvd {a b D : Nat} (hb : 0 < b) (h : b ∣ a * D) : (lowest a b).den ∣ D := by
  have c := lowest_coprime (a := a) hb
  have e1 := lowest_num_mul a b
  have e2 := lowest_den_mul a b
  have gp := gcd_pos (a := a) hb
  generalize (lowest a b).num = n at *
  generalize (lowest a b).den = d at *
  generalize Nat.gcd a b = g at *
  refine Nat.Coprime.dvd_of_dvd_mul_left (m := n) c.symm ?_
  rw [← e1, ← e2] at h
  have h2 : g * d ∣ g * (n * D) := by
    rw [Nat.mul_comm g d, Nat.mul_left_comm g n D, ← Nat.mul_assoc n g D]
    exact h
  exact Nat.dvd_of_mul_dvd_mul_left gp h2
theorem lowest_le {a b n : Nat} (hb : 0 < b) (h : a ≤ n * b) : (lowest a b).num ≤ n * (lowest a b).den := by
  have e1 := lowest_num_mul a b
  have e2 := lowest_den_mul a b
  have g := gcd_pos (a := a) hb
  generalize (lowest a b).num = m at *
  generalize (lowest a b).den = d at *
  generalize Nat.gcd a b = g at *
  rw [← e1, ← e2, ← Nat.mul_assoc] at h
  exact Nat.le_of_mul_le_mul_right h g
theorem fg_plus {n m : Nat} {x y : Frac} (hx : FG n x) (hy : FG m y) : FG (n + m) (x.plus y) := by
  have p := Nat.mul_pos hx.pos hy.pos
  refine ⟨lowest_den_pos p, lowest_dvd p ?_, lowest_le p ?_⟩
  · obtain ⟨u, hu⟩ := hx.dvd
    obtain ⟨v, hv⟩ := hy.dvd
    refine ⟨x.num * u + y.num * v, ?_⟩
    rw [Nat.add_mul, Nat.mul_add]
    have e1 : x.num * y.den * DD = x.den * y.den * (x.num * u) := by
      rw [hu]; ac_rfl
    have e2 : y.num * x.den * DD = x.den * y.den * (y.num * v) := by
      rw [hv]; ac_rfl
    rw [e1, e2]
  · have h1 : x.num * y.den ≤ n * x.den * y.den := Nat.mul_le_mul_right _ hx.le
    have h2 : y.num * x.den ≤ m * y.den * x.den := Nat.mul_le_mul_right _ hy.le
    have e1 : (n + m) * (x.den * y.den) = n * x.den * y.den + m * y.den * x.den := by
      rw [Nat.add_mul]
      congr 1
      · rw [Nat.mul_assoc]
      · rw [Nat.mul_assoc, Nat.mul_comm y.den]
    omega
theorem fg_zero {n : Nat} : FG n ⟨0, 1⟩ := ⟨Nat.one_pos, Nat.one_dvd _, Nat.zero_le _⟩
theorem sum_eq (l : List Frac) : sum l = l.foldl Frac.plus ⟨0, 1⟩ := rfl
theorem fg_fold : ∀ (l : List Frac) (a : Frac) (n : Nat), FG n a → (∀ f ∈ l, FG 200 f) → FG (n + 200 * l.length) (l.foldl Frac.plus a)
  | [], a, n, h, _ => h
  | f :: l, a, n, h, hl => by
    have ih := fg_fold l (a.plus f) (n + 200) (fg_plus h (hl f List.mem_cons_self)) fun g hg => hl g (List.mem_cons_of_mem _ hg)
    have e : n + 200 * (f :: l).length = n + 200 + 200 * l.length := by rw [List.length_cons]; omega
    rw [e]
    exact ih
theorem fg_sum {l : List Frac} (h : ∀ f ∈ l, FG 200 f) : FG (200 * l.length) (sum l) := by
  have := fg_fold l ⟨0, 1⟩ 0 fg_zero h
  rwa [Nat.zero_add] at this
theorem foldPlus_den : ∀ (l : List Frac) (a : Frac), 0 < a.den → (∀ f ∈ l, 0 < f.den) → 0 < (l.foldl Frac.plus a).den
  | [], a, h, _ => h
  | f :: l, a, h, hl => foldPlus_den l (a.plus f) (lw_plus h (hl f List.mem_cons_self)).1 fun g hg => hl g (List.mem_cons_of_mem _ hg)
theorem sum_den {l : List Frac} (h : ∀ f ∈ l, 0 < f.den) : 0 < (sum l).den := foldPlus_den l _ Nat.one_pos h

/-! ### lengths of signs -/
def prodM : List (Nat × Nat) → Nat
  | [] => 1
  | (_, m) :: st => prodM st * m
def prodN : List (Nat × Nat) → Nat
  | [] => 1
  | (n, _) :: st => prodN st * n
theorem prodN_pos : ∀ {st : List (Nat × Nat)}, StOk st → 0 < prodN st
  | [], _ => Nat.one_pos
  | (n, m) :: st, h => Nat.mul_pos (prodN_pos (st := st) fun p hp => h p (List.mem_cons_of_mem _ hp)) (by have := (h (n, m) List.mem_cons_self).1; show 0 < n; exact Nat.lt_of_lt_of_le (by decide) this)
theorem byOf_prod : ∀ {st : List (Nat × Nat)}, StOk st → byOf st = lowest (prodM st) (prodN st)
  | [], _ => rfl
  | (n, m) :: st, h => by
    have hs : StOk st := fun p hp => h p (List.mem_cons_of_mem _ hp)
    have hn : 0 < n := Nat.lt_of_lt_of_le (by decide) (h (n, m) List.mem_cons_self).1
    show mul (byOf st) (lowest m n) = lowest (prodM st * m) (prodN st * n)
    rw [byOf_prod hs, mul_low_left (prodN_pos hs) (lowest_den_pos hn)]
    have c := lowest_cross (a := m) (b := n)
    have p := lowest_den_pos (a := m) hn
    generalize (lowest m n).num = u at *
    generalize (lowest m n).den = v at *
    refine lowest_eq (Nat.mul_pos (prodN_pos hs) p) (Nat.mul_pos (prodN_pos hs) hn) ?_
    calc prodM st * u * (prodN st * n) = prodM st * prodN st * (u * n) := by ac_rfl
      _ = prodM st * prodN st * (m * v) := by rw [c]
      _ = prodM st * m * (prodN st * v) := by ac_rfl
theorem prodM_le : ∀ {st : List (Nat × Nat)}, StOk st → prodM st * 2 ^ st.length ≤ 9 ^ st.length * prodN st
  | [], _ => Nat.le_refl _
  | (n, m) :: st, h => by
    have hs : StOk st := fun p hp => h p (List.mem_cons_of_mem _ hp)
    have h0 := h (n, m) List.mem_cons_self
    have ih := prodM_le hs
    show prodM st * m * 2 ^ (st.length + 1) ≤ 9 ^ (st.length + 1) * (prodN st * n)
    have h1 : m * 2 ≤ 9 * n := by have a := h0.2.2.2; have b := h0.1; simp only at a b; omega
    calc prodM st * m * 2 ^ (st.length + 1) = (prodM st * 2 ^ st.length) * (m * 2) := by rw [Nat.pow_succ]; ac_rfl
      _ ≤ (9 ^ st.length * prodN st) * (9 * n) := Nat.mul_le_mul ih h1
      _ = 9 ^ (st.length + 1) * (prodN st * n) := by rw [Nat.pow_succ]; ac_rfl
theorem dvd_2520 {n : Nat} (h : 2 ≤ n) (h' : n ≤ 9) : n ∣ 2520 := by
  have : n = 2 ∨ n = 3 ∨ n = 4 ∨ n = 5 ∨ n = 6 ∨ n = 7 ∨ n = 8 ∨ n = 9 := by omega
  rcases this with rfl | rfl | rfl | rfl | rfl | rfl | rfl | rfl <;> decide
theorem prodN_dvd : ∀ {st : List (Nat × Nat)}, StOk st → prodN st ∣ 2520 ^ st.length
  | [], _ => Nat.dvd_refl _
  | (n, m) :: st, h => by
    have hs : StOk st := fun p hp => h p (List.mem_cons_of_mem _ hp)
    have h0 := h (n, m) List.mem_cons_self
    show prodN st * n ∣ 2520 ^ (st.length + 1)
    rw [Nat.pow_succ]
    exact Nat.mul_dvd_mul (prodN_dvd hs) (dvd_2520 h0.1 h0.2.1)
theorem lowest_den_dvd (a b : Nat) : (lowest a b).den ∣ b := ⟨Nat.gcd a b, (lowest_den_mul a b).symm⟩
theorem pow_dots {d : Nat} (hd : d ≤ 2) : 2 ^ (d + 1) - 1 ≤ 2 * 2 ^ d ∧ 0 < 2 ^ d ∧ 2 ^ d ≤ 4 ∧ 2 ^ d ∣ 4 := by
  have : d = 0 ∨ d = 1 ∨ d = 2 := by omega
  rcases this with rfl | rfl | rfl <;> decide
theorem kinds_dvd {k : Nat} (h : KINDS.contains k = true) : 0 < k ∧ k ≤ 64 ∧ k ∣ 64 := by
  have : k = 1 ∨ k = 2 ∨ k = 4 ∨ k = 8 ∨ k = 16 ∨ k = 32 ∨ k = 64 := by simpa [KINDS] using h
  rcases this with rfl | rfl | rfl | rfl | rfl | rfl | rfl <;> decide
theorem fg_sign {k d : Nat} {st : List (Nat × Nat)} (hk : KINDS.contains k = true) (hd : d ≤ 2) (h : StOk st) (hl : st.length ≤ 3) : FG 200 (signLong k d st) := by
  obtain ⟨k0, k1, k2⟩ := kinds_dvd hk
  obtain ⟨d1, d0, d2, d3⟩ := pow_dots hd
  have hN := prodN_pos h
  have hM := prodM_le h
  have e : signLong k d st = lowest ((2 ^ (d + 1) - 1) * prodM st) (k * 2 ^ d * prodN st) := by
    rw [signLong_eq k0 h, byOf_prod h, mul_low_left (Nat.mul_pos k0 d0) (lowest_den_pos hN)]
    have c := lowest_cross (a := prodM st) (b := prodN st)
    have p := lowest_den_pos (a := prodM st) hN
    generalize (lowest (prodM st) (prodN st)).num = u at *
    generalize (lowest (prodM st) (prodN st)).den = v at *
    refine lowest_eq (Nat.mul_pos (Nat.mul_pos k0 d0) p) (Nat.mul_pos (Nat.mul_pos k0 d0) hN) ?_
    generalize 2 ^ (d + 1) - 1 = w, k * 2 ^ d = z
    calc w * u * (z * prodN st) = w * z * (u * prodN st) := by ac_rfl
      _ = w * z * (prodM st * v) := by rw [c]
      _ = w * prodM st * (z * v) := by ac_rfl
  have p := Nat.mul_pos (Nat.mul_pos k0 d0) hN
  rw [e]
  refine ⟨lowest_den_pos p, Nat.dvd_trans (lowest_den_dvd _ _) ?_, lowest_le p ?_⟩
  · have a1 : k * 2 ^ d ∣ 64 * 4 := Nat.mul_dvd_mul k2 d3
    have a2 : prodN st ∣ 2520 ^ 3 := Nat.dvd_trans (prodN_dvd h) (Nat.pow_dvd_pow _ hl)
    exact Nat.mul_dvd_mul a1 a2
  · have hM8 : prodM st * 8 ≤ 729 * prodN st := by
      have : st.length = 0 ∨ st.length = 1 ∨ st.length = 2 ∨ st.length = 3 := by omega
      rcases this with q | q | q | q <;> rw [q] at hM <;> simp only [Nat.reducePow] at hM <;> omega
    have h1 : (2 ^ (d + 1) - 1) * prodM st ≤ 2 * 2 ^ d * prodM st := Nat.mul_le_mul_right _ d1
    have h2 : 2 * 2 ^ d * prodM st * 8 ≤ 200 * (k * 2 ^ d * prodN st) * 8 := by
      calc 2 * 2 ^ d * prodM st * 8 = 2 * 2 ^ d * (prodM st * 8) := by ac_rfl
        _ ≤ 2 * 2 ^ d * (729 * prodN st) := Nat.mul_le_mul_left _ hM8
        _ = 1458 * (2 ^ d * prodN st) := by
          generalize 2 ^ d = a, prodN st = b
          rw [show 2 * a * (729 * b) = (2 * 729) * (a * b) by ac_rfl]
        _ ≤ 1600 * (k * (2 ^ d * prodN st)) := by
          have : 2 ^ d * prodN st ≤ k * (2 ^ d * prodN st) := Nat.le_mul_of_pos_left _ k0
          omega
        _ = 200 * (k * 2 ^ d * prodN st) * 8 := by
          rw [Nat.mul_assoc k]
          generalize k * (2 ^ d * prodN st) = z
          omega
    omega
end Pf

/-! # Words: a sign that stands in no right word may stand for another such one -/
namespace Pf
open Sx62

def sg (c : Nat) : Nat := if c = 37 then 33 else c
def sgW (w : Word) : Word := ⟨w.place, w.text.map sg⟩
def Clean (u : Bytes) : Prop := ∀ c ∈ u, c ≠ 33 ∧ c ≠ 37
theorem sg_clean {c : Nat} (h : c ≠ 37) : sg c = c := if_neg h
theorem map_clean : ∀ {u : Bytes}, Clean u → u.map sg = u
  | [], _ => rfl
  | c :: u, h => by
    rw [List.map_cons, sg_clean (h c List.mem_cons_self).2, map_clean fun d hd => h d (List.mem_cons_of_mem _ hd)]
theorem clean_of_map {u : Bytes} (h : Clean (u.map sg)) : Clean u := fun c hc => by
  have z := h (sg c) (List.mem_map_of_mem hc)
  by_cases e : c = 37
  · subst e; exact absurd rfl z.1
  · rw [sg_clean e] at z; exact z
theorem opt_sg {A : Type} {f : Bytes → Option A} (hf : ∀ u x, f u = some x → Clean u) (u : Bytes) : f (u.map sg) = f u := by
  cases e : f u with
  | some x => rw [map_clean (hf u x e), e]
  | none =>
    cases e2 : f (u.map sg) with
    | none => rfl
    | some x =>
      have c := clean_of_map (hf _ x e2)
      rw [map_clean c, e] at e2
      cases e2
theorem bool_sg {f : Bytes → Bool} (hf : ∀ u, f u = true → Clean u) (u : Bytes) : f (u.map sg) = f u := by
  cases e : f u with
  | true => rw [map_clean (hf u e), e]
  | false =>
    cases e2 : f (u.map sg) with
    | false => rfl
    | true =>
      have c := clean_of_map (hf _ e2)
      rw [map_clean c, e] at e2
      cases e2
theorem lit_sg {l : Bytes} (hl : Clean l) (u : Bytes) : (u.map sg = l) = (u = l) := by
  apply propext
  constructor
  · intro h
    have c : Clean u := clean_of_map (by rw [h]; exact hl)
    rw [← map_clean c, h]
  · intro h
    rw [h, map_clean hl]
theorem digit_clean {c : Nat} (h : digit c = true) : c ≠ 33 ∧ c ≠ 37 := by
  unfold digit at h
  simp only [Bool.and_eq_true, decide_eq_true_eq] at h
  omega
theorem clean_nil : Clean [] := fun _ h => nomatch h
theorem clean_cons {c : Nat} {u : Bytes} (h : c ≠ 33 ∧ c ≠ 37) (hu : Clean u) : Clean (c :: u) := fun d hd => by
  rcases List.mem_cons.mp hd with e | hd
  · rw [e]; exact h
  · exact hu d hd
theorem clean_append {u v : Bytes} (hu : Clean u) (hv : Clean v) : Clean (u ++ v) := fun d hd => by
  rcases List.mem_append.mp hd with hd | hd
  · exact hu d hd
  · exact hv d hd

/-! ### numbers -/
def numVal (w : Bytes) : Nat := w.foldl (fun n c => 10 * n + (c - 48)) 0
theorem numberOf_some {lo hi n : Nat} {w : Bytes} (h : numberOf lo hi w = some n) : (w.all digit = true ∧ 1 ≤ w.length ∧ w.length ≤ 3 ∧ (w.length = 1 ∨ w.head? ≠ some 48) ∧ lo ≤ numVal w ∧ numVal w ≤ hi) ∧ n = numVal w := by
  have h' : (if w.all digit = true ∧ 1 ≤ w.length ∧ w.length ≤ 3 ∧ (w.length = 1 ∨ w.head? ≠ some 48) ∧ lo ≤ numVal w ∧ numVal w ≤ hi then some (numVal w) else none) = some n := h
  split at h'
  · rename_i hc
    exact ⟨hc, (Option.some.inj h').symm⟩
  · cases h'
theorem all_digit_clean {w : Bytes} (h : w.all digit = true) : Clean w := fun c hc => digit_clean (List.all_eq_true.mp h c hc)
theorem number_clean {lo hi n : Nat} {w : Bytes} (h : numberOf lo hi w = some n) : Clean w := all_digit_clean (numberOf_some h).1.1
theorem cutAt_some : ∀ {c : Nat} {w : Bytes} {x : Bytes × Bytes}, cutAt c w = some x → w = x.1 ++ c :: x.2 ∧ c ∉ x.1
  | c, [], x, h => by cases h
  | c, a :: l, x, h => by
    unfold cutAt at h
    split at h
    · rename_i e
      cases h
      subst e
      exact ⟨rfl, fun z => nomatch z⟩
    · rename_i e
      cases e2 : cutAt c l with
      | none => rw [e2] at h; cases h
      | some y =>
        rw [e2] at h
        cases h
        obtain ⟨i1, i2⟩ := cutAt_some e2
        refine ⟨?_, fun z => ?_⟩
        · show a :: l = a :: y.1 ++ c :: y.2
          rw [List.cons_append, ← i1]
        · rcases List.mem_cons.mp z with z | z
          · exact e z.symm
          · exact i2 z
theorem metre_clean {w : Bytes} {x : Nat × Nat} (h : metreOf w = some x) : Clean w := by
  unfold metreOf at h
  cases e : cutAt 47 w with
  | none => rw [e] at h; cases h
  | some y =>
    rw [e] at h
    simp only at h
    cases e1 : numberOf 1 32 y.1 with
    | none => rw [e1] at h; cases h
    | some n =>
      cases e2 : numberOf 1 32 y.2 with
      | none => rw [e1, e2] at h; cases h
      | some d =>
        rw [(cutAt_some e).1]
        exact clean_append (number_clean e1) (clean_cons (by omega) (number_clean e2))
theorem ratio_clean {w : Bytes} {x : Nat × Nat} (h : ratioOf w = some x) : Clean w := by
  unfold ratioOf at h
  cases e : cutAt 58 w with
  | none => rw [e] at h; cases h
  | some y =>
    rw [e] at h
    simp only at h
    cases e1 : numberOf 2 9 y.1 with
    | none => rw [e1] at h; cases h
    | some n =>
      cases e2 : numberOf 2 9 y.2 with
      | none => rw [e1, e2] at h; cases h
      | some d =>
        rw [(cutAt_some e).1]
        exact clean_append (number_clean e1) (clean_cons (by omega) (number_clean e2))
theorem key_clean {w : Bytes} {z : Int} (h : keyOf w = some z) : Clean w := by
  unfold keyOf at h
  split at h
  · rename_i l
    cases e : numberOf 1 7 l with
    | none => rw [e] at h; cases h
    | some n => exact clean_cons (by omega) (number_clean e)
  · cases e : numberOf 1 7 w with
    | none => rw [e] at h; cases h
    | some n => exact number_clean e
theorem name_clean {w : Bytes} (h : isName w = true) : Clean w := by
  unfold isName at h
  simp only [Bool.and_eq_true, decide_eq_true_eq] at h
  intro c hc
  have := List.all_eq_true.mp h.2.2 c hc
  unfold small at this
  simp only [Bool.and_eq_true, decide_eq_true_eq] at this
  omega

/-! ### pitches, lengths -/
/-- a word that is a pitch -/
def pit (u : Bytes) : Option Pitch := match pitchOf u with
  | some (p, []) => some p
  | _ => none
theorem signOf_clean (l : Bytes) : ∃ s, l = s ++ (signOf l).2 ∧ Clean s := by
  unfold signOf
  split
  · exact ⟨[35, 35], rfl, by intro c hc; simp at hc; omega⟩
  · exact ⟨[35], rfl, by intro c hc; simp at hc; omega⟩
  · exact ⟨[98, 98], rfl, by intro c hc; simp at hc; omega⟩
  · exact ⟨[98], rfl, by intro c hc; simp at hc; omega⟩
  · exact ⟨[], rfl, clean_nil⟩
theorem letter_clean {c k : Nat} (h : (LETTERS.findIdx? fun x => x == c) = some k) : c ≠ 33 ∧ c ≠ 37 := by
  obtain ⟨hk, he, _⟩ := List.findIdx?_eq_some_iff_getElem.mp h
  have hm : LETTERS[k] ∈ LETTERS := List.getElem_mem hk
  have e : LETTERS[k] = c := by simpa using he
  rw [e] at hm
  simp only [LETTERS, List.mem_cons, List.not_mem_nil, or_false] at hm
  omega
theorem pitchOf_some {u : Bytes} {p : Pitch} {r : Bytes} (h : pitchOf u = some (p, r)) : ∃ s, u = s ++ r ∧ Clean s := by
  unfold pitchOf at h
  split at h
  · cases h
  · rename_i c l
    split at h
    · cases h
    · rename_i k hk
      obtain ⟨s, hs, hc⟩ := signOf_clean l
      simp only at h
      split at h
      · cases h
      · rename_i o r' e
        split at h
        · rename_i hd
          cases h
          refine ⟨c :: s ++ [o], ?_, clean_append (clean_cons (letter_clean hk) hc) (clean_cons (digit_clean hd) clean_nil)⟩
          rw [e] at hs
          rw [hs]
          simp
        · cases h
theorem pit_some {u : Bytes} {p : Pitch} (h : pit u = some p) : pitchOf u = some (p, []) := by
  unfold pit at h
  split at h
  · rename_i p' e
    cases h
    exact e
  · cases h
theorem pit_clean {u : Bytes} {p : Pitch} (h : pit u = some p) : Clean u := by
  obtain ⟨s, e, c⟩ := pitchOf_some (pit_some h)
  rw [e, List.append_nil]
  exact c
theorem dotsOf_clean (l : Bytes) : ∃ s, l = s ++ (dotsOf l).2 ∧ Clean s := by
  unfold dotsOf
  split
  · exact ⟨[46, 46], rfl, by intro c hc; simp at hc; omega⟩
  · exact ⟨[46], rfl, by intro c hc; simp at hc; omega⟩
  · exact ⟨[], rfl, clean_nil⟩
theorem takeWhile_split (p : Nat → Bool) : ∀ l : Bytes, l = l.takeWhile p ++ l.drop (l.takeWhile p).length
  | [] => rfl
  | a :: l => by
    rw [List.takeWhile_cons]
    split
    · rw [List.length_cons, List.drop_succ_cons, List.cons_append, ← takeWhile_split p l]
    · rfl
theorem long_clean {u : Bytes} {y : Nat × Nat × Bool} (h : longOf u = some y) : Clean u := by
  unfold longOf at h
  split at h
  · rename_i l
    simp only at h
    split at h
    · cases h
    · rename_i n hn
      split at h
      · cases h
      · obtain ⟨s, hs, hc⟩ := dotsOf_clean (l.drop (l.takeWhile digit).length)
        have base : ∀ {t : Bytes}, (dotsOf (l.drop (l.takeWhile digit).length)).2 = t → Clean t → Clean (47 :: l) := fun {t} e ct => by
          rw [takeWhile_split digit l, hs, e]
          exact clean_cons (by omega) (clean_append (number_clean hn) (clean_append hc ct))
        split at h
        · rename_i e
          exact base e clean_nil
        · split at h
          · rename_i e
            exact base e (by intro c hc; simp at hc; omega)
          · cases h
  · cases h
theorem note_clean {p : Nat} {u : Bytes} {x : Piece} (h : noteOf ⟨p, u⟩ = some x) : Clean u := by
  unfold noteOf at h
  simp only at h
  split at h
  · rename_i l
    split at h
    · rename_i k d e
      exact clean_cons (by omega) (long_clean e)
    · cases h
  · cases e : pitchOf u with
    | none => rw [e] at h; cases h
    | some x =>
      rw [e] at h
      simp only at h
      cases e2 : longOf x.2 with
      | none => rw [e2] at h; cases h
      | some y =>
        obtain ⟨s, es, c⟩ := pitchOf_some (p := x.1) (r := x.2) e
        rw [es]
        exact clean_append c (long_clean e2)

/-! ### the reading is alike -/
theorem head_sg (u : Bytes) : ((u.map sg).head? = some 123) = (u.head? = some 123) := by
  cases u with
  | nil => rfl
  | cons c u =>
    apply propext
    show some (sg c) = some 123 ↔ some c = some 123
    rw [Option.some.injEq, Option.some.injEq]
    unfold sg
    split <;> omega
abbrev sgR {A : Type} (x : R (A × List Word)) : R (A × List Word) := match x with
  | .error f => .error f
  | .ok y => .ok (y.1, y.2.map sgW)
/-- what a chord's end tells -/
def chordEnd (u : Bytes) : Option (Nat × Nat × Bool) := match u with
  | 93 :: r => longOf r
  | _ => none
theorem chordEnd_clean {u : Bytes} {y : Nat × Nat × Bool} (h : chordEnd u = some y) : Clean u := by
  unfold chordEnd at h
  split at h
  · exact clean_cons (by omega) (long_clean h)
  · cases h
theorem pit_93 (r : Bytes) : pit (93 :: r) = none := by
  unfold pit pitchOf
  rfl
/-- one step of a chord -/
theorem chord_cons (e place : Nat) (ps : List Pitch) (w : Word) (l : List Word) : chordFrom e place ps (w :: l) = (match chordEnd w.text with
    | some y => if ps.length < 2 then bad w.place else .ok (.note place ps y.1 y.2.1 y.2.2, l)
    | none => match pit w.text with
      | some p => if ps.contains p = true ∨ CHORD ≤ ps.length then bad w.place else chordFrom e place (putPitch p ps) l
      | none => bad w.place) := by
  conv => lhs; unfold chordFrom
  split
  · rename_i r h
    rw [h]
    unfold chordEnd
    simp only
    cases longOf r with
    | none => rw [pit_93]
    | some y => rfl
  · rename_i h
    have e0 : chordEnd w.text = none := by
      unfold chordEnd
      split
      · rename_i r e; exact absurd e (h r)
      · rfl
    rw [e0]
    simp only
    unfold pit
    split
    · rename_i p e; rw [e]
    · rename_i h2
      split
      · rename_i p q e
        split at e
        · rename_i p' e3; exact absurd e3 (h2 p')
        · cases e
      · rfl
theorem chord_sg (e place : Nat) : ∀ (ws : List Word) (ps : List Pitch), chordFrom e place ps (ws.map sgW) = sgR (chordFrom e place ps ws)
  | [], ps => by unfold chordFrom; rfl
  | w :: l, ps => by
    rw [List.map_cons, chord_cons, chord_cons]
    show (match chordEnd (w.text.map sg) with
    | some y => if ps.length < 2 then (bad w.place : R (Piece × List Word)) else .ok (Piece.note place ps y.1 y.2.1 y.2.2, l.map sgW)
    | none => match pit (w.text.map sg) with
      | some p => if ps.contains p = true ∨ CHORD ≤ ps.length then bad w.place else chordFrom e place (putPitch p ps) (l.map sgW)
      | none => bad w.place) = _
    rw [opt_sg (fun u x h => chordEnd_clean h), opt_sg (fun u x h => pit_clean h)]
    cases chordEnd w.text with
    | some y =>
      simp only
      split <;> rfl
    | none =>
      simp only
      cases pit w.text with
      | none => rfl
      | some p =>
        simp only
        split
        · rfl
        · exact chord_sg e place l _
theorem note_sg (w : Word) : noteOf (sgW w) = noteOf w := opt_sg (f := fun u => noteOf ⟨w.place, u⟩) (fun _ _ h => note_clean h) w.text
theorem clean_lit {l : Bytes} (h : (l.all fun c => c != 33 && c != 37) = true) : Clean l := fun c hc => by
  have := List.all_eq_true.mp h c hc
  simpa using this
theorem ratio_sg (u : Bytes) : ratioOf ((u.map sg).drop 1) = ratioOf (u.drop 1) := by
  rw [← List.map_drop]
  exact opt_sg (fun _ _ h => ratio_clean h) _
abbrev sgR3 {A : Type} (x : R (A × Nat × List Word)) : R (A × Nat × List Word) := match x with
  | .error f => .error f
  | .ok y => .ok (y.1, y.2.1, y.2.2.map sgW)
theorem pieces_sg (e : Nat) : ∀ (f d : Nat) (acc : List Piece) (ws : List Word), piecesFrom e f d acc (ws.map sgW) = sgR3 (piecesFrom e f d acc ws)
  | 0, d, acc, ws => by unfold piecesFrom; rfl
  | f + 1, d, acc, [] => by unfold piecesFrom; rfl
  | f + 1, d, acc, w :: l => by
    rw [List.map_cons]
    unfold piecesFrom
    show (if w.text.map sg = [124] then (if d = 0 ∧ acc ≠ [] then .ok (acc.reverse, w.place, l.map sgW) else bad w.place)
      else if w.text.map sg = [125] then (if 0 < d ∧ afterOpen acc = false then piecesFrom e f (d - 1) (.closes :: acc) (l.map sgW) else bad w.place)
      else if (w.text.map sg).head? = some 123 then (match ratioOf ((w.text.map sg).drop 1) with
        | none => bad w.place
        | some x => if DEEP ≤ d then .error ⟨3, w.place⟩ else piecesFrom e f (d + 1) (.opens x.1 x.2 :: acc) (l.map sgW))
      else if w.text.map sg = [91] then (match chordFrom e w.place [] (l.map sgW) with
        | .error x => .error x
        | .ok x => piecesFrom e f d (x.1 :: acc) x.2)
      else match noteOf (sgW w) with
        | none => bad w.place
        | some x => piecesFrom e f d (x :: acc) (l.map sgW)) = _
    simp only [lit_sg (l := [124]) (clean_lit rfl), lit_sg (l := [125]) (clean_lit rfl), lit_sg (l := [91]) (clean_lit rfl), head_sg, ratio_sg, note_sg, chord_sg]
    split
    · split <;> rfl
    · split
      · split
        · exact pieces_sg e f _ _ l
        · rfl
      · split
        · cases ratioOf (w.text.drop 1) with
          | none => rfl
          | some x =>
            simp only
            split
            · rfl
            · exact pieces_sg e f _ _ l
        · split
          · cases chordFrom e w.place [] l with
            | error x => rfl
            | ok x => exact pieces_sg e f _ _ x.2
          · cases noteOf w with
            | none => rfl
            | some x => exact pieces_sg e f _ _ l
theorem bars_sg (e : Nat) : ∀ (f : Nat) (acc : List Bar) (ws : List Word), barsFrom e f acc (ws.map sgW) = sgR3 (barsFrom e f acc ws)
  | 0, acc, ws => by unfold barsFrom; rfl
  | f + 1, acc, [] => by unfold barsFrom; rfl
  | f + 1, acc, w :: l => by
    rw [List.map_cons]
    unfold barsFrom
    have hb : ((w.text.map sg) == SHORT) = (w.text == SHORT) := by
      rw [Bool.eq_iff_iff, beq_iff_eq, beq_iff_eq, lit_sg (clean_lit rfl)]
    show (if w.text.map sg = END then (if acc = [] then bad w.place else .ok (acc.reverse, w.place, l.map sgW))
      else match piecesFrom e ((sgW w :: l.map sgW).length + 1) 0 [] (if w.text.map sg = SHORT then l.map sgW else sgW w :: l.map sgW) with
        | .error x => .error x
        | .ok x => barsFrom e f (⟨x.2.1, (w.text.map sg) == SHORT, x.1⟩ :: acc) x.2.2) = _
    have hl : (sgW w :: l.map sgW).length = (w :: l).length := by rw [List.length_cons, List.length_cons, List.length_map]
    have hi : (if w.text = SHORT then l.map sgW else sgW w :: l.map sgW) = (if w.text = SHORT then l else w :: l).map sgW := by
      split <;> rfl
    simp only [lit_sg (l := END) (clean_lit rfl), lit_sg (l := SHORT) (clean_lit rfl), hb, hl, hi, pieces_sg]
    split
    · split <;> rfl
    · cases piecesFrom e ((w :: l).length + 1) 0 [] (if w.text = SHORT then l else w :: l) with
      | error x => rfl
      | ok x => exact bars_sg e f _ x.2.2
theorem voices_sg (e : Nat) : ∀ (f : Nat) (acc : List Voice) (ws : List Word), voicesFrom e f acc (ws.map sgW) = voicesFrom e f acc ws
  | 0, acc, ws => by unfold voicesFrom; rfl
  | f + 1, acc, [] => by unfold voicesFrom; rfl
  | f + 1, acc, [w] => by
    unfold voicesFrom
    show (if w.text.map sg ≠ VOICE then bad w.place else bad e) = (if w.text ≠ VOICE then bad w.place else bad e)
    simp only [ne_eq, lit_sg (l := VOICE) (clean_lit rfl)]
  | f + 1, acc, w :: n :: l => by
    unfold voicesFrom
    show (if w.text.map sg ≠ VOICE then bad w.place else if isName (n.text.map sg) = false then bad n.place else if VOICES ≤ acc.length ∨ (acc.any fun v => v.name == (n.text.map sg)) = true then .error ⟨4, n.place⟩ else match barsFrom e ((l.map sgW).length + 1) [] (l.map sgW) with
      | .error x => .error x
      | .ok x => voicesFrom e f (⟨n.text.map sg, x.1, x.2.1⟩ :: acc) x.2.2) = _
    simp only [ne_eq, lit_sg (l := VOICE) (clean_lit rfl), bool_sg (f := isName) (fun u h => name_clean h), List.length_map, bars_sg]
    split
    · rfl
    · rename_i h
      split
      · rfl
      · rename_i h2
        have hn : isName n.text = true := by
          cases z : isName n.text with
          | true => rfl
          | false => exact absurd z h2
        rw [map_clean (name_clean hn)]
        split
        · rfl
        · cases barsFrom e (l.length + 1) [] l with
          | error x => rfl
          | ok x => exact voices_sg e f _ x.2.2
theorem parse_sg (e : Nat) (ws : List Word) : parse e (ws.map sgW) = parse e ws := by
  cases ws with
  | nil => rfl
  | cons w l =>
    cases l with
    | nil =>
      show (if w.text.map sg ≠ TIME then bad w.place else bad e) = (if w.text ≠ TIME then bad w.place else bad e)
      simp only [ne_eq, lit_sg (l := TIME) (clean_lit rfl)]
    | cons m l =>
      have step : ∀ (P Q : R Score), P = Q → (if w.text.map sg ≠ TIME then bad w.place else P) = (if w.text ≠ TIME then bad w.place else Q) := fun P Q h => by
        simp only [ne_eq, lit_sg (l := TIME) (clean_lit rfl), h]
      refine step _ _ ?_
      show (match metreOf (m.text.map sg) with
        | none => bad m.place
        | some x => _) = (match metreOf m.text with
        | none => bad m.place
        | some x => _)
      rw [opt_sg (fun _ _ h => metre_clean h)]
      cases metreOf m.text with
      | none => rfl
      | some x =>
        cases l with
        | nil => rfl
        | cons k r =>
          have hv := voices_sg e ((k :: r).length + 1) [] (k :: r)
          have hl : ((k :: r).map sgW).length = (k :: r).length := List.length_map ..
          show (if k.text.map sg = KEY then (match r.map sgW with
              | [] => bad e
              | n :: r => match keyOf n.text with
                | none => bad n.place
                | some z => match voicesFrom e (r.length + 1) [] r with
                  | .error y => .error y
                  | .ok v => .ok (Score.mk x.1 x.2 z v))
            else match voicesFrom e (((k :: r).map sgW).length + 1) [] ((k :: r).map sgW) with
              | .error y => .error y
              | .ok v => .ok (Score.mk x.1 x.2 0 v)) = _
          simp only [lit_sg (l := KEY) (clean_lit rfl), hl, hv]
          split
          · cases r with
            | nil => rfl
            | cons n r =>
              show (match keyOf (n.text.map sg) with
                | none => bad n.place
                | some z => match voicesFrom e ((r.map sgW).length + 1) [] (r.map sgW) with
                  | .error y => .error y
                  | .ok v => .ok (Score.mk x.1 x.2 z v)) = _
              rw [opt_sg (fun _ _ h => key_clean h), List.length_map, voices_sg]
              rfl
          · rfl
end Pf

/-! # Single words: what the program looks at, and what the specification says -/
namespace Pf
open Sx62

theorem option_ext {A : Type} {x y : Option A} (h : ∀ a, x = some a ↔ y = some a) : x = y := by
  cases x with
  | none =>
    cases y with
    | none => rfl
    | some b => exact absurd ((h b).mpr rfl) (by simp)
  | some a => exact ((h a).mp rfl).symm

/-! ### numbers -/
theorem fold_eq (w : Bytes) (a : Nat) : w.foldl (fun acc c => acc * 10 + (c - 48)) a = w.foldl (fun n c => 10 * n + (c - 48)) a := by
  induction w generalizing a with
  | nil => rfl
  | cons c w ih => rw [List.foldl_cons, List.foldl_cons, ih, Nat.mul_comm]
theorem digit_iff {c : Nat} : digit c = true ↔ 48 ≤ c ∧ c ≤ 57 := by
  unfold digit
  simp only [Bool.and_eq_true, decide_eq_true_eq]
theorem numVal_lt {w : Bytes} (h : w.all digit = true) (hl : w.length ≤ 3) : numVal w ≤ 999 := by
  have dg : ∀ c ∈ w, 48 ≤ c ∧ c ≤ 57 := fun c hc => digit_iff.mp (List.all_eq_true.mp h c hc)
  match w, hl with
  | [], _ => decide
  | [a], _ => have := dg a (by simp); simp only [numVal, List.foldl_cons, List.foldl_nil]; omega
  | [a, b], _ => have h1 := dg a (by simp); have h2 := dg b (by simp); simp only [numVal, List.foldl_cons, List.foldl_nil]; omega
  | [a, b, c], _ => have h1 := dg a (by simp); have h2 := dg b (by simp); have h3 := dg c (by simp); simp only [numVal, List.foldl_cons, List.foldl_nil]; omega
/-- a number, whatever -/
def numIn (w : Bytes) : Option Nat := numberOf 0 999 w
theorem numberOf_eq (lo hi : Nat) (w : Bytes) : numberOf lo hi w = if w.all digit = true ∧ 1 ≤ w.length ∧ w.length ≤ 3 ∧ (w.length = 1 ∨ w.head? ≠ some 48) ∧ lo ≤ numVal w ∧ numVal w ≤ hi then some (numVal w) else none := rfl
theorem numIn_eq (w : Bytes) : numIn w = if w.all digit = true ∧ 1 ≤ w.length ∧ w.length ≤ 3 ∧ (w.length = 1 ∨ w.head? ≠ some 48) then some (numVal w) else none := by
  unfold numIn
  rw [numberOf_eq]
  by_cases h : w.all digit = true ∧ 1 ≤ w.length ∧ w.length ≤ 3 ∧ (w.length = 1 ∨ w.head? ≠ some 48)
  · obtain ⟨h1, h2, h3, h4⟩ := h
    rw [if_pos ⟨h1, h2, h3, h4, Nat.zero_le _, numVal_lt h1 h3⟩, if_pos ⟨h1, h2, h3, h4⟩]
  · rw [if_neg fun z => h ⟨z.1, z.2.1, z.2.2.1, z.2.2.2.1⟩, if_neg h]
theorem numberOf_num (lo hi : Nat) (w : Bytes) : numberOf lo hi w = match numIn w with
    | some n => if lo ≤ n ∧ n ≤ hi then some n else none
    | none => none := by
  rw [numIn_eq, numberOf_eq]
  by_cases h : w.all digit = true ∧ 1 ≤ w.length ∧ w.length ≤ 3 ∧ (w.length = 1 ∨ w.head? ≠ some 48)
  · rw [if_pos h]
    simp only
    obtain ⟨h1, h2, h3, h4⟩ := h
    by_cases h5 : lo ≤ numVal w ∧ numVal w ≤ hi
    · rw [if_pos h5, if_pos ⟨h1, h2, h3, h4, h5.1, h5.2⟩]
    · rw [if_neg h5, if_neg fun z => h5 z.2.2.2.2]
  · rw [if_neg h, if_neg fun z => h ⟨z.1, z.2.1, z.2.2.1, z.2.2.2.1⟩]
theorem numIn_digits {w : Bytes} {n : Nat} (h : numIn w = some n) : w.all digit = true := (numberOf_some h).1.1
theorem numIn_ne {w : Bytes} {n : Nat} (h : numIn w = some n) : w ≠ [] := fun e => by
  have := (numberOf_some h).1.2.1
  rw [e] at this
  simp at this
theorem numIn_le {w : Bytes} {n : Nat} (h : numIn w = some n) : n ≤ 999 := by
  obtain ⟨z, rfl⟩ := numberOf_some h
  exact z.2.2.2.2.2

/-! ### a word in parts -/
/-- what stands between the signs s -/
def splitL (s : Nat) : Bytes → List Bytes
  | [] => [[]]
  | c :: l => if c = s then [] :: splitL s l else match splitL s l with
    | [] => [[c]]
    | p :: r => (c :: p) :: r
theorem splitL_ne (s : Nat) : ∀ l, splitL s l ≠ []
  | [] => by simp [splitL]
  | c :: l => by
    unfold splitL
    split
    · simp
    · split <;> simp
theorem splitL_none {s : Nat} : ∀ {l : Bytes}, s ∉ l → splitL s l = [l]
  | [], _ => rfl
  | c :: l, h => by
    unfold splitL
    rw [if_neg (fun e => h (by rw [e]; exact List.mem_cons_self)), splitL_none fun z => h (List.mem_cons_of_mem _ z)]
theorem splitL_cut {s : Nat} : ∀ {a b : Bytes}, s ∉ a → splitL s (a ++ s :: b) = a :: splitL s b
  | [], b, _ => by
    show splitL s (s :: b) = _
    conv => lhs; unfold splitL
    rw [if_pos rfl]
  | c :: a, b, h => by
    show splitL s (c :: (a ++ s :: b)) = _
    conv => lhs; unfold splitL
    rw [if_neg (fun e => h (by rw [e]; exact List.mem_cons_self)), splitL_cut fun z => h (List.mem_cons_of_mem _ z)]
theorem cutAt_none : ∀ {s : Nat} {l : Bytes}, cutAt s l = none → s ∉ l
  | s, [], _ => fun z => nomatch z
  | s, c :: l, h => by
    unfold cutAt at h
    split at h
    · cases h
    · rename_i e
      have h2 : cutAt s l = none := by
        cases e2 : cutAt s l with
        | none => rfl
        | some y => rw [e2] at h; cases h
      intro z
      rcases List.mem_cons.mp z with z | z
      · exact e z.symm
      · exact cutAt_none h2 z
theorem cutAt_of : ∀ {s : Nat} {a b : Bytes}, s ∉ a → cutAt s (a ++ s :: b) = some (a, b)
  | s, [], b, _ => by
    show cutAt s (s :: b) = _
    unfold cutAt
    rw [if_pos rfl]
  | s, c :: a, b, h => by
    show cutAt s (c :: (a ++ s :: b)) = _
    unfold cutAt
    rw [if_neg (fun e => h (by rw [e]; exact List.mem_cons_self)), cutAt_of fun z => h (List.mem_cons_of_mem _ z)]
    rfl
/-- two parts, or not -/
theorem split_two {s : Nat} {l : Bytes} : (∃ a b, splitL s l = [a, b] ∧ cutAt s l = some (a, b) ∧ s ∉ b) ∨ ((splitL s l).length ≠ 2 ∧ (cutAt s l = none ∨ ∃ a b, cutAt s l = some (a, b) ∧ s ∈ b)) := by
  cases e : cutAt s l with
  | none =>
    rw [splitL_none (cutAt_none e)]
    exact .inr ⟨by simp, .inl rfl⟩
  | some x =>
    obtain ⟨a, b⟩ := x
    obtain ⟨h1, h2⟩ := cutAt_some e
    simp only at h1 h2
    rw [h1, splitL_cut h2]
    by_cases hb : s ∈ b
    · refine .inr ⟨?_, .inr ⟨a, b, rfl, hb⟩⟩
      cases e2 : cutAt s b with
      | none => exact absurd hb (cutAt_none e2)
      | some y =>
        obtain ⟨h3, h4⟩ := cutAt_some e2
        rw [h3, splitL_cut h4]
        have := splitL_ne s y.2
        cases e3 : splitL s y.2 with
        | nil => exact absurd e3 this
        | cons p r => simp only [List.length_cons]; omega
    · exact .inl ⟨a, b, by rw [splitL_none hb], rfl, hb⟩
theorem not_digit_mem {s : Nat} {b : Bytes} (hs : digit s = false) (h : s ∈ b) (lo hi : Nat) : numberOf lo hi b = none := by
  cases e : numberOf lo hi b with
  | none => rfl
  | some n =>
    have := List.all_eq_true.mp (numberOf_some e).1.1 s h
    rw [hs] at this
    cases this
theorem metre_none {l : Bytes} (h : cutAt 47 l = none ∨ ∃ a b, cutAt 47 l = some (a, b) ∧ 47 ∈ b) : metreOf l = none := by
  unfold metreOf
  rcases h with h | ⟨a, b, h, hb⟩
  · rw [h]
  · rw [h]
    simp only
    rw [not_digit_mem (by decide) hb]
    cases numberOf 1 32 a <;> rfl
theorem metre_some {l a b : Bytes} (h : cutAt 47 l = some (a, b)) : metreOf l = match numIn a, numIn b with
    | some n, some d => if (1 ≤ n ∧ n ≤ 32) ∧ UNITS.contains d = true then some (n, d) else none
    | _, _ => none := by
  unfold metreOf
  rw [h]
  simp only
  rw [numberOf_num 1 32 a, numberOf_num 1 32 b]
  cases numIn a with
  | none => rfl
  | some n =>
    cases numIn b with
    | none =>
      simp only
      generalize (if 1 ≤ n ∧ n ≤ 32 then some n else none) = z
      cases z <;> rfl
    | some d =>
      simp only
      by_cases hn : 1 ≤ n ∧ n ≤ 32
      · by_cases hd : UNITS.contains d = true
        · have : 1 ≤ d ∧ d ≤ 32 := by
            have : d = 1 ∨ d = 2 ∨ d = 4 ∨ d = 8 ∨ d = 16 ∨ d = 32 := by simpa [UNITS] using hd
            omega
          rw [if_pos hn, if_pos this, if_pos ⟨hn, hd⟩]
          simp only
          rw [if_pos hd]
        · rw [if_pos hn, if_neg (fun z : (1 ≤ n ∧ n ≤ 32) ∧ UNITS.contains d = true => hd z.2)]
          split
          · rename_i n' d' e1 e2
            split at e2
            · cases e2; rw [if_neg hd]
            · cases e2
          · rfl
      · rw [if_neg hn, if_neg (fun z : (1 ≤ n ∧ n ≤ 32) ∧ UNITS.contains d = true => hn z.1)]
theorem ratio_none {l : Bytes} (h : cutAt 58 l = none ∨ ∃ a b, cutAt 58 l = some (a, b) ∧ 58 ∈ b) : ratioOf l = none := by
  unfold ratioOf
  rcases h with h | ⟨a, b, h, hb⟩
  · rw [h]
  · rw [h]
    simp only
    rw [not_digit_mem (by decide) hb]
    cases numberOf 2 9 a <;> rfl
theorem ratio_some {l a b : Bytes} (h : cutAt 58 l = some (a, b)) : ratioOf l = match numIn a, numIn b with
    | some n, some m => if (2 ≤ n ∧ n ≤ 9) ∧ (2 ≤ m ∧ m ≤ 9) ∧ n ≠ m then some (n, m) else none
    | _, _ => none := by
  unfold ratioOf
  rw [h]
  simp only
  rw [numberOf_num 2 9 a, numberOf_num 2 9 b]
  cases numIn a with
  | none => rfl
  | some n =>
    cases numIn b with
    | none =>
      simp only
      generalize (if 2 ≤ n ∧ n ≤ 9 then some n else none) = z
      cases z <;> rfl
    | some m =>
      simp only
      by_cases hn : 2 ≤ n ∧ n ≤ 9
      · by_cases hm : 2 ≤ m ∧ m ≤ 9
        · rw [if_pos hn, if_pos hm]
          simp only
          by_cases e : n = m
          · rw [if_pos e, if_neg fun z => z.2.2 e]
          · rw [if_neg e, if_pos ⟨hn, hm, e⟩]
        · rw [if_pos hn, if_neg hm, if_neg fun z => hm z.2.1]
      · rw [if_neg hn, if_neg (fun z : (2 ≤ n ∧ n ≤ 9) ∧ (2 ≤ m ∧ m ≤ 9) ∧ n ≠ m => hn z.1)]
theorem key_eq (w : Bytes) : keyOf w = match w with
    | 45 :: l => (numberOf 1 7 l).map fun n => -(n : Int)
    | l => (numberOf 1 7 l).map fun n => (n : Int) := rfl
theorem key_isSome (w : Bytes) : (keyOf w).isSome = match (if w.head? = some 45 then numIn (w.drop 1) else numIn w) with
    | some n => decide (1 ≤ n) && decide (n ≤ 7)
    | none => false := by
  have key : ∀ l : Bytes, (numberOf 1 7 l).isSome = match numIn l with
    | some n => decide (1 ≤ n) && decide (n ≤ 7)
    | none => false := fun l => by
    rw [numberOf_num]
    cases numIn l with
    | none => rfl
    | some n =>
      simp only
      by_cases h : 1 ≤ n ∧ n ≤ 7
      · rw [if_pos h, decide_eq_true h.1, decide_eq_true h.2]; rfl
      · rw [if_neg h]
        have : (decide (1 ≤ n) && decide (n ≤ 7)) = false := by
          rw [Bool.and_eq_false_iff, decide_eq_false_iff_not, decide_eq_false_iff_not]
          omega
        rw [this]; rfl
  unfold keyOf
  split
  · rename_i l
    have e : ∀ z : Option Nat, (z.map fun n => -(n : Int)).isSome = z.isSome := fun z => by cases z <;> rfl
    refine (e _).trans ?_
    rw [key l]
    rfl
  · rename_i h
    have e : ∀ z : Option Nat, (z.map fun n => (n : Int)).isSome = z.isSome := fun z => by cases z <;> rfl
    refine (e _).trans ?_
    rw [key w, if_neg]
    cases w with
    | nil => simp
    | cons c l =>
      intro z
      have : c = 45 := by simpa using z
      subst this
      exact h l rfl

/-! ### pitches -/
def accOf : Bytes → Option Nat
  | [98, 98] => some 0
  | [98] => some 1
  | [] => some 2
  | [35] => some 3
  | [35, 35] => some 4
  | _ => none
def letOf (c : Nat) : Option Nat := LETTERS.findIdx? fun x => x == c
theorem acc_sign {m : Bytes} {s o : Nat} (h : accOf m = some s) (ho : digit o = true) (v : Bytes) : signOf (m ++ o :: v) = (s, o :: v) := by
  have d := digit_iff.mp ho
  unfold accOf at h
  split at h
  · cases h
    rfl
  · cases h
    show signOf (98 :: o :: v) = _
    unfold signOf
    split
    · rename_i e; injection e with e1 e2; omega
    · rename_i e; injection e with e1 e2; omega
    · rename_i e; injection e with e1 e2; injection e2 with e3 e4; omega
    · rename_i e; injection e with e1 e2; rw [e2]
    · rename_i e1 e2 e3 e4; exact absurd rfl (e4 (o :: v))
  · cases h
    show signOf (o :: v) = _
    unfold signOf
    split
    · rename_i e; injection e with e1 e2; omega
    · rename_i e; injection e with e1 e2; omega
    · rename_i e; injection e with e1 e2; omega
    · rename_i e; injection e with e1 e2; omega
    · rfl
  · cases h
    show signOf (35 :: o :: v) = _
    unfold signOf
    split
    · rename_i e; injection e with e1 e2; injection e2 with e3 e4; omega
    · rename_i e; injection e with e1 e2; rw [e2]
    · rename_i e; injection e with e1 e2; omega
    · rename_i e; injection e with e1 e2; omega
    · rename_i e1 e2 e3 e4; exact absurd rfl (e2 (o :: v))
  · cases h
    rfl
  · cases h
theorem sign_acc {l r : Bytes} {s : Nat} (h : signOf l = (s, r)) : ∃ m, accOf m = some s ∧ l = m ++ r := by
  unfold signOf at h
  split at h
  · cases h; exact ⟨[35, 35], rfl, rfl⟩
  · cases h; exact ⟨[35], rfl, rfl⟩
  · cases h; exact ⟨[98, 98], rfl, rfl⟩
  · cases h; exact ⟨[98], rfl, rfl⟩
  · cases h; exact ⟨[], rfl, rfl⟩
/-- a pitch at a word's beginning: its letter, its sign, its octave -/
theorem pitchOf_iff {w r : Bytes} {p : Pitch} : pitchOf w = some (p, r) ↔ ∃ c m o, w = c :: (m ++ o :: r) ∧ letOf c = some p.letter ∧ accOf m = some p.sign ∧ digit o = true ∧ p.octave = o - 48 := by
  constructor
  · intro h
    unfold pitchOf at h
    split at h
    · cases h
    · rename_i c l
      split at h
      · cases h
      · rename_i k hk
        simp only at h
        split at h
        · cases h
        · rename_i o r' e
          split at h
          · rename_i hd
            cases h
            obtain ⟨m, hm, e2⟩ := sign_acc (l := l) (s := (signOf l).1) (r := (signOf l).2) rfl
            exact ⟨c, m, o, by rw [e2, e], hk, hm, hd, rfl⟩
          · cases h
  · rintro ⟨c, m, o, rfl, hc, hm, ho, e⟩
    unfold letOf at hc
    have h2 := acc_sign hm ho r
    unfold pitchOf
    simp only [hc, h2, ho, if_true]
    rw [← e]
theorem pit_iff {w : Bytes} {p : Pitch} : pit w = some p ↔ pitchOf w = some (p, []) := by
  constructor
  · exact pit_some
  · intro h
    unfold pit
    rw [h]
/-- what the program looks at: the first sign, what's between, the last sign -/
theorem pit_parts {c o : Nat} {m : Bytes} : pit (c :: (m ++ [o])) = match letOf c, accOf m, digit o with
    | some k, some s, true => some ⟨k, s, o - 48⟩
    | _, _, _ => none := by
  refine option_ext fun p => ?_
  rw [pit_iff, pitchOf_iff]
  constructor
  · rintro ⟨c', m', o', e, hc, hm, ho, eo⟩
    injection e with e1 e2
    have hl := congrArg List.getLast? e2
    rw [List.getLast?_concat, List.getLast?_concat] at hl
    have ho2 : o = o' := Option.some.inj hl
    subst ho2
    have hm2 := List.append_cancel_right e2
    subst hm2
    subst e1
    rw [hc, hm, ho]
    simp only
    rw [← eo]
  · intro h
    split at h
    · rename_i k s hc hm ho
      cases h
      exact ⟨c, m, o, rfl, hc, hm, ho, rfl⟩
    · cases h
theorem pit_short {w : Bytes} (h : w.length < 2) : pit w = none := by
  cases e : pit w with
  | none => rfl
  | some p =>
    obtain ⟨c, m, o, e2, _⟩ := pitchOf_iff.mp (pit_iff.mp e)
    rw [e2] at h
    simp at h
    omega
theorem acc_mem {m : Bytes} {s : Nat} : accOf m = some s ↔ [([98, 98] : Bytes), [98], [], [35], [35, 35]][s]? = some m := by
  constructor
  · intro h
    unfold accOf at h
    split at h <;> cases h <;> rfl
  · intro h
    match s, h with
    | 0, h => cases h; rfl
    | 1, h => cases h; rfl
    | 2, h => cases h; rfl
    | 3, h => cases h; rfl
    | 4, h => cases h; rfl
    | n + 5, h => simp at h
theorem let_mem {c k : Nat} (h : letOf c = some k) : LETTERS[k]? = some c ∧ k < 7 := by
  obtain ⟨hk, he, _⟩ := List.findIdx?_eq_some_iff_getElem.mp h
  have e : LETTERS[k] = c := by simpa using he
  exact ⟨by rw [List.getElem?_eq_getElem hk, e], hk⟩
theorem let_some {c : Nat} (h : c ∈ LETTERS) : ∃ k, letOf c = some k := by
  cases e : letOf c with
  | some k => exact ⟨k, rfl⟩
  | none =>
    unfold letOf at e
    rw [List.findIdx?_eq_none_iff] at e
    have := e c h
    simp at this
theorem let_none {c : Nat} (h : c ∉ LETTERS) : letOf c = none := by
  cases e : letOf c with
  | none => rfl
  | some k => exact absurd (List.mem_of_getElem? (let_mem e).1) h

/-! ### lengths -/
/-- without the last dots -/
def rdot (l : Bytes) : Bytes := l.take (l.length - (l.reverse.takeWhile fun c => c == 46).length)
theorem rdot_of {b : Bytes} {j : Nat} (hb : ∀ c, b.getLast? = some c → c ≠ 46) : rdot (b ++ List.replicate j 46) = b := by
  unfold rdot
  have e : ((b ++ List.replicate j 46).reverse.takeWhile fun c => c == 46).length = j := by
    rw [List.reverse_append, List.reverse_replicate]
    have h1 : ∀ r : Bytes, (∀ c, r.head? = some c → c ≠ 46) → ((List.replicate j 46 ++ r).takeWhile fun c => c == 46).length = j := by
      intro r hr
      induction j with
      | zero =>
        cases r with
        | nil => rfl
        | cons c r =>
          have : c ≠ 46 := hr c rfl
          simp [List.takeWhile_cons, this]
      | succ j ih =>
        rw [List.replicate_succ, List.cons_append, List.takeWhile_cons]
        simp only [beq_self_eq_true, if_true, List.length_cons, ih]
    exact h1 _ fun c hc => hb c (by rw [List.head?_reverse] at hc; exact hc)
  rw [e, List.length_append, List.length_replicate, Nat.add_sub_cancel, List.take_left]
theorem rdot_split (l : Bytes) : ∃ j, l = rdot l ++ List.replicate j 46 ∧ (∀ c, (rdot l).getLast? = some c → c ≠ 46) := by
  have key : ∀ r : Bytes, ∃ j, r = List.replicate j 46 ++ r.drop (r.takeWhile fun c => c == 46).length ∧ (r.takeWhile fun c => c == 46).length = j ∧ (∀ c, (r.drop (r.takeWhile fun c => c == 46).length).head? = some c → c ≠ 46) := by
    intro r
    induction r with
    | nil => exact ⟨0, rfl, rfl, fun c h => by simp at h⟩
    | cons a r ih =>
      rw [List.takeWhile_cons]
      by_cases ha : a = 46
      · subst ha
        obtain ⟨j, h1, h2, h3⟩ := ih
        refine ⟨j + 1, ?_, ?_, ?_⟩
        · simp only [beq_self_eq_true, if_true, List.length_cons, List.drop_succ_cons]
          rw [List.replicate_succ, List.cons_append, ← h1]
        · simp only [beq_self_eq_true, if_true, List.length_cons, h2]
        · simp only [beq_self_eq_true, if_true, List.length_cons, List.drop_succ_cons]
          exact h3
      · have : (a == 46) = false := by simpa using ha
        rw [this]
        refine ⟨0, rfl, rfl, fun c hc => ?_⟩
        have : a = c := by simpa using hc
        exact this ▸ ha
  obtain ⟨j, h1, h2, h3⟩ := key l.reverse
  have hlen : j ≤ l.length := by
    have := congrArg List.length h1
    rw [List.length_reverse, List.length_append, List.length_replicate] at this
    omega
  have e : rdot l = (l.reverse.drop j).reverse := by
    unfold rdot
    rw [h2, List.reverse_drop, List.length_reverse, List.reverse_reverse]
  rw [h2] at h1 h3
  refine ⟨j, ?_, fun c hc => h3 c ?_⟩
  · rw [e]
    have := congrArg List.reverse h1
    rw [List.reverse_reverse, List.reverse_append, List.reverse_replicate] at this
    exact this
  · rw [e, List.getLast?_reverse] at hc
    exact hc
/-- what the program looks at -/
def lenIn (w : Bytes) : Option (Nat × Nat × Bool) :=
  if w.head? ≠ some 47 then none else
    let t : Bool := w.getLast? == some 126
    let rest := (w.drop 1).take (w.length - (if t then 1 else 0) - 1)
    let j := rest.length - (rdot rest).length
    match numIn (rdot rest) with
    | none => none
    | some n => if 3 ≤ j ∨ KINDS.contains n = false then none else some (n, j, t)
/-- how a length is written -/
def LenD (w : Bytes) (n j : Nat) (t : Bool) : Prop := ∃ b, w = 47 :: (b ++ List.replicate j 46 ++ if t = true then [126] else []) ∧ numIn b = some n ∧ KINDS.contains n = true ∧ j ≤ 2
theorem digits_last {b : Bytes} (h : b.all digit = true) : ∀ c, b.getLast? = some c → c ≠ 46 ∧ c ≠ 126 := fun c hc => by
  have := digit_iff.mp (List.all_eq_true.mp h c (List.mem_of_getLast? hc))
  omega
theorem lenIn_of {w : Bytes} {n j : Nat} {t : Bool} (h : LenD w n j t) : lenIn w = some (n, j, t) := by
  obtain ⟨b, rfl, hb, hk, hj⟩ := h
  have hd := numIn_digits hb
  have hne := numIn_ne hb
  have last : ((47 :: (b ++ List.replicate j 46 ++ if t = true then [126] else [])).getLast? == some 126) = t := by
    cases t with
    | true =>
      rw [if_pos rfl]
      have : (47 :: (b ++ List.replicate j 46 ++ [126])).getLast? = some 126 := by
        rw [← List.cons_append, List.getLast?_concat]
      rw [this]; rfl
    | false =>
      rw [if_neg Bool.false_ne_true, List.append_nil]
      cases j with
      | zero =>
        show ((47 :: (b ++ [])).getLast? == some 126) = false
        rw [List.append_nil]
        cases e : b.getLast? with
        | none => exact absurd (List.getLast?_eq_none_iff.mp e) hne
        | some c =>
          have : (47 :: b).getLast? = some c := by rw [List.getLast?_cons, e]; rfl
          rw [this]
          have := (digits_last hd c e).2
          simpa using this
      | succ j =>
        rw [List.replicate_succ', ← List.append_assoc, ← List.cons_append, List.getLast?_concat]
        rfl
  unfold lenIn
  rw [if_neg (by simp)]
  simp only [last]
  have rest : ((47 :: (b ++ List.replicate j 46 ++ if t = true then [126] else [])).drop 1).take ((47 :: (b ++ List.replicate j 46 ++ if t = true then [126] else [])).length - (if t = true then 1 else 0) - 1) = b ++ List.replicate j 46 := by
    rw [List.drop_succ_cons, List.drop_zero]
    refine List.take_left' ?_
    cases t with
    | true => simp only [if_true, List.length_cons, List.length_append, List.length_nil]; omega
    | false => simp only [Bool.false_eq_true, if_false, List.length_cons, List.length_append, List.length_nil]; omega
  rw [rest, rdot_of fun c hc => (digits_last hd c hc).1, hb]
  simp only
  have ej : (b ++ List.replicate j 46).length - b.length = j := by rw [List.length_append, List.length_replicate]; omega
  rw [ej, if_neg (by rw [hk]; simp; omega)]
theorem lenIn_some {w : Bytes} {n j : Nat} {t : Bool} (h : lenIn w = some (n, j, t)) : LenD w n j t := by
  unfold lenIn at h
  split at h
  · cases h
  · rename_i h47
    have h47 : w.head? = some 47 := Classical.not_not.mp h47
    simp only at h
    cases w with
    | nil => cases h47
    | cons c l =>
      have : c = 47 := by simpa using h47
      subst this
      rw [List.drop_succ_cons, List.drop_zero] at h
      generalize et : ((47 :: l).getLast? == some 126) = t0 at h
      generalize er : l.take ((47 :: l).length - (if t0 = true then 1 else 0) - 1) = rest at h
      cases hn : numIn (rdot rest) with
      | none => rw [hn] at h; cases h
      | some n0 =>
        rw [hn] at h
        simp only at h
        split at h
        · cases h
        · rename_i hc
          cases h
          obtain ⟨i, h1, h2⟩ := rdot_split rest
          have hj : rest.length - (rdot rest).length = i := by
            have := congrArg List.length h1
            rw [List.length_append, List.length_replicate] at this
            omega
          have hc1 : ¬ 3 ≤ rest.length - (rdot rest).length := fun z => hc (.inl z)
          have hc2 : KINDS.contains n = true := by
            cases z : KINDS.contains n with
            | true => rfl
            | false => exact absurd (.inr z) hc
          refine ⟨rdot rest, ?_, hn, hc2, by omega⟩
          rw [hj, ← h1]
          congr 1
          cases t with
          | true =>
            rw [if_pos rfl]
            have hl : (47 :: l).getLast? = some 126 := by simpa using et
            have hlne : l ≠ [] := fun z => by rw [z] at hl; simp at hl
            have hl2 : l.getLast? = some 126 := by
              rw [List.getLast?_cons] at hl
              cases z : l.getLast? with
              | none => exact absurd (List.getLast?_eq_none_iff.mp z) hlne
              | some a => rw [z] at hl; exact hl
            have e2 : l.take (l.length - 1) = rest := by
              rw [← er]
              congr 1
            rw [← e2, ← List.dropLast_eq_take]
            have hg : l.getLast hlne = 126 := by
              rw [List.getLast?_eq_some_getLast hlne] at hl2
              exact Option.some.inj hl2
            have := List.dropLast_concat_getLast hlne
            rw [hg] at this
            exact this.symm
          | false =>
            rw [if_neg Bool.false_ne_true, List.append_nil, ← er]
            have : (47 :: l).length - (if false = true then 1 else 0) - 1 = l.length := by simp
            rw [this, List.take_length]
theorem takeWhile_digits {b r : Bytes} (h : b.all digit = true) (hr : ∀ c, r.head? = some c → digit c = false) : (b ++ r).takeWhile digit = b := by
  induction b with
  | nil =>
    cases r with
    | nil => rfl
    | cons c r =>
      rw [List.nil_append, List.takeWhile_cons, hr c rfl]
      rfl
  | cons a b ih =>
    rw [List.all_cons, Bool.and_eq_true] at h
    rw [List.cons_append, List.takeWhile_cons, h.1, if_pos rfl, ih h.2]
theorem longOf_of {w : Bytes} {n j : Nat} {t : Bool} (h : LenD w n j t) : longOf w = some (n, j, t) := by
  obtain ⟨b, rfl, hb, hk, hj⟩ := h
  have hd := numIn_digits hb
  have hn : numberOf 1 64 b = some n := by
    rw [numberOf_num, hb]
    simp only
    obtain ⟨k0, k1, _⟩ := kinds_dvd hk
    rw [if_pos ⟨k0, k1⟩]
  have htw : (b ++ List.replicate j 46 ++ if t = true then [126] else []).takeWhile digit = b := by
    rw [List.append_assoc]
    refine takeWhile_digits hd fun c hc => ?_
    cases j with
    | zero =>
      cases t with
      | true => have : (126 : Nat) = c := by simpa using hc
                rw [← this]; rfl
      | false => simp at hc
    | succ j =>
      have : (46 : Nat) = c := by simpa [List.replicate_succ] using hc
      rw [← this]; rfl
  unfold longOf
  simp only [htw, hn]
  rw [if_neg (by rw [hk]; simp), List.append_assoc, List.drop_left]
  have : j = 0 ∨ j = 1 ∨ j = 2 := by omega
  rcases this with rfl | rfl | rfl <;> cases t <;> rfl
theorem dotsOf_some (l : Bytes) : l = List.replicate (dotsOf l).1 46 ++ (dotsOf l).2 ∧ (dotsOf l).1 ≤ 2 := by
  unfold dotsOf
  split
  · exact ⟨rfl, Nat.le_refl _⟩
  · exact ⟨rfl, by show 1 ≤ 2; decide⟩
  · exact ⟨rfl, by show 0 ≤ 2; decide⟩
theorem longOf_some {w : Bytes} {n j : Nat} {t : Bool} (h : longOf w = some (n, j, t)) : LenD w n j t := by
  unfold longOf at h
  split at h
  · rename_i l
    simp only at h
    split at h
    · cases h
    · rename_i k hn
      split at h
      · cases h
      · rename_i hk
        have hk' : KINDS.contains k = true := by
          cases z : KINDS.contains k with
          | true => rfl
          | false => exact absurd z hk
        have hin : numIn (l.takeWhile digit) = some k := by
          rw [numberOf_num] at hn
          cases e : numIn (l.takeWhile digit) with
          | none => rw [e] at hn; cases hn
          | some m =>
            rw [e] at hn
            simp only at hn
            split at hn
            · exact hn
            · cases hn
        obtain ⟨d1, d2⟩ := dotsOf_some (l.drop (l.takeWhile digit).length)
        have base : l = l.takeWhile digit ++ (List.replicate (dotsOf (l.drop (l.takeWhile digit).length)).1 46 ++ (dotsOf (l.drop (l.takeWhile digit).length)).2) := by
          rw [← d1]
          exact takeWhile_split digit l
        split at h
        · rename_i e
          cases h
          refine ⟨_, ?_, hin, hk', d2⟩
          rw [e] at base
          rw [if_neg Bool.false_ne_true, List.append_nil]
          congr 1
          rw [List.append_nil] at base
          exact base
        · split at h
          · rename_i e
            cases h
            refine ⟨_, ?_, hin, hk', d2⟩
            rw [e] at base
            rw [if_pos rfl]
            congr 1
            rw [List.append_assoc]
            exact base
          · cases h
  · cases h
theorem lenIn_eq (w : Bytes) : lenIn w = longOf w := option_ext fun ⟨n, j, t⟩ => ⟨fun h => longOf_of (lenIn_some h), fun h => lenIn_of (longOf_some h)⟩

/-! ### notes and rests -/
def noteIn (w : Bytes) : Option (Pitch × Nat × Nat × Bool) := match pitchOf w with
  | none => none
  | some x => (longOf x.2).map fun y => (x.1, y)
def restIn : Bytes → Option (Nat × Nat)
  | 114 :: l => match longOf l with
    | some (k, d, false) => some (k, d)
    | _ => none
  | _ => none
theorem pitch_114 (l : Bytes) : pitchOf (114 :: l) = none := rfl
theorem noteOf_eq (p : Nat) (w : Bytes) : noteOf ⟨p, w⟩ = match noteIn w with
    | some x => some (.note p [x.1] x.2.1 x.2.2.1 x.2.2.2)
    | none => match restIn w with
      | some y => some (.note p [] y.1 y.2 false)
      | none => none := by
  by_cases h : ∃ l, w = 114 :: l
  · obtain ⟨l, rfl⟩ := h
    show (match longOf l with
      | some (k, d, false) => some (Piece.note p [] k d false)
      | _ => none) = match (match longOf l with
      | some (k, d, false) => some (k, d)
      | _ => none) with
      | some y => some (.note p [] y.1 y.2 false)
      | none => none
    cases longOf l with
    | none => rfl
    | some y =>
      obtain ⟨k, d, t⟩ := y
      cases t <;> rfl
  · have hr : restIn w = none := by
      unfold restIn
      split
      · rename_i l; exact absurd ⟨l, rfl⟩ h
      · rfl
    rw [hr]
    unfold noteOf noteIn
    simp only
    split
    · rename_i l; exact absurd ⟨l, rfl⟩ h
    · cases e : pitchOf w with
      | none => rfl
      | some x =>
        simp only
        cases longOf x.2 with
        | none => rfl
        | some y => rfl
theorem note_rest {w : Bytes} {x : Pitch × Nat × Nat × Bool} (h : noteIn w = some x) : restIn w = none := by
  unfold restIn
  split
  · unfold noteIn at h
    rw [pitch_114] at h
    cases h
  · rfl
/-- cut at the first stroke -/
theorem noteIn_cut {a b : Bytes} (ha : 47 ∉ a) : noteIn (a ++ 47 :: b) = match pit a, longOf (47 :: b) with
    | some p, some y => some (p, y)
    | _, _ => none := by
  refine option_ext fun x => ?_
  constructor
  · intro h
    unfold noteIn at h
    cases e : pitchOf (a ++ 47 :: b) with
    | none => rw [e] at h; cases h
    | some z =>
      obtain ⟨p, r⟩ := z
      rw [e] at h
      simp only at h
      cases e2 : longOf r with
      | none => rw [e2] at h; cases h
      | some y =>
        rw [e2] at h
        cases h
        obtain ⟨c, m, o, e3, hc, hm, ho, eo⟩ := pitchOf_iff.mp e
        obtain ⟨d, rfl, _⟩ := longOf_some (w := r) (n := y.1) (j := y.2.1) (t := y.2.2) e2
        have n1 : 47 ∉ (c :: (m ++ [o])) := by
          intro z
          rcases List.mem_cons.mp z with z | z
          · subst z; cases hc
          · rcases List.mem_append.mp z with z | z
            · unfold accOf at hm
              split at hm <;> simp at z hm
            · have : 47 = o := by simpa using z
              subst this; cases ho
        have e4 : a ++ 47 :: b = (c :: (m ++ [o])) ++ 47 :: (d ++ List.replicate y.2.1 46 ++ if y.2.2 = true then [126] else []) := by
          rw [e3]; simp
        have f1 := cutAt_of (b := b) ha
        rw [e4, cutAt_of n1] at f1
        obtain ⟨g1, g2⟩ := Prod.mk.inj (Option.some.inj f1)
        have hp : pit a = some p := pit_iff.mpr (pitchOf_iff.mpr ⟨c, m, o, g1.symm, hc, hm, ho, eo⟩)
        rw [hp, ← g2, e2]
  · intro h
    split at h
    · rename_i p y e1 e2
      cases h
      obtain ⟨c, m, o, e3, hc, hm, ho, eo⟩ := pitchOf_iff.mp (pit_iff.mp e1)
      have : pitchOf (a ++ 47 :: b) = some (p, 47 :: b) := pitchOf_iff.mpr ⟨c, m, o, by rw [e3]; simp, hc, hm, ho, eo⟩
      unfold noteIn
      rw [this]
      simp only
      rw [e2]
      rfl
    · cases h
theorem noteIn_none {w : Bytes} (h : 47 ∉ w) : noteIn w = none := by
  unfold noteIn
  cases e : pitchOf w with
  | none => rfl
  | some z =>
    obtain ⟨p, r⟩ := z
    simp only
    cases e2 : longOf r with
    | none => rfl
    | some y =>
      obtain ⟨d, rfl, _⟩ := longOf_some (w := r) (n := y.1) (j := y.2.1) (t := y.2.2) e2
      obtain ⟨c, m, o, e3, _⟩ := pitchOf_iff.mp e
      exact absurd (by rw [e3]; simp) h
end Pf

/-! # The reader's state, as the specification's pieces tell it; words in their one form -/
namespace Pf
open Sx62

/-! ### words as they are written -/
theorem dec_one {n : Nat} (h : n < 10) : dec n = [48 + n] := by
  show (if n < 10 then [48 + n] else digits 3 (n / 10) ++ [48 + n % 10]) = _
  rw [if_pos h]
theorem dec_num {w : Bytes} {n : Nat} (h : numIn w = some n) : dec n = w := by
  obtain ⟨⟨h1, h2, h3, h4, _, _⟩, rfl⟩ := numberOf_some h
  have dg : ∀ c ∈ w, 48 ≤ c ∧ c ≤ 57 := fun c hc => digit_iff.mp (List.all_eq_true.mp h1 c hc)
  match w, h2, h3 with
  | [a], _, _ =>
    have ha := dg a (by simp)
    have e : numVal [a] = a - 48 := by simp [numVal]
    rw [e, dec_one (by omega)]
    congr 1; omega
  | [a, b], _, _ =>
    have ha := dg a (by simp)
    have hb := dg b (by simp)
    have a0 : a ≠ 48 := by rcases h4 with h4 | h4 <;> simp at h4; exact h4
    have e : numVal [a, b] = 10 * (a - 48) + (b - 48) := by simp [numVal]
    rw [e]
    show (if 10 * (a - 48) + (b - 48) < 10 then _ else digits 3 ((10 * (a - 48) + (b - 48)) / 10) ++ [48 + (10 * (a - 48) + (b - 48)) % 10]) = _
    rw [if_neg (by omega)]
    have e1 : (10 * (a - 48) + (b - 48)) / 10 = a - 48 := by omega
    have e2 : 48 + (10 * (a - 48) + (b - 48)) % 10 = b := by omega
    rw [e1, e2]
    show (if a - 48 < 10 then [48 + (a - 48)] else _) ++ [b] = _
    rw [if_pos (by omega)]
    have e3 : 48 + (a - 48) = a := by omega
    rw [e3]
    rfl
  | [a, b, c], _, _ =>
    have ha := dg a (by simp)
    have hb := dg b (by simp)
    have hc := dg c (by simp)
    have a0 : a ≠ 48 := by rcases h4 with h4 | h4 <;> simp at h4; exact h4
    have e : numVal [a, b, c] = 10 * (10 * (a - 48) + (b - 48)) + (c - 48) := by simp [numVal]
    rw [e]
    generalize hx : 10 * (a - 48) + (b - 48) = x
    show (if 10 * x + (c - 48) < 10 then _ else digits 3 ((10 * x + (c - 48)) / 10) ++ [48 + (10 * x + (c - 48)) % 10]) = _
    rw [if_neg (by omega)]
    have e1 : (10 * x + (c - 48)) / 10 = x := by omega
    have e2 : 48 + (10 * x + (c - 48)) % 10 = c := by omega
    rw [e1, e2]
    show (if x < 10 then _ else digits 2 (x / 10) ++ [48 + x % 10]) ++ [c] = _
    rw [if_neg (by omega)]
    have e3 : x / 10 = a - 48 := by omega
    have e4 : 48 + x % 10 = b := by omega
    rw [e3, e4]
    show (if a - 48 < 10 then [48 + (a - 48)] else _) ++ [b] ++ [c] = _
    rw [if_pos (by omega)]
    have e5 : 48 + (a - 48) = a := by omega
    rw [e5]
    rfl
theorem numberOf_dec {lo hi n : Nat} {w : Bytes} (h : numberOf lo hi w = some n) : dec n = w := by
  rw [numberOf_num] at h
  cases e : numIn w with
  | none => rw [e] at h; cases h
  | some m =>
    rw [e] at h
    simp only at h
    split at h
    · cases h; exact dec_num e
    · cases h
theorem long_text {w : Bytes} {k d : Nat} {t : Bool} (h : longOf w = some (k, d, t)) : longText k d t = w := by
  obtain ⟨b, rfl, hb, _, _⟩ := longOf_some h
  unfold longText
  rw [dec_num hb]
  cases t <;> simp
theorem pitch_text {w : Bytes} {p : Pitch} (h : pit w = some p) : pitchText p = w := by
  obtain ⟨c, m, o, rfl, hc, hm, ho, eo⟩ := pitchOf_iff.mp (pit_iff.mp h)
  have d := digit_iff.mp ho
  unfold pitchText signText
  have h1 : LETTERS.getD p.letter 99 = c := by rw [List.getD_eq_getElem?_getD, (let_mem hc).1]; rfl
  have h2 : ([[98, 98], [98], [], [35], [35, 35]] : List Bytes).getD p.sign [] = m := by
    rw [List.getD_eq_getElem?_getD, acc_mem.mp hm]; rfl
  rw [h1, h2, eo, dec_one (by omega)]
  have e : 48 + (o - 48) = o := by omega
  rw [e]
  rfl
theorem note_text {w : Bytes} {p : Pitch} {k d : Nat} {t : Bool} (h : noteIn w = some (p, k, d, t)) : pitchText p ++ longText k d t = w := by
  cases hc : cutAt 47 w with
  | none => rw [noteIn_none (cutAt_none hc)] at h; cases h
  | some x =>
    obtain ⟨a, b⟩ := x
    obtain ⟨h1, h2⟩ := cutAt_some hc
    simp only at h1 h2
    rw [h1, noteIn_cut h2] at h
    split at h
    · rename_i p' y e1 e2
      cases h
      rw [pitch_text e1, long_text e2, h1]
    · cases h
theorem rest_text {w : Bytes} {k d : Nat} (h : restIn w = some (k, d)) : 114 :: longText k d false = w := by
  unfold restIn at h
  split at h
  · split at h
    · rename_i e
      cases h
      rw [long_text e]
    · cases h
  · cases h
theorem chord_text {w : Bytes} {k d : Nat} {t : Bool} (h : chordEnd w = some (k, d, t)) : 93 :: longText k d t = w := by
  unfold chordEnd at h
  split at h
  · rw [long_text h]
  · cases h
theorem ratio_text {l : Bytes} {n m : Nat} (h : ratioOf l = some (n, m)) : dec n ++ 58 :: dec m = l := by
  cases hc : cutAt 58 l with
  | none => rw [ratio_none (.inl hc)] at h; cases h
  | some x =>
    obtain ⟨a, b⟩ := x
    rw [ratio_some hc] at h
    split at h
    · rename_i n' m' e1 e2
      split at h
      · cases h
        rw [dec_num e1, dec_num e2]
        exact (cutAt_some hc).1.symm
      · cases h
    · cases h

/-! ### the state behind some pieces -/
structure PiecOk (p : Pitch) : Prop where
  l : p.letter < 7
  s : p.sign < 5
  o : p.octave ≤ 9
theorem pit_pok {w : Bytes} {p : Pitch} (h : pit w = some p) : PiecOk p := by
  obtain ⟨c, m, o, _, hc, hm, ho, eo⟩ := pitchOf_iff.mp (pit_iff.mp h)
  refine ⟨(let_mem hc).2, ?_, ?_⟩
  · have := acc_mem.mp hm
    rcases Nat.lt_or_ge p.sign 5 with h | h
    · exact h
    · rw [List.getElem?_eq_none (by simpa using h)] at this; cases this
  · have := digit_iff.mp ho; omega
/-- a piece's words -/
def pieceWords : Piece → List Bytes
  | .note _ ps k d t => match ps with
    | [] => [114 :: longText k d t]
    | [p] => [pitchText p ++ longText k d t]
    | ps => [[91]] ++ ps.map pitchText ++ [93 :: longText k d t]
  | .opens n m => [123 :: dec n ++ 58 :: dec m]
  | .closes => [[125]]
/-- of each open tuplet (the innermost first, the bar last) how many pieces it has; the open tuplets; the notes; the words -/
structure BSt where
  mr : List Nat
  st : List (Nat × Nat)
  evs : List Timed
  bw : List Bytes
def incr : List Nat → List Nat
  | [] => []
  | x :: r => (x + 1) :: r
def stepP (s : BSt) : Piece → BSt
  | .note p ps k d t => ⟨incr s.mr, s.st, s.evs ++ [⟨p, ps, signLong k d s.st, t⟩], s.bw ++ pieceWords (.note p ps k d t)⟩
  | .opens n m => ⟨0 :: s.mr, (n, m) :: s.st, s.evs, s.bw ++ pieceWords (.opens n m)⟩
  | .closes => ⟨incr s.mr.tail, s.st.tail, s.evs, s.bw ++ pieceWords .closes⟩
/-- behind pieces, the last first -/
def stOf (short : Bool) : List Piece → BSt
  | [] => ⟨[0], [], [], if short = true then [SHORT] else []⟩
  | p :: acc => stepP (stOf short acc) p
def PcOk : Piece → Prop
  | .note _ ps k d t => KINDS.contains k = true ∧ d ≤ 2 ∧ (∀ p ∈ ps, PiecOk p) ∧ (t = true → ps ≠ []) ∧ ps.length ≤ 6
  | .opens n m => 2 ≤ n ∧ n ≤ 9 ∧ 2 ≤ m ∧ m ≤ 9
  | .closes => True
def AccOk (short : Bool) : List Piece → Prop
  | [] => True
  | p :: acc => AccOk short acc ∧ PcOk p ∧ (match p with
    | .opens _ _ => (stOf short acc).st.length < 3
    | .closes => 0 < (stOf short acc).st.length
    | _ => True)
structure EvOk (t : Timed) : Prop where
  long : FG 200 t.long
  ps : ∀ p ∈ t.ps, PiecOk p
  tie : t.tie = true → t.ps ≠ []
  six : t.ps.length ≤ 6
structure StF (acc : List Piece) (s : BSt) : Prop where
  len : s.mr.length = s.st.length + 1
  ok : StOk s.st
  deep : s.st.length ≤ 3
  top : ∃ x r, s.mr = x :: r ∧ (0 < x ↔ acc ≠ [] ∧ afterOpen acc = false)
  flat : s.st = [] → afterOpen acc = false
  evs : ∀ t ∈ s.evs, EvOk t
theorem acc_facts (short : Bool) : ∀ {acc : List Piece}, AccOk short acc → StF acc (stOf short acc)
  | [], _ => ⟨rfl, (fun p h => by cases h), Nat.zero_le _, ⟨0, [], rfl, by simp⟩, (fun _ => rfl), (fun t h => by cases h)⟩
  | p :: acc, h => by
    obtain ⟨h1, h2, h3⟩ := h
    have ih := acc_facts short h1
    obtain ⟨x, r, e, _⟩ := ih.top
    cases p with
    | note pl ps k d t =>
      obtain ⟨c1, c2, c3, c4, c5⟩ := h2
      refine ⟨?_, ih.ok, ih.deep, ⟨x + 1, r, ?_, by simp [afterOpen]⟩, fun _ => rfl, ?_⟩
      · have := ih.len
        show (incr (stOf short acc).mr).length = (stOf short acc).st.length + 1
        rw [e] at this ⊢
        exact this
      · show incr (stOf short acc).mr = _
        rw [e]; rfl
      · intro z hz
        rcases List.mem_append.mp hz with hz | hz
        · exact ih.evs z hz
        · have : z = ⟨pl, ps, signLong k d (stOf short acc).st, t⟩ := by simpa using hz
          subst this
          exact ⟨fg_sign c1 c2 ih.ok ih.deep, c3, c4, c5⟩
    | opens n m =>
      refine ⟨?_, ?_, ?_, ⟨0, (stOf short acc).mr, rfl, by simp [afterOpen]⟩, (fun z => by cases z), ih.evs⟩
      · show (0 :: (stOf short acc).mr).length = ((n, m) :: (stOf short acc).st).length + 1
        rw [List.length_cons, List.length_cons, ih.len]
      · intro q hq
        rcases List.mem_cons.mp hq with hq | hq
        · rw [hq]; exact h2
        · exact ih.ok q hq
      · exact h3
    | closes =>
      have h3' : 0 < (stOf short acc).st.length := h3
      have hlen := ih.len
      cases hr : r with
      | nil =>
        rw [e, hr] at hlen
        simp at hlen
        rw [hlen] at h3'
        simp at h3'
      | cons y r' =>
        refine ⟨?_, fun q hq => ih.ok q (List.mem_of_mem_tail hq), ?_, ⟨y + 1, r', ?_, by simp [afterOpen]⟩, fun _ => rfl, ih.evs⟩
        · show (incr (stOf short acc).mr.tail).length = (stOf short acc).st.tail.length + 1
          rw [e, hr] at hlen ⊢
          simp only [List.tail_cons, incr, List.length_cons, List.length_tail] at hlen ⊢
          omega
        · show (stOf short acc).st.tail.length ≤ 3
          have := ih.deep
          rw [List.length_tail]; omega
        · show incr (stOf short acc).mr.tail = _
          rw [e, hr]; rfl
/-- by what the open tuplets multiply, the innermost first -/
def byTails : List (Nat × Nat) → List Frac
  | [] => [⟨1, 1⟩]
  | p :: st => byOf (p :: st) :: byTails st
theorem byTails_head (st : List (Nat × Nat)) : ∃ r, byTails st = byOf st :: r := by
  cases st with
  | nil => exact ⟨[], rfl⟩
  | cons p st => exact ⟨byTails st, rfl⟩
theorem fg_by {st : List (Nat × Nat)} (h : StOk st) (hl : st.length ≤ 3) : Sm (byOf st) := by
  rw [byOf_prod h]
  have hN := prodN_pos h
  refine ⟨lowest_den_pos hN, ?_, ?_⟩
  · have h1 : (lowest (prodM st) (prodN st)).den ≤ prodN st := Nat.le_of_dvd hN (lowest_den_dvd _ _)
    have h2 : prodN st ≤ 2520 ^ 3 := Nat.le_of_dvd (by decide) (Nat.dvd_trans (prodN_dvd h) (Nat.pow_dvd_pow _ hl))
    exact Nat.lt_of_le_of_lt (Nat.le_trans h1 h2) (by decide)
  · have h1 : (lowest (prodM st) (prodN st)).num ≤ prodM st := by
      rw [lowest_num]; exact Nat.div_le_self _ _
    have h2 := prodM_le h
    have h3 : prodN st ≤ 2520 ^ 3 := Nat.le_of_dvd (by decide) (Nat.dvd_trans (prodN_dvd h) (Nat.pow_dvd_pow _ hl))
    have h4 : prodM st ≤ 9 ^ 3 * 2520 ^ 3 := by
      have a1 : prodM st ≤ prodM st * 2 ^ st.length := Nat.le_mul_of_pos_right _ (Nat.two_pow_pos _)
      have a2 : 9 ^ st.length * prodN st ≤ 9 ^ 3 * 2520 ^ 3 := Nat.mul_le_mul (Nat.pow_le_pow_right (by decide) hl) h3
      omega
    exact Nat.lt_of_le_of_lt (Nat.le_trans h1 h4) (by decide)
theorem fg_sig {k d : Nat} (hk : KINDS.contains k = true) (hd : d ≤ 2) : Sm (lowest (2 ^ (d + 1) - 1) (k * 2 ^ d)) := by
  obtain ⟨k0, k1, _⟩ := kinds_dvd hk
  obtain ⟨d1, d0, d2, _⟩ := pow_dots hd
  have hp := Nat.mul_pos k0 d0
  refine ⟨lowest_den_pos hp, ?_, ?_⟩
  · have : (lowest (2 ^ (d + 1) - 1) (k * 2 ^ d)).den ≤ k * 2 ^ d := Nat.le_of_dvd hp (lowest_den_dvd _ _)
    have : k * 2 ^ d ≤ 64 * 4 := Nat.mul_le_mul k1 d2
    omega
  · have : (lowest (2 ^ (d + 1) - 1) (k * 2 ^ d)).num ≤ 2 ^ (d + 1) - 1 := by rw [lowest_num]; exact Nat.div_le_self _ _
    omega

/-! ### one step of the reading of a bar -/
def stepW (e d : Nat) (acc : List Piece) (w : Word) (l : List Word) : R (List Piece × Nat × List Word) :=
  if w.text = [125] then (if 0 < d ∧ afterOpen acc = false then .ok (.closes :: acc, d - 1, l) else bad w.place)
  else if w.text.head? = some 123 then (match ratioOf (w.text.drop 1) with
    | none => bad w.place
    | some x => if DEEP ≤ d then .error ⟨3, w.place⟩ else .ok (.opens x.1 x.2 :: acc, d + 1, l))
  else if w.text = [91] then (match chordFrom e w.place [] l with
    | .error x => .error x
    | .ok x => .ok (x.1 :: acc, d, x.2))
  else match noteOf w with
    | none => bad w.place
    | some x => .ok (x :: acc, d, l)
def stepR (e d : Nat) (acc : List Piece) : List Word → R (List Piece × Nat × List Word)
  | [] => bad e
  | w :: l => stepW e d acc w l
theorem pieces_end {e f d : Nat} {acc : List Piece} {w : Word} {l : List Word} (hw : w.text = [124]) (hd : d = 0) (ha : acc ≠ []) : piecesFrom e (f + 1) d acc (w :: l) = .ok (acc.reverse, w.place, l) := by
  unfold piecesFrom
  rw [if_pos hw, if_pos ⟨hd, ha⟩]
theorem pieces_step {e f d : Nat} {acc : List Piece} {r : List Word} (h : ∀ w l, r = w :: l → w.text = [124] → d = 0 → acc ≠ [] → False) : piecesFrom e (f + 1) d acc r = match stepR e d acc r with
    | .error x => .error x
    | .ok y => piecesFrom e f y.2.1 y.1 y.2.2 := by
  cases r with
  | nil =>
    have e0 : stepR e d acc [] = bad e := rfl
    rw [e0]
    conv => lhs; unfold piecesFrom
    rfl
  | cons w l =>
    have e0 : stepR e d acc (w :: l) = stepW e d acc w l := rfl
    rw [e0]
    conv => lhs; unfold piecesFrom
    unfold stepW
    by_cases h1 : w.text = [124]
    · rw [if_pos h1, if_neg (fun z => h w l rfl h1 z.1 z.2)]
      have n : noteOf w = none := by
        have : noteOf ⟨w.place, [124]⟩ = none := rfl
        rw [← h1] at this
        exact this
      rw [h1, if_neg (by decide), if_neg (by decide), if_neg (by decide), n]
      rfl
    · rw [if_neg h1]
      split
      · split <;> rfl
      · split
        · cases ratioOf (w.text.drop 1) with
          | none => rfl
          | some x =>
            simp only
            split <;> rfl
        · split
          · cases chordFrom e w.place [] l with
            | error x => rfl
            | ok x => rfl
          · cases noteOf w with
            | none => rfl
            | some x => rfl
theorem chord_suffix (e place : Nat) : ∀ (ws : List Word) (ps : List Pitch) (x : Piece × List Word), chordFrom e place ps ws = .ok x → x.2.length < ws.length
  | [], ps, x, h => by unfold chordFrom at h; cases h
  | w :: l, ps, x, h => by
    rw [chord_cons] at h
    cases e1 : chordEnd w.text with
    | some y =>
      rw [e1] at h
      simp only at h
      split at h
      · cases h
      · cases h; simp
    | none =>
      rw [e1] at h
      simp only at h
      cases e2 : pit w.text with
      | none => rw [e2] at h; cases h
      | some p =>
        rw [e2] at h
        simp only at h
        split at h
        · cases h
        · have := chord_suffix e place l _ x h
          rw [List.length_cons]; omega
theorem stepR_suffix {e d : Nat} {acc : List Piece} {r : List Word} {y : List Piece × Nat × List Word} (h : stepR e d acc r = .ok y) : y.2.2.length < r.length := by
  cases r with
  | nil => cases h
  | cons w l =>
    have h' : stepW e d acc w l = .ok y := h
    unfold stepW at h'
    split at h'
    · split at h'
      · cases h'; exact Nat.lt_succ_self _
      · cases h'
    · split at h'
      · split at h'
        · cases h'
        · split at h'
          · cases h'
          · cases h'; exact Nat.lt_succ_self _
      · split at h'
        · split at h'
          · cases h'
          · rename_i x e1
            cases h'
            have := chord_suffix e w.place l _ x e1
            show x.2.length < (w :: l).length
            rw [List.length_cons]
            omega
        · split at h'
          · cases h'
          · cases h'; exact Nat.lt_succ_self _

/-! ### the notes of a bar -/
def runSt : List (Nat × Nat) → List Piece → List (Nat × Nat)
  | st, [] => st
  | st, .opens n m :: l => runSt ((n, m) :: st) l
  | st, .closes :: l => runSt (st.drop 1) l
  | st, .note _ _ _ _ _ :: l => runSt st l
theorem runSt_snoc : ∀ (l : List Piece) (st : List (Nat × Nat)) (p : Piece), runSt st (l ++ [p]) = runSt (runSt st l) [p]
  | [], st, p => rfl
  | .opens n m :: l, st, p => runSt_snoc l _ p
  | .closes :: l, st, p => runSt_snoc l _ p
  | .note _ _ _ _ _ :: l, st, p => runSt_snoc l _ p
theorem timed_snoc : ∀ (l : List Piece) (st : List (Nat × Nat)) (p : Piece), timed st (l ++ [p]) = timed st l ++ timed (runSt st l) [p]
  | [], st, p => rfl
  | .opens n m :: l, st, p => timed_snoc l _ p
  | .closes :: l, st, p => timed_snoc l _ p
  | .note a b c d f :: l, st, p => by
    show _ :: timed st (l ++ [p]) = _
    rw [timed_snoc l st p]
    rfl
theorem stOf_st (short : Bool) : ∀ acc : List Piece, (stOf short acc).st = runSt [] acc.reverse
  | [] => rfl
  | p :: acc => by
    rw [List.reverse_cons, runSt_snoc, ← stOf_st short acc]
    cases p with
    | note a b c d f => rfl
    | opens n m => rfl
    | closes => show (stOf short acc).st.tail = (stOf short acc).st.drop 1; simp
theorem stOf_evs (short : Bool) : ∀ acc : List Piece, (stOf short acc).evs = timed [] acc.reverse
  | [] => rfl
  | p :: acc => by
    rw [List.reverse_cons, timed_snoc, ← stOf_evs short acc, ← stOf_st short acc]
    cases p with
    | note a b c d f => rfl
    | opens n m => exact (List.append_nil _).symm
    | closes => exact (List.append_nil _).symm
theorem stOf_bw (short : Bool) : ∀ acc : List Piece, (stOf short acc).bw = (if short = true then [SHORT] else []) ++ acc.reverse.flatMap pieceWords
  | [] => by show (if short = true then [SHORT] else []) = _; simp
  | p :: acc => by
    have e : (stOf short (p :: acc)).bw = (stOf short acc).bw ++ pieceWords p := by cases p <;> rfl
    rw [e, stOf_bw short acc, List.reverse_cons, List.flatMap_append, List.append_assoc]
    simp
end Pf

/-! # a chord's pitches, rising -/
namespace Pf
open Sx62
def pcode (p : Pitch) : Nat := p.octave * 100 + p.letter * 10 + p.sign
theorem pcode_inj {p q : Pitch} (hp : PiecOk p) (hq : PiecOk q) (h : pcode p = pcode q) : p = q := by
  obtain ⟨l1, s1, o1⟩ := hp
  obtain ⟨l2, s2, o2⟩ := hq
  unfold pcode at h
  have e1 : p.octave = q.octave := by omega
  have e2 : p.letter = q.letter := by omega
  have e3 : p.sign = q.sign := by omega
  cases p; cases q
  simp at e1 e2 e3
  simp [e1, e2, e3]
theorem lower_code {p q : Pitch} (hp : PiecOk p) (hq : PiecOk q) : lower p q = decide (pcode p < pcode q) := by
  obtain ⟨l1, s1, o1⟩ := hp
  obtain ⟨l2, s2, o2⟩ := hq
  unfold lower pcode
  rw [Bool.eq_iff_iff]
  simp only [Bool.or_eq_true, Bool.and_eq_true, decide_eq_true_eq, beq_iff_eq]
  omega
theorem put_perm (p : Pitch) : ∀ l : List Pitch, (putPitch p l).Perm (p :: l)
  | [] => List.Perm.refl _
  | q :: l => by
    unfold putPitch
    split
    · exact List.Perm.refl _
    · exact ((put_perm p l).cons q).trans (List.Perm.swap p q l)
theorem put_sorted {p : Pitch} (hp : PiecOk p) : ∀ {l : List Pitch}, (∀ q ∈ l, PiecOk q) → l.Pairwise (fun x y => pcode x ≤ pcode y) → (putPitch p l).Pairwise (fun x y => pcode x ≤ pcode y)
  | [], _, _ => List.pairwise_singleton _ _
  | q :: l, h, hs => by
    have hq := h q List.mem_cons_self
    obtain ⟨h1, h2⟩ := List.pairwise_cons.mp hs
    unfold putPitch
    rw [lower_code hp hq]
    split
    · rename_i hlt
      have hlt : pcode p < pcode q := of_decide_eq_true hlt
      refine List.pairwise_cons.mpr ⟨fun x hx => ?_, hs⟩
      rcases List.mem_cons.mp hx with hx | hx
      · rw [hx]; omega
      · have := h1 x hx; omega
    · rename_i hlt
      have hlt : ¬ pcode p < pcode q := fun z => hlt (decide_eq_true z)
      refine List.pairwise_cons.mpr ⟨fun x hx => ?_, put_sorted hp (fun x hx => h x (List.mem_cons_of_mem _ hx)) h2⟩
      rcases List.mem_cons.mp ((put_perm p l).mem_iff.mp hx) with hx | hx
      · rw [hx]; omega
      · exact h1 x hx
/-- pitches, put one by one -/
def sortP (qs : List Pitch) : List Pitch := qs.foldl (fun l q => putPitch q l) []
theorem sortP_snoc (qs : List Pitch) (q : Pitch) : sortP (qs ++ [q]) = putPitch q (sortP qs) := by
  unfold sortP
  rw [List.foldl_append]
  rfl
theorem snocInd {A : Type} {C : List A → Prop} (h0 : C []) (h1 : ∀ l a, C l → C (l ++ [a])) : ∀ l, C l := fun l => by
  have : ∀ r : List A, C r.reverse := fun r => by
    induction r with
    | nil => exact h0
    | cons a r ih => rw [List.reverse_cons]; exact h1 _ _ ih
  have := this l.reverse
  rw [List.reverse_reverse] at this
  exact this
theorem sortP_perm (qs : List Pitch) : (sortP qs).Perm qs := by
  refine snocInd (C := fun qs => (sortP qs).Perm qs) (List.Perm.refl _) (fun l a ih => ?_) qs
  rw [sortP_snoc]
  exact ((put_perm a _).trans (ih.cons a)).trans (List.perm_append_singleton a l).symm
theorem sortP_sorted {qs : List Pitch} (h : ∀ q ∈ qs, PiecOk q) : (sortP qs).Pairwise (fun x y => pcode x ≤ pcode y) := by
  refine snocInd (C := fun qs => (∀ q ∈ qs, PiecOk q) → (sortP qs).Pairwise (fun x y => pcode x ≤ pcode y)) (fun _ => List.Pairwise.nil) (fun l a ih h => ?_) qs h
  rw [sortP_snoc]
  exact put_sorted (h a (by simp)) (fun q hq => h q (List.mem_append_left _ ((sortP_perm l).mem_iff.mp hq))) (ih fun q hq => h q (List.mem_append_left _ hq))
theorem sortP_unique {qs xs : List Pitch} (h : ∀ q ∈ qs, PiecOk q) (hp : xs.Perm qs) (hs : xs.Pairwise (fun x y => pcode x ≤ pcode y)) : xs = sortP qs := by
  refine List.Perm.eq_of_pairwise (le := fun x y => pcode x ≤ pcode y) (fun a b ha hb h1 h2 => ?_) hs (sortP_sorted h) (hp.trans (sortP_perm qs).symm)
  exact pcode_inj (h a (hp.mem_iff.mp ha)) (h b ((sortP_perm qs).mem_iff.mp hb)) (Nat.le_antisymm h1 h2)
theorem sortP_len (qs : List Pitch) : (sortP qs).length = qs.length := (sortP_perm qs).length_eq
theorem sortP_contains (qs : List Pitch) (p : Pitch) : (sortP qs).contains p = qs.contains p := by
  rw [Bool.eq_iff_iff]
  simp only [List.contains_eq_mem, decide_eq_true_eq]
  exact (sortP_perm qs).mem_iff
end Pf

/-! # bars: plain -/
namespace Pf
open Sx62
theorem stepR_len {e d : Nat} {acc : List Piece} {r : List Word} {y : List Piece × Nat × List Word} (h : stepR e d acc r = .ok y) : y.1.length = acc.length + 1 := by
  cases r with
  | nil => cases h
  | cons w l =>
    have h' : stepW e d acc w l = .ok y := h
    unfold stepW at h'
    split at h'
    · split at h'
      · cases h'; rfl
      · cases h'
    · split at h'
      · split at h'
        · cases h'
        · split at h'
          · cases h'
          · cases h'; rfl
      · split at h'
        · split at h'
          · cases h'
          · cases h'; rfl
        · split at h'
          · cases h'
          · cases h'; rfl
theorem evs_len (short : Bool) : ∀ acc : List Piece, (stOf short acc).evs.length ≤ acc.length
  | [] => Nat.zero_le _
  | p :: acc => by
    have ih := evs_len short acc
    cases p with
    | note a b c d f =>
      show ((stOf short acc).evs ++ [_]).length ≤ _
      rw [List.length_append, List.length_cons, List.length_cons, List.length_nil]
      omega
    | opens n m => show (stOf short acc).evs.length ≤ acc.length + 1; omega
    | closes => show (stOf short acc).evs.length ≤ acc.length + 1; omega
structure BarOk (b : Bar) : Prop where
  acc : AccOk b.short b.pieces.reverse
  ne : b.pieces ≠ []
def barWords (b : Bar) : List Bytes := (if b.short = true then [SHORT] else []) ++ b.pieces.flatMap pieceWords ++ [[124]]
theorem bar_notes (b : Bar) : b.notes = (stOf b.short b.pieces.reverse).evs := by
  rw [stOf_evs, List.reverse_reverse]
  rfl
theorem notes_len (b : Bar) : b.notes.length ≤ b.pieces.length := by
  rw [bar_notes]
  have := evs_len b.short b.pieces.reverse
  rw [List.length_reverse] at this
  exact this
theorem bar_words (b : Bar) : barWords b = (stOf b.short b.pieces.reverse).bw ++ [[124]] := by
  rw [stOf_bw, List.reverse_reverse]
  rfl
theorem BarOk.evs {b : Bar} (h : BarOk b) : ∀ t ∈ b.notes, EvOk t := by
  rw [bar_notes]
  exact (acc_facts b.short h.acc).evs
end Pf

/-! # loose ties, bars against bars: plain -/
namespace Pf
open Sx62
def behindOf (l : List Timed) (j : Nat) : List Pitch := match l[j + 1]? with
  | some y => y.ps
  | none => []
def badTie (l : List Timed) (j : Nat) : Bool := match l[j]? with
  | some x => x.tie && !(x.ps.all fun p => (behindOf l j).contains p)
  | none => false
theorem badTie_succ (x : Timed) (l : List Timed) (j : Nat) : badTie (x :: l) (j + 1) = badTie l j := rfl
theorem loose_head {x : Timed} {l : List Timed} (h : x.tie = true → x.ps ≠ []) : loose (x :: l) = if badTie (x :: l) 0 = true then some x else loose l := by
  cases l with
  | nil =>
    show (if x.tie = true then some x else none) = if (x.tie && !(x.ps.all fun p => ([] : List Pitch).contains p)) = true then some x else none
    cases ht : x.tie with
    | false => rfl
    | true =>
      have : (x.ps.all fun p => ([] : List Pitch).contains p) = false := by
        cases e : x.ps with
        | nil => exact absurd e (h ht)
        | cons p r => rfl
      rw [this]
      rfl
  | cons y l =>
    show (if x.tie = true ∧ (x.ps.all fun p => y.ps.contains p) = false then some x else loose (y :: l)) = if (x.tie && !(x.ps.all fun p => y.ps.contains p)) = true then some x else loose (y :: l)
    cases x.tie <;> cases (x.ps.all fun p => y.ps.contains p) <;> rfl
theorem loose_some : ∀ {l : List Timed} {i : Nat} {n : Timed}, (∀ x ∈ l, x.tie = true → x.ps ≠ []) → (∀ j, j < i → badTie l j = false) → badTie l i = true → l[i]? = some n → loose l = some n
  | [], _, _, _, _, _, h => by cases h
  | x :: l, 0, n, he, _, hb, h => by
    rw [loose_head (he x List.mem_cons_self), if_pos hb]
    exact h
  | x :: l, i + 1, n, he, hj, hb, h => by
    rw [loose_head (he x List.mem_cons_self), if_neg (by rw [hj 0 (Nat.succ_pos _)]; exact Bool.false_ne_true)]
    exact loose_some (fun y hy => he y (List.mem_cons_of_mem _ hy)) (fun j h => hj (j + 1) (Nat.succ_lt_succ h)) hb h
theorem loose_none : ∀ {l : List Timed}, (∀ x ∈ l, x.tie = true → x.ps ≠ []) → (∀ j, j < l.length → badTie l j = false) → loose l = none
  | [], _, _ => rfl
  | x :: l, he, hj => by
    rw [loose_head (he x List.mem_cons_self), if_neg (by rw [hj 0 (Nat.succ_pos _)]; exact Bool.false_ne_true)]
    exact loose_none (fun y hy => he y (List.mem_cons_of_mem _ hy)) fun j h => hj (j + 1) (Nat.succ_lt_succ h)
theorem loose_ok : ∀ {l : List Timed}, (∀ x ∈ l, x.tie = true → x.ps ≠ []) → loose l = none → ∀ j, badTie l j = false
  | [], _, _, _ => rfl
  | x :: l, he, h, j => by
    rw [loose_head (he x List.mem_cons_self)] at h
    cases hb : badTie (x :: l) 0 with
    | true => rw [hb, if_pos rfl] at h; cases h
    | false =>
      rw [hb, if_neg Bool.false_ne_true] at h
      cases j with
      | zero => exact hb
      | succ j => exact loose_ok (fun y hy => he y (List.mem_cons_of_mem _ hy)) h j
/-- the bar of a number is unlike -/
def unlike (as bs : List Bar) (j : Nat) : Bool := match bs[j]? with
  | some b => (match as[j]? with
    | some a => !(a.long == b.long)
    | none => true)
  | none => false
theorem against_some {e : Nat} : ∀ {as bs : List Bar} {i : Nat} {b : Bar}, (∀ j, j < i → unlike as bs j = false) → unlike as bs i = true → bs[i]? = some b → against e as bs = some b.place
  | _, [], _, _, _, _, h => by cases h
  | [], b' :: bs, 0, b, _, _, h => by
    have : b' = b := by simpa using h
    rw [← this]; rfl
  | [], b' :: bs, i + 1, b, hj, _, _ => by
    have := hj 0 (Nat.succ_pos _)
    cases this
  | a :: as, b' :: bs, 0, b, _, hu, h => by
    have hu : (!(a.long == b'.long)) = true := hu
    have : b' = b := by simpa using h
    unfold against
    rw [if_neg (by intro z; rw [z] at hu; cases hu), this]
  | a :: as, b' :: bs, i + 1, b, hj, hu, h => by
    have h0 : (!(a.long == b'.long)) = false := hj 0 (Nat.succ_pos _)
    unfold against
    rw [if_pos (by simpa using h0)]
    exact against_some (fun j h => hj (j + 1) (Nat.succ_lt_succ h)) hu h
theorem against_end {e : Nat} : ∀ {as bs : List Bar}, (∀ j, j < bs.length → unlike as bs j = false) → against e as bs = if bs.length < as.length then some e else none
  | [], [], _ => rfl
  | _ :: _, [], _ => by
    unfold against
    rw [if_pos (by simp)]
  | [], b :: bs, hj => by
    have := hj 0 (Nat.succ_pos _)
    cases this
  | a :: as, b :: bs, hj => by
    have h0 : (!(a.long == b.long)) = false := hj 0 (Nat.succ_pos _)
    have ih := against_end (e := e) (as := as) (bs := bs) fun j h => hj (j + 1) (Nat.succ_lt_succ h)
    unfold against
    rw [if_pos (by simpa using h0), ih]
    simp only [List.length_cons, Nat.add_lt_add_iff_right]
theorem find_some {A : Type} {p : A → Bool} : ∀ {l : List A} {i : Nat} {x : A}, (∀ j y, j < i → l[j]? = some y → p y = false) → l[i]? = some x → p x = true → l.find? p = some x
  | [], _, _, _, h, _ => by cases h
  | y :: l, 0, x, _, h, hp => by
    have : y = x := by simpa using h
    subst this
    rw [List.find?_cons, hp]
  | y :: l, i + 1, x, hj, h, hp => by
    rw [List.find?_cons, hj 0 y (Nat.succ_pos _) rfl]
    exact find_some (fun j z h hz => hj (j + 1) z (Nat.succ_lt_succ h) hz) h hp
theorem find_none {A : Type} {p : A → Bool} {l : List A} (h : ∀ j y, j < l.length → l[j]? = some y → p y = false) : l.find? p = none := by
  rw [List.find?_eq_none]
  intro x hx
  obtain ⟨j, hj⟩ := List.mem_iff_getElem?.mp hx
  rw [h j x (List.getElem?_eq_some_iff.mp hj).1 hj]
  exact Bool.false_ne_true
theorem findSome_some {A B : Type} {f : A → Option B} : ∀ {l : List A} {i : Nat} {x : A} {y : B}, (∀ j y, j < i → l[j]? = some y → f y = none) → l[i]? = some x → f x = some y → l.findSome? f = some y
  | [], _, _, _, _, h, _ => by cases h
  | z :: l, 0, x, y, _, h, hp => by
    have : z = x := by simpa using h
    subst this
    rw [List.findSome?_cons, hp]
  | z :: l, i + 1, x, y, hj, h, hp => by
    rw [List.findSome?_cons, hj 0 z (Nat.succ_pos _) rfl]
    exact findSome_some (fun j z h hz => hj (j + 1) z (Nat.succ_lt_succ h) hz) h hp
theorem findSome_none {A B : Type} {f : A → Option B} {l : List A} (h : ∀ j y, j < l.length → l[j]? = some y → f y = none) : l.findSome? f = none := by
  rw [List.findSome?_eq_none_iff]
  intro x hx
  obtain ⟨j, hj⟩ := List.mem_iff_getElem?.mp hx
  exact h j x (List.getElem?_eq_some_iff.mp hj).1 hj
end Pf

/-! # a score's one text: plain -/
namespace Pf
open Sx62
theorem dec_len (n : Nat) : (dec n).length ≤ 4 := by
  have : ∀ k n, (digits k n).length ≤ k := fun k => by
    induction k with
    | zero => exact fun n => Nat.le_refl _
    | succ k ih =>
      intro n
      unfold digits
      split
      · show 1 ≤ k + 1; omega
      · rw [List.length_append, List.length_cons, List.length_nil]
        have := ih (n / 10)
        omega
  exact this 4 n
theorem pitchText_len (p : Pitch) (hs : p.sign < 5) : (pitchText p).length ≤ 7 := by
  unfold pitchText
  have h1 := dec_len p.octave
  have h2 : (signText p.sign).length ≤ 2 := by
    have : ∀ n, n < 5 → (signText n).length ≤ 2 := by decide
    exact this _ hs
  rw [List.length_append, List.length_cons]
  omega
theorem longText_len (k d : Nat) (t : Bool) (hd : d ≤ 2) : (longText k d t).length ≤ 8 := by
  unfold longText
  have := dec_len k
  rw [List.length_append, List.length_append, List.length_cons, List.length_replicate]
  cases t
  · show _ + 0 ≤ 8; omega
  · show _ + 1 ≤ 8; omega
theorem words_small {p : Piece} (h : PcOk p) : (pieceWords p).length ≤ 8 ∧ ∀ w ∈ pieceWords p, w.length ≤ 15 := by
  cases p with
  | note pl ps k d t =>
    obtain ⟨_, h2, h3, _, h5⟩ := h
    have hl := longText_len k d t h2
    match ps, h3, h5 with
    | [], _, _ =>
      refine ⟨by show 1 ≤ 8; omega, fun w hw => ?_⟩
      have : w = 114 :: longText k d t := by simpa [pieceWords] using hw
      rw [this, List.length_cons]
      omega
    | [p], h3, _ =>
      have hp := pitchText_len p (h3 p (by simp)).s
      refine ⟨by show 1 ≤ 8; omega, fun w hw => ?_⟩
      have : w = pitchText p ++ longText k d t := by simpa [pieceWords] using hw
      rw [this, List.length_append]
      omega
    | p :: q :: r, h3, h5 =>
      have e : pieceWords (.note pl (p :: q :: r) k d t) = [[91]] ++ (p :: q :: r).map pitchText ++ [93 :: longText k d t] := rfl
      rw [e]
      refine ⟨by rw [List.length_append, List.length_append, List.length_map]; simp only [List.length_cons, List.length_nil] at h5 ⊢; omega, fun w hw => ?_⟩
      rcases List.mem_append.mp hw with hw | hw
      · rcases List.mem_append.mp hw with hw | hw
        · rw [List.mem_singleton] at hw; rw [hw]; decide
        · obtain ⟨x, hx, rfl⟩ := List.mem_map.mp hw
          have := pitchText_len x (h3 x hx).s
          omega
      · rw [List.mem_singleton] at hw
        rw [hw, List.length_cons]
        omega
  | opens n m =>
    refine ⟨by show 1 ≤ 8; omega, fun w hw => ?_⟩
    have : w = 123 :: dec n ++ 58 :: dec m := by simpa [pieceWords] using hw
    have h1 := dec_len n
    have h2 := dec_len m
    rw [this, List.length_append, List.length_cons, List.length_cons]
    omega
  | closes =>
    refine ⟨by show 1 ≤ 8; omega, fun w hw => ?_⟩
    have : w = [125] := by simpa [pieceWords] using hw
    rw [this]; decide
/-! ### words with blanks -/
theorem spaced_cons (a : Bytes) {l : List Bytes} (h : l ≠ []) : spaced (a :: l) = a ++ 32 :: spaced l := by
  cases l with
  | nil => exact absurd rfl h
  | cons b l => rfl
theorem spaced_append : ∀ {a b : List Bytes}, a ≠ [] → b ≠ [] → spaced (a ++ b) = spaced a ++ 32 :: spaced b
  | [], _, h, _ => absurd rfl h
  | [x], b, _, hb => spaced_cons x hb
  | x :: y :: a, b, _, hb => by
    rw [List.cons_append, spaced_cons x (by simp), spaced_append (a := y :: a) (by simp) hb, spaced_cons x (by simp)]
    simp
theorem pieceWords_ne (p : Piece) : pieceWords p ≠ [] := by
  cases p with
  | note pl ps k d t =>
    match ps with
    | [] => exact List.cons_ne_nil _ _
    | [p] => exact List.cons_ne_nil _ _
    | p :: q :: r => exact List.cons_ne_nil _ _
  | opens n m => exact List.cons_ne_nil _ _
  | closes => exact List.cons_ne_nil _ _
theorem spaced_pitches (ps : List Pitch) (w : Bytes) : spaced ([[91]] ++ ps.map pitchText ++ [w]) = [91] ++ ps.flatMap (fun p => 32 :: pitchText p) ++ 32 :: w := by
  have : ∀ ps : List Pitch, ∀ a : Bytes, spaced (a :: (ps.map pitchText ++ [w])) = a ++ ps.flatMap (fun p => 32 :: pitchText p) ++ 32 :: w := fun ps => by
    induction ps with
    | nil => intro a; simp [spaced]
    | cons p ps ih =>
      intro a
      rw [List.map_cons, List.cons_append, spaced_cons a (by simp), ih, List.flatMap_cons]
      simp
  exact this ps [91]
theorem pieceText_words (p : Piece) : pieceText p = spaced (pieceWords p) := by
  cases p with
  | note pl ps k d t =>
    match ps with
    | [] => rfl
    | [p] => rfl
    | p :: q :: r =>
      have e : pieceWords (.note pl (p :: q :: r) k d t) = [[91]] ++ (p :: q :: r).map pitchText ++ [93 :: longText k d t] := rfl
      rw [e, spaced_pitches]
      show [91] ++ (p :: q :: r).flatMap (fun p => 32 :: pitchText p) ++ [32, 93] ++ longText k d t = _
      simp
  | opens n m => rfl
  | closes => rfl
theorem spaced_flat : ∀ (ps : List Piece) (b : List Bytes), b ≠ [] → spaced (ps.flatMap pieceWords ++ b) = spaced (ps.map pieceText ++ b)
  | [], _, _ => rfl
  | p :: ps, b, hb => by
    rw [List.flatMap_cons, List.append_assoc, spaced_append (pieceWords_ne p) (by simp [hb]), spaced_flat ps b hb, ← pieceText_words, List.map_cons, List.cons_append, spaced_cons _ (by simp [hb])]
theorem barText_words (b : Bar) : barText b = spaced (barWords b) ++ [10] := by
  unfold barText barWords
  cases b.short with
  | false =>
    show spaced ([] ++ b.pieces.map pieceText ++ [[124]]) ++ [10] = spaced ([] ++ b.pieces.flatMap pieceWords ++ [[124]]) ++ [10]
    rw [List.nil_append, List.nil_append, spaced_flat _ _ (by simp)]
  | true =>
    show spaced (SHORT :: (b.pieces.map pieceText ++ [[124]])) ++ [10] = spaced (SHORT :: (b.pieces.flatMap pieceWords ++ [[124]])) ++ [10]
    rw [spaced_cons _ (by simp), spaced_cons _ (by simp), spaced_flat _ _ (by simp)]
theorem spaced_len : ∀ ws : List Bytes, (spaced ws).length ≤ (ws.map fun w => w.length + 1).sum
  | [] => Nat.zero_le _
  | [w] => by
    show w.length ≤ w.length + 1 + 0
    omega
  | w :: x :: l => by
    have := spaced_len (x :: l)
    rw [spaced_cons w (by simp), List.length_append, List.length_cons, List.map_cons, List.sum_cons]
    omega
/-! ### the rows -/
def keyT (z : Int) : Bytes := if z = 0 then [] else (if z < 0 then [45] else []) ++ dec z.natAbs
def formRows (s : Score) : List Bytes := [TIME ++ 32 :: (dec s.beats ++ 47 :: dec s.unit)] ++ (if s.key = 0 then [] else [KEY ++ 32 :: keyT s.key]) ++ s.voices.flatMap fun v => [VOICE ++ 32 :: v.name] ++ (v.bars.map fun b => spaced (barWords b)) ++ [END]
def lined (rs : List Bytes) : Bytes := rs.flatMap fun r => r ++ [10]
theorem lined_append (a b : List Bytes) : lined (a ++ b) = lined a ++ lined b := List.flatMap_append ..
theorem form_eq (s : Score) : s.form = lined (formRows s) := by
  unfold formRows
  rw [lined_append, lined_append]
  have hv : lined (s.voices.flatMap fun v => [VOICE ++ 32 :: v.name] ++ (v.bars.map fun b => spaced (barWords b)) ++ [END]) = s.voices.flatMap voiceText := by
    unfold lined
    rw [List.flatMap_assoc]
    congr 1
    funext v
    rw [List.flatMap_append, List.flatMap_append]
    unfold voiceText
    have hb : ∀ bs : List Bar, (bs.map fun b => spaced (barWords b)).flatMap (fun r => r ++ [10]) = bs.flatMap barText := fun bs => by
      induction bs with
      | nil => rfl
      | cons b bs ih => rw [List.map_cons, List.flatMap_cons, List.flatMap_cons, ih, barText_words]
    rw [hb]
    simp
  rw [hv]
  unfold Score.form
  by_cases hk : s.key = 0
  · rw [if_pos hk, if_pos hk]
    simp [lined]
  · rw [if_neg hk, if_neg hk]
    unfold keyT
    rw [if_neg hk]
    simp [lined]
end Pf

/-! # beginnings, sounds: plain -/
namespace Pf
open Sx62
theorem sum_snoc (l : List Frac) (f : Frac) : sum (l ++ [f]) = (sum l).plus f := by
  rw [sum_eq, sum_eq, List.foldl_append]
  rfl
theorem takeS {α : Type} {l : List α} {i : Nat} {x : α} (h : l[i]? = some x) : l.take (i + 1) = l.take i ++ [x] := by
  rw [List.take_succ, h]
  rfl
theorem dropS {α : Type} {l : List α} {i : Nat} {x : α} (h : l[i]? = some x) : l.drop i = x :: l.drop (i + 1) := by
  obtain ⟨hl, hg⟩ := List.getElem?_eq_some_iff.mp h
  rw [List.drop_eq_getElem_cons hl, hg]
theorem sum_take {l : List Frac} {i : Nat} {f : Frac} (h : l[i]? = some f) : sum (l.take (i + 1)) = (sum (l.take i)).plus f := by
  rw [takeS h, sum_snoc]
theorem starts_get : ∀ (bs : List Bar) (t : Frac) (i : Nat), (startsFrom t bs)[i]? = (bs[i]?).map fun b => (((bs.map Bar.long).take i).foldl Frac.plus t, b.long)
  | [], _, _ => rfl
  | b :: bs, t, 0 => rfl
  | b :: bs, t, i + 1 => starts_get bs (t.plus b.long) i
theorem starts_len : ∀ (bs : List Bar) (t : Frac), (startsFrom t bs).length = bs.length
  | [], _ => rfl
  | b :: bs, t => by
    show (startsFrom _ bs).length + 1 = _
    rw [starts_len bs]
    rfl
/-- the pitches that are tied on to a note -/
def tiedAt (ts : List Timed) : Nat → List Pitch
  | 0 => []
  | k + 1 => match ts[k]? with
    | some n => if n.tie = true then n.ps else []
    | none => []
/-- how long what begins here sounds -/
def tieSum : List Timed → Frac
  | [] => ⟨0, 1⟩
  | n :: l => if n.tie = true then n.long.plus (tieSum l) else n.long
theorem tie_next {n : Timed} {l : List Timed} (hne : n.tie = true → n.ps ≠ []) (hb : badTie (n :: l) 0 = false) (ht : n.tie = true) : ∃ y r, l = y :: r ∧ ∀ p ∈ n.ps, p ∈ y.ps := by
  have e : (n.tie && !(n.ps.all fun p => (behindOf (n :: l) 0).contains p)) = false := hb
  rw [ht, Bool.true_and] at e
  have hall : (n.ps.all fun p => (behindOf (n :: l) 0).contains p) = true := by
    cases h : (n.ps.all fun p => (behindOf (n :: l) 0).contains p) with
    | true => rfl
    | false => rw [h] at e; cases e
  have hmem : ∀ p ∈ n.ps, p ∈ behindOf (n :: l) 0 := fun p hp => by
    have := List.all_eq_true.mp hall p hp
    simpa using this
  cases l with
  | nil =>
    obtain ⟨p, hp⟩ := List.exists_mem_of_ne_nil _ (hne ht)
    have := hmem p hp
    cases this
  | cons y r => exact ⟨y, r, rfl, fun p hp => hmem p hp⟩
theorem goes_tie : ∀ {l : List Timed} {n : Timed} {p : Pitch}, (∀ x ∈ n :: l, x.tie = true → x.ps ≠ []) → (∀ j, badTie (n :: l) j = false) → p ∈ n.ps → goesOn p (n :: l) = tieSum (n :: l)
  | l, n, p, hne, hb, hp => by
    unfold goesOn tieSum
    rw [if_pos (by simpa using hp)]
    cases ht : n.tie with
    | false => rfl
    | true =>
      obtain ⟨y, r, rfl, hy⟩ := tie_next (hne n List.mem_cons_self) (hb 0) ht
      rw [if_pos rfl, if_pos rfl, goes_tie (fun x hx => hne x (List.mem_cons_of_mem _ hx)) (fun j => hb (j + 1)) (hy p hp)]
theorem sound_tie {l : List Timed} {n : Timed} {p : Pitch} (hne : ∀ x ∈ n :: l, x.tie = true → x.ps ≠ []) (hb : ∀ j, badTie (n :: l) j = false) (hp : p ∈ n.ps) : (if n.tie = true then n.long.plus (goesOn p l) else n.long) = tieSum (n :: l) := by
  have := goes_tie hne hb hp
  unfold goesOn at this
  rw [if_pos (by simpa using hp)] at this
  exact this
theorem tieSum_pos : ∀ {l : List Timed}, (∀ x ∈ l, 0 < x.long.den) → 0 < (tieSum l).den
  | [], _ => Nat.one_pos
  | n :: l, h => by
    unfold tieSum
    split
    · exact lowest_den_pos (Nat.mul_pos (h n List.mem_cons_self) (tieSum_pos fun x hx => h x (List.mem_cons_of_mem _ hx)))
    · exact h n List.mem_cons_self
theorem badTie_drop (ts : List Timed) (k j : Nat) : badTie (ts.drop k) j = badTie ts (k + j) := by
  unfold badTie behindOf
  rw [List.getElem?_drop, List.getElem?_drop]
  rfl
theorem fold_fg : ∀ (bs : List Bar) (t : Frac) (n : Nat), FG n t → (∀ b ∈ bs, FG (200 * b.notes.length) b.long) → FG (n + 200 * (bs.map fun b => b.notes.length).sum) ((bs.map Bar.long).foldl Frac.plus t)
  | [], t, n, h, _ => h
  | b :: bs, t, n, h, hb => by
    have := fold_fg bs (t.plus b.long) (n + 200 * b.notes.length) (fg_plus h (hb b List.mem_cons_self)) fun c hc => hb c (List.mem_cons_of_mem _ hc)
    rw [List.map_cons, List.sum_cons, List.map_cons, List.foldl_cons]
    have e : n + 200 * (b.notes.length + (bs.map fun b => b.notes.length).sum) = n + 200 * b.notes.length + 200 * (bs.map fun b => b.notes.length).sum := by omega
    rw [e]
    exact this
end Pf

set_option Elab.async false
set_option linter.all false
set_option maxRecDepth 100000
set_option maxHeartbeats 4000000
/-! # Words of this proof: the text, what the top has written, short rules -/
namespace Sc
open PySem PySem.Spec PyProof.Rows L2

/-! ### the text -/
def top (i : Nat) : Stmt := PySem.Challenge.pw_scoretexts_s01_answers.main.body.getD i (.Pass ⟨0, 0, 0, 0⟩)
abbrev s_common : Stmt := top 3
abbrev s_lowest : Stmt := top 4
abbrev s_plus : Stmt := top 5
abbrev s_less : Stmt := top 6
abbrev s_times : Stmt := top 7
abbrev s_is_below : Stmt := top 8
abbrev s_total : Stmt := top 9
abbrev s_bad_byte : Stmt := top 28
abbrev s_words_of : Stmt := top 29
abbrev s_number_in : Stmt := top 30
abbrev s_is_from : Stmt := top 31
abbrev s_metre_in : Stmt := top 32
abbrev s_is_key : Stmt := top 33
abbrev s_is_name : Stmt := top 34
abbrev s_pitch_in : Stmt := top 35
abbrev s_pitch_word : Stmt := top 36
abbrev s_length_in : Stmt := top 37
abbrev s_note_in : Stmt := top 38
abbrev s_rest_in : Stmt := top 39
abbrev s_chord_end_in : Stmt := top 40
abbrev s_tuplet_in : Stmt := top 41
abbrev s_Faulty_init : Stmt := inClass (top 54) 0
abbrev s_Event_init : Stmt := inClass (top 55) 0
abbrev s_Bar_init : Stmt := inClass (top 56) 0
abbrev s_Bar_length : Stmt := inClass (top 56) 1
abbrev s_Voice_init : Stmt := inClass (top 57) 0
abbrev s_Voice_all_events : Stmt := inClass (top 57) 1
abbrev s_Score_init : Stmt := inClass (top 58) 0
abbrev s_Reader_init : Stmt := inClass (top 59) 0
abbrev s_Reader_look : Stmt := inClass (top 59) 1
abbrev s_Reader_here : Stmt := inClass (top 59) 2
abbrev s_Reader_want : Stmt := inClass (top 59) 3
abbrev s_Reader_take : Stmt := inClass (top 59) 4
abbrev s_Reader_take_word : Stmt := inClass (top 59) 5
abbrev s_Reader_score : Stmt := inClass (top 59) 6
abbrev s_Reader_voice : Stmt := inClass (top 59) 7
abbrev s_Reader_bar : Stmt := inClass (top 59) 8
abbrev s_Reader_piece_word : Stmt := inClass (top 59) 9
abbrev s_Reader_one_more : Stmt := inClass (top 59) 10
abbrev s_Reader_put : Stmt := inClass (top 59) 11
abbrev s_Reader_single : Stmt := inClass (top 59) 12
abbrev s_Reader_chord : Stmt := inClass (top 59) 13
abbrev s_want_bars : Stmt := top 60
abbrev s_want_ties : Stmt := top 61
abbrev s_want_alike : Stmt := top 62
abbrev s_read_score : Stmt := top 63
abbrev s_form_of : Stmt := top 65
abbrev s_counts_of : Stmt := top 66
abbrev s_begins_of : Stmt := top 67
abbrev s_bars_of : Stmt := top 68
abbrev s_is_going_on : Stmt := top 69
abbrev s_sound_length : Stmt := top 70
abbrev s_sounds_of : Stmt := top 71
abbrev s_place_of : Stmt := top 72
abbrev s_Refused_init : Stmt := inClass (top 84) 0
abbrev s_want : Stmt := top 85
abbrev s_told : Stmt := top 86
abbrev s_Holder_init : Stmt := inClass (top 87) 0
abbrev s_Holder_score : Stmt := inClass (top 87) 1
abbrev s_Holder_read : Stmt := inClass (top 87) 2
abbrev s_Holder_form : Stmt := inClass (top 87) 3
abbrev s_Holder_sounds : Stmt := inClass (top 87) 4
abbrev s_Holder_bars_told : Stmt := inClass (top 87) 5
abbrev s_Holder_same : Stmt := inClass (top 87) 6
abbrev s_Holder_place_told : Stmt := inClass (top 87) 7
abbrev s_Holder_called : Stmt := inClass (top 87) 8
abbrev s_Holder_answer : Stmt := inClass (top 87) 9
abbrev s_answers : Stmt := top 88

/-! ### a written tuple -/
def KT (K : PySem.W.Frag) (a : Addr) (xs : List V) : Prop := ∃ (o : Obj) (its : Array Value) (n : Nat), K.lookup a = some o ∧ o.cls = .type "tuple" ∧ o.data = .seq its n ∧ its.size ≤ sizeLine ∧ Vals xs its.toList ∧ o.dict = none
theorem KT.sq {K : PySem.W.Frag} {a : Addr} {xs : List V} {H : Hp} (h : KT K a xs) : SqT K H a xs := let ⟨o, its, n, h1, h2, h3, h4, h5, _⟩ := h; .inr ⟨o, its, n, h1, h2, h3, h4, h5⟩
theorem KT.ty {K : PySem.W.Frag} {a : Addr} {xs : List V} {H : Hp} (h : KT K a xs) : tyV K "tuple" (.ref a) H := let ⟨o, its, n, h1, h2, h3, h4, h5, h6⟩ := h; .inr (.inl ⟨rfl, o, h1, h2, h6⟩)
theorem kt_of {K : PySem.W.Frag} {a : Addr} {xs : List V} {its : Array Value} {n : Nat} {sl : Array (Option Value)} (h : K.lookup a = some ⟨.type "tuple", none, .seq its n, sl⟩) (hz : its.size ≤ sizeLine) (v : Vals xs its.toList) : KT K a xs :=
  ⟨_, its, n, h, rfl, rfl, hz, v, rfl⟩
/-- an error of the class at S is what «except S» names -/
theorem exm_self {K : PySem.W.Frag} {S : Addr} (h1 : PySem.W.subIn K (.ref S) (.type "BaseException") = some true) (h2 : PySem.W.isClsIn K S = true) (h3 : PySem.W.typeIn K (.ref S) = some (.type "type")) (h4 : PySem.W.subIn K (.ref S) (.ref S) = some true) :
    PySem.W.exmOne K (.ref S) (.ref S) = some true := by
  have e1 : (PySem.W.subIn K (.ref S) (.type "BaseException") == some true) = true := by rw [h1] <;> rfl
  have e2 : ((PySem.W.clsIn K S).isSome && PySem.W.typeIn K (.ref S) == some (.type "type")) = true := by
    have h2' : (PySem.W.clsIn K S).isSome = true := h2
    rw [h2', h3] <;> rfl
  show (if (PySem.W.subIn K (.ref S) (.type "BaseException") == some true) = true then (if ((PySem.W.clsIn K S).isSome && PySem.W.typeIn K (.ref S) == some (.type "type")) = true then PySem.W.subIn K (.ref S) (.ref S) else none) else none) = some true
  rw [if_pos e1, if_pos e2]
  exact h4
structure Ad where
  (a_common a_lowest a_plus a_less a_times a_is_below a_total a_bad_byte a_words_of a_number_in a_is_from a_metre_in a_is_key a_is_name a_pitch_in a_pitch_word a_length_in a_note_in a_rest_in a_chord_end_in a_tuplet_in a_Faulty_init a_Event_init a_Bar_init a_Bar_length a_Voice_init a_Voice_all_events a_Score_init a_Reader_init a_Reader_look a_Reader_here a_Reader_want a_Reader_take a_Reader_take_word a_Reader_score a_Reader_voice a_Reader_bar a_Reader_piece_word a_Reader_one_more a_Reader_put a_Reader_single a_Reader_chord a_want_bars a_want_ties a_want_alike a_read_score a_form_of a_counts_of a_begins_of a_bars_of a_is_going_on a_sound_length a_sounds_of a_place_of a_Refused_init a_want a_told a_Holder_init a_Holder_score a_Holder_read a_Holder_form a_Holder_sounds a_Holder_bars_told a_Holder_same a_Holder_place_told a_Holder_called a_Holder_answer a_answers : Addr)
  (d_common d_lowest d_plus d_less d_times d_is_below d_total d_bad_byte d_words_of d_number_in d_is_from d_metre_in d_is_key d_is_name d_pitch_in d_pitch_word d_length_in d_note_in d_rest_in d_chord_end_in d_tuplet_in d_Faulty_init d_Event_init d_Bar_init d_Bar_length d_Voice_init d_Voice_all_events d_Score_init d_Reader_init d_Reader_look d_Reader_here d_Reader_want d_Reader_take d_Reader_take_word d_Reader_score d_Reader_voice d_Reader_bar d_Reader_piece_word d_Reader_one_more d_Reader_put d_Reader_single d_Reader_chord d_want_bars d_want_ties d_want_alike d_read_score d_form_of d_counts_of d_begins_of d_bars_of d_is_going_on d_sound_length d_sounds_of d_place_of d_Refused_init d_want d_told d_Holder_init d_Holder_score d_Holder_read d_Holder_form d_Holder_sounds d_Holder_bars_told d_Holder_same d_Holder_place_told d_Holder_called d_Holder_answer d_answers : FuncData)
  (C_Faulty C_Event C_Bar C_Voice C_Score C_Reader C_Refused C_Holder : Addr)
  (t_NOUGHT t_ONE t_ACCIDENTALS t_METRE_PARTS t_KINDS t_DOTTED t_DOTTED0 t_DOTTED1 t_DOTTED2 t_NUMBERS : Addr)
structure Txt (K : PySem.W.Frag) (mg : Str → Option Value) (A : Ad) : Prop where
  F_common : Fun K "common" "common" s_common A.a_common A.d_common
  b_common : Binds K A.d_common ["one", "other"] []
  g_common : mg "common" = some (.ref A.a_common)
  F_lowest : Fun K "lowest" "lowest" s_lowest A.a_lowest A.d_lowest
  b_lowest : Binds K A.d_lowest ["upper", "lower"] []
  g_lowest : mg "lowest" = some (.ref A.a_lowest)
  F_plus : Fun K "plus" "plus" s_plus A.a_plus A.d_plus
  b_plus : Binds K A.d_plus ["one", "other"] []
  g_plus : mg "plus" = some (.ref A.a_plus)
  F_less : Fun K "less" "less" s_less A.a_less A.d_less
  b_less : Binds K A.d_less ["one", "other"] []
  g_less : mg "less" = some (.ref A.a_less)
  F_times : Fun K "times" "times" s_times A.a_times A.d_times
  b_times : Binds K A.d_times ["one", "other"] []
  g_times : mg "times" = some (.ref A.a_times)
  F_is_below : Fun K "is_below" "is_below" s_is_below A.a_is_below A.d_is_below
  b_is_below : Binds K A.d_is_below ["one", "other"] []
  g_is_below : mg "is_below" = some (.ref A.a_is_below)
  F_total : Fun K "total" "total" s_total A.a_total A.d_total
  b_total : Binds K A.d_total ["some"] []
  g_total : mg "total" = some (.ref A.a_total)
  F_bad_byte : Fun K "bad_byte" "bad_byte" s_bad_byte A.a_bad_byte A.d_bad_byte
  b_bad_byte : Binds K A.d_bad_byte ["text"] []
  g_bad_byte : mg "bad_byte" = some (.ref A.a_bad_byte)
  F_words_of : Fun K "words_of" "words_of" s_words_of A.a_words_of A.d_words_of
  b_words_of : Binds K A.d_words_of ["text"] []
  g_words_of : mg "words_of" = some (.ref A.a_words_of)
  F_number_in : Fun K "number_in" "number_in" s_number_in A.a_number_in A.d_number_in
  b_number_in : Binds K A.d_number_in ["word"] []
  g_number_in : mg "number_in" = some (.ref A.a_number_in)
  F_is_from : Fun K "is_from" "is_from" s_is_from A.a_is_from A.d_is_from
  b_is_from : Binds K A.d_is_from ["number", "least", "most"] []
  g_is_from : mg "is_from" = some (.ref A.a_is_from)
  F_metre_in : Fun K "metre_in" "metre_in" s_metre_in A.a_metre_in A.d_metre_in
  b_metre_in : Binds K A.d_metre_in ["word"] []
  g_metre_in : mg "metre_in" = some (.ref A.a_metre_in)
  F_is_key : Fun K "is_key" "is_key" s_is_key A.a_is_key A.d_is_key
  b_is_key : Binds K A.d_is_key ["word"] []
  g_is_key : mg "is_key" = some (.ref A.a_is_key)
  F_is_name : Fun K "is_name" "is_name" s_is_name A.a_is_name A.d_is_name
  b_is_name : Binds K A.d_is_name ["word"] []
  g_is_name : mg "is_name" = some (.ref A.a_is_name)
  F_pitch_in : Fun K "pitch_in" "pitch_in" s_pitch_in A.a_pitch_in A.d_pitch_in
  b_pitch_in : Binds K A.d_pitch_in ["word"] []
  g_pitch_in : mg "pitch_in" = some (.ref A.a_pitch_in)
  F_pitch_word : Fun K "pitch_word" "pitch_word" s_pitch_word A.a_pitch_word A.d_pitch_word
  b_pitch_word : Binds K A.d_pitch_word ["pitch"] []
  g_pitch_word : mg "pitch_word" = some (.ref A.a_pitch_word)
  F_length_in : Fun K "length_in" "length_in" s_length_in A.a_length_in A.d_length_in
  b_length_in : Binds K A.d_length_in ["word"] []
  g_length_in : mg "length_in" = some (.ref A.a_length_in)
  F_note_in : Fun K "note_in" "note_in" s_note_in A.a_note_in A.d_note_in
  b_note_in : Binds K A.d_note_in ["word"] []
  g_note_in : mg "note_in" = some (.ref A.a_note_in)
  F_rest_in : Fun K "rest_in" "rest_in" s_rest_in A.a_rest_in A.d_rest_in
  b_rest_in : Binds K A.d_rest_in ["word"] []
  g_rest_in : mg "rest_in" = some (.ref A.a_rest_in)
  F_chord_end_in : Fun K "chord_end_in" "chord_end_in" s_chord_end_in A.a_chord_end_in A.d_chord_end_in
  b_chord_end_in : Binds K A.d_chord_end_in ["word"] []
  g_chord_end_in : mg "chord_end_in" = some (.ref A.a_chord_end_in)
  F_tuplet_in : Fun K "tuplet_in" "tuplet_in" s_tuplet_in A.a_tuplet_in A.d_tuplet_in
  b_tuplet_in : Binds K A.d_tuplet_in ["word"] []
  g_tuplet_in : mg "tuplet_in" = some (.ref A.a_tuplet_in)
  F_Faulty_init : Fun K "__init__" "Faulty.__init__" s_Faulty_init A.a_Faulty_init A.d_Faulty_init
  b_Faulty_init : Binds K A.d_Faulty_init ["self", "kind", "place"] []
  F_Event_init : Fun K "__init__" "Event.__init__" s_Event_init A.a_Event_init A.d_Event_init
  b_Event_init : Binds K A.d_Event_init ["self", "pitches", "long", "is_tied", "place"] []
  F_Bar_init : Fun K "__init__" "Bar.__init__" s_Bar_init A.a_Bar_init A.d_Bar_init
  b_Bar_init : Binds K A.d_Bar_init ["self", "words", "events", "is_short", "place"] []
  F_Bar_length : Fun K "length" "Bar.length" s_Bar_length A.a_Bar_length A.d_Bar_length
  b_Bar_length : Binds K A.d_Bar_length ["self"] []
  m_Bar_length : Meth K A.C_Bar "length" A.a_Bar_length
  F_Voice_init : Fun K "__init__" "Voice.__init__" s_Voice_init A.a_Voice_init A.d_Voice_init
  b_Voice_init : Binds K A.d_Voice_init ["self", "name", "bars", "place"] []
  F_Voice_all_events : Fun K "all_events" "Voice.all_events" s_Voice_all_events A.a_Voice_all_events A.d_Voice_all_events
  b_Voice_all_events : Binds K A.d_Voice_all_events ["self"] []
  m_Voice_all_events : Meth K A.C_Voice "all_events" A.a_Voice_all_events
  F_Score_init : Fun K "__init__" "Score.__init__" s_Score_init A.a_Score_init A.d_Score_init
  b_Score_init : Binds K A.d_Score_init ["self", "metre", "whole", "key", "voices"] []
  F_Reader_init : Fun K "__init__" "Reader.__init__" s_Reader_init A.a_Reader_init A.d_Reader_init
  b_Reader_init : Binds K A.d_Reader_init ["self", "text"] []
  F_Reader_look : Fun K "look" "Reader.look" s_Reader_look A.a_Reader_look A.d_Reader_look
  b_Reader_look : Binds K A.d_Reader_look ["self"] []
  m_Reader_look : Meth K A.C_Reader "look" A.a_Reader_look
  F_Reader_here : Fun K "here" "Reader.here" s_Reader_here A.a_Reader_here A.d_Reader_here
  b_Reader_here : Binds K A.d_Reader_here ["self"] []
  m_Reader_here : Meth K A.C_Reader "here" A.a_Reader_here
  F_Reader_want : Fun K "want" "Reader.want" s_Reader_want A.a_Reader_want A.d_Reader_want
  b_Reader_want : Binds K A.d_Reader_want ["self", "truth", "kind"] []
  m_Reader_want : Meth K A.C_Reader "want" A.a_Reader_want
  F_Reader_take : Fun K "take" "Reader.take" s_Reader_take A.a_Reader_take A.d_Reader_take
  b_Reader_take : Binds K A.d_Reader_take ["self"] []
  m_Reader_take : Meth K A.C_Reader "take" A.a_Reader_take
  F_Reader_take_word : Fun K "take_word" "Reader.take_word" s_Reader_take_word A.a_Reader_take_word A.d_Reader_take_word
  b_Reader_take_word : Binds K A.d_Reader_take_word ["self", "word"] []
  m_Reader_take_word : Meth K A.C_Reader "take_word" A.a_Reader_take_word
  F_Reader_score : Fun K "score" "Reader.score" s_Reader_score A.a_Reader_score A.d_Reader_score
  b_Reader_score : Binds K A.d_Reader_score ["self"] []
  m_Reader_score : Meth K A.C_Reader "score" A.a_Reader_score
  F_Reader_voice : Fun K "voice" "Reader.voice" s_Reader_voice A.a_Reader_voice A.d_Reader_voice
  b_Reader_voice : Binds K A.d_Reader_voice ["self", "names"] []
  m_Reader_voice : Meth K A.C_Reader "voice" A.a_Reader_voice
  F_Reader_bar : Fun K "bar" "Reader.bar" s_Reader_bar A.a_Reader_bar A.d_Reader_bar
  b_Reader_bar : Binds K A.d_Reader_bar ["self"] []
  m_Reader_bar : Meth K A.C_Reader "bar" A.a_Reader_bar
  F_Reader_piece_word : Fun K "piece_word" "Reader.piece_word" s_Reader_piece_word A.a_Reader_piece_word A.d_Reader_piece_word
  b_Reader_piece_word : Binds K A.d_Reader_piece_word ["self"] []
  m_Reader_piece_word : Meth K A.C_Reader "piece_word" A.a_Reader_piece_word
  F_Reader_one_more : Fun K "one_more" "Reader.one_more" s_Reader_one_more A.a_Reader_one_more A.d_Reader_one_more
  b_Reader_one_more : Binds K A.d_Reader_one_more ["self"] []
  m_Reader_one_more : Meth K A.C_Reader "one_more" A.a_Reader_one_more
  F_Reader_put : Fun K "put" "Reader.put" s_Reader_put A.a_Reader_put A.d_Reader_put
  b_Reader_put : Binds K A.d_Reader_put ["self", "pitches", "long", "is_tied", "place"] []
  m_Reader_put : Meth K A.C_Reader "put" A.a_Reader_put
  F_Reader_single : Fun K "single" "Reader.single" s_Reader_single A.a_Reader_single A.d_Reader_single
  b_Reader_single : Binds K A.d_Reader_single ["self"] []
  m_Reader_single : Meth K A.C_Reader "single" A.a_Reader_single
  F_Reader_chord : Fun K "chord" "Reader.chord" s_Reader_chord A.a_Reader_chord A.d_Reader_chord
  b_Reader_chord : Binds K A.d_Reader_chord ["self"] []
  m_Reader_chord : Meth K A.C_Reader "chord" A.a_Reader_chord
  F_want_bars : Fun K "want_bars" "want_bars" s_want_bars A.a_want_bars A.d_want_bars
  b_want_bars : Binds K A.d_want_bars ["voice", "whole"] []
  g_want_bars : mg "want_bars" = some (.ref A.a_want_bars)
  F_want_ties : Fun K "want_ties" "want_ties" s_want_ties A.a_want_ties A.d_want_ties
  b_want_ties : Binds K A.d_want_ties ["voice"] []
  g_want_ties : mg "want_ties" = some (.ref A.a_want_ties)
  F_want_alike : Fun K "want_alike" "want_alike" s_want_alike A.a_want_alike A.d_want_alike
  b_want_alike : Binds K A.d_want_alike ["voice", "first"] []
  g_want_alike : mg "want_alike" = some (.ref A.a_want_alike)
  F_read_score : Fun K "read_score" "read_score" s_read_score A.a_read_score A.d_read_score
  b_read_score : Binds K A.d_read_score ["text"] []
  g_read_score : mg "read_score" = some (.ref A.a_read_score)
  F_form_of : Fun K "form_of" "form_of" s_form_of A.a_form_of A.d_form_of
  b_form_of : Binds K A.d_form_of ["score"] []
  g_form_of : mg "form_of" = some (.ref A.a_form_of)
  F_counts_of : Fun K "counts_of" "counts_of" s_counts_of A.a_counts_of A.d_counts_of
  b_counts_of : Binds K A.d_counts_of ["voice"] []
  g_counts_of : mg "counts_of" = some (.ref A.a_counts_of)
  F_begins_of : Fun K "begins_of" "begins_of" s_begins_of A.a_begins_of A.d_begins_of
  b_begins_of : Binds K A.d_begins_of ["lengths"] []
  g_begins_of : mg "begins_of" = some (.ref A.a_begins_of)
  F_bars_of : Fun K "bars_of" "bars_of" s_bars_of A.a_bars_of A.d_bars_of
  b_bars_of : Binds K A.d_bars_of ["score"] []
  g_bars_of : mg "bars_of" = some (.ref A.a_bars_of)
  F_is_going_on : Fun K "is_going_on" "is_going_on" s_is_going_on A.a_is_going_on A.d_is_going_on
  b_is_going_on : Binds K A.d_is_going_on ["events", "k", "pitch"] []
  g_is_going_on : mg "is_going_on" = some (.ref A.a_is_going_on)
  F_sound_length : Fun K "sound_length" "sound_length" s_sound_length A.a_sound_length A.d_sound_length
  b_sound_length : Binds K A.d_sound_length ["events", "k"] []
  g_sound_length : mg "sound_length" = some (.ref A.a_sound_length)
  F_sounds_of : Fun K "sounds_of" "sounds_of" s_sounds_of A.a_sounds_of A.d_sounds_of
  b_sounds_of : Binds K A.d_sounds_of ["voice"] []
  g_sounds_of : mg "sounds_of" = some (.ref A.a_sounds_of)
  F_place_of : Fun K "place_of" "place_of" s_place_of A.a_place_of A.d_place_of
  b_place_of : Binds K A.d_place_of ["score", "time"] []
  g_place_of : mg "place_of" = some (.ref A.a_place_of)
  F_Refused_init : Fun K "__init__" "Refused.__init__" s_Refused_init A.a_Refused_init A.d_Refused_init
  b_Refused_init : Binds K A.d_Refused_init ["self", "code"] []
  F_want : Fun K "want" "want" s_want A.a_want A.d_want
  b_want : Binds K A.d_want ["truth", "code"] []
  g_want : mg "want" = some (.ref A.a_want)
  F_told : Fun K "told" "told" s_told A.a_told A.d_told
  b_told : Binds K A.d_told ["rows"] []
  g_told : mg "told" = some (.ref A.a_told)
  F_Holder_init : Fun K "__init__" "Holder.__init__" s_Holder_init A.a_Holder_init A.d_Holder_init
  b_Holder_init : Binds K A.d_Holder_init ["self"] []
  F_Holder_score : Fun K "score" "Holder.score" s_Holder_score A.a_Holder_score A.d_Holder_score
  b_Holder_score : Binds K A.d_Holder_score ["self"] []
  m_Holder_score : Meth K A.C_Holder "score" A.a_Holder_score
  F_Holder_read : Fun K "read" "Holder.read" s_Holder_read A.a_Holder_read A.d_Holder_read
  b_Holder_read : Binds K A.d_Holder_read ["self", "text"] []
  m_Holder_read : Meth K A.C_Holder "read" A.a_Holder_read
  F_Holder_form : Fun K "form" "Holder.form" s_Holder_form A.a_Holder_form A.d_Holder_form
  b_Holder_form : Binds K A.d_Holder_form ["self"] []
  m_Holder_form : Meth K A.C_Holder "form" A.a_Holder_form
  F_Holder_sounds : Fun K "sounds" "Holder.sounds" s_Holder_sounds A.a_Holder_sounds A.d_Holder_sounds
  b_Holder_sounds : Binds K A.d_Holder_sounds ["self", "voice"] []
  m_Holder_sounds : Meth K A.C_Holder "sounds" A.a_Holder_sounds
  F_Holder_bars_told : Fun K "bars_told" "Holder.bars_told" s_Holder_bars_told A.a_Holder_bars_told A.d_Holder_bars_told
  b_Holder_bars_told : Binds K A.d_Holder_bars_told ["self"] []
  m_Holder_bars_told : Meth K A.C_Holder "bars_told" A.a_Holder_bars_told
  F_Holder_same : Fun K "same" "Holder.same" s_Holder_same A.a_Holder_same A.d_Holder_same
  b_Holder_same : Binds K A.d_Holder_same ["self", "text"] []
  m_Holder_same : Meth K A.C_Holder "same" A.a_Holder_same
  F_Holder_place_told : Fun K "place_told" "Holder.place_told" s_Holder_place_told A.a_Holder_place_told A.d_Holder_place_told
  b_Holder_place_told : Binds K A.d_Holder_place_told ["self", "upper", "lower"] []
  m_Holder_place_told : Meth K A.C_Holder "place_told" A.a_Holder_place_told
  F_Holder_called : Fun K "called" "Holder.called" s_Holder_called A.a_Holder_called A.d_Holder_called
  b_Holder_called : Binds K A.d_Holder_called ["self", "call", "some", "text"] []
  m_Holder_called : Meth K A.C_Holder "called" A.a_Holder_called
  F_Holder_answer : Fun K "answer" "Holder.answer" s_Holder_answer A.a_Holder_answer A.d_Holder_answer
  b_Holder_answer : Binds K A.d_Holder_answer ["self", "call", "some", "text"] []
  m_Holder_answer : Meth K A.C_Holder "answer" A.a_Holder_answer
  F_answers : Fun K "answers" "answers" s_answers A.a_answers A.d_answers
  b_answers : Binds K A.d_answers ["calls"] []
  g_answers : mg "answers" = some (.ref A.a_answers)
  g_Faulty : mg "Faulty" = some (.ref A.C_Faulty)
  X_Faulty : OexC K A.C_Faulty
  V_Faulty : XfC K A.C_Faulty
  e_Faulty : PySem.W.exmOne K (.ref A.C_Faulty) (.ref A.C_Faulty) = some true
  i_Faulty : PySem.W.findIn K (.ref A.C_Faulty) "__init__" = some (some (.ref A.a_Faulty_init))
  t_Faulty : PySem.W.typeIn K (.ref A.a_Faulty_init) = some (.type "function")
  n_Faulty_kind : NoAttr K A.C_Faulty "kind"
  n_Faulty_place : NoAttr K A.C_Faulty "place"
  g_Event : mg "Event" = some (.ref A.C_Event)
  cl_Event : Cls K A.C_Event
  M_Event : Mk K A.C_Event A.a_Event_init
  n_Event_pitches : NoAttr K A.C_Event "pitches"
  n_Event_long : NoAttr K A.C_Event "long"
  n_Event_is_tied : NoAttr K A.C_Event "is_tied"
  n_Event_place : NoAttr K A.C_Event "place"
  g_Bar : mg "Bar" = some (.ref A.C_Bar)
  cl_Bar : Cls K A.C_Bar
  M_Bar : Mk K A.C_Bar A.a_Bar_init
  n_Bar_words : NoAttr K A.C_Bar "words"
  n_Bar_events : NoAttr K A.C_Bar "events"
  n_Bar_is_short : NoAttr K A.C_Bar "is_short"
  n_Bar_place : NoAttr K A.C_Bar "place"
  g_Voice : mg "Voice" = some (.ref A.C_Voice)
  cl_Voice : Cls K A.C_Voice
  M_Voice : Mk K A.C_Voice A.a_Voice_init
  n_Voice_name : NoAttr K A.C_Voice "name"
  n_Voice_bars : NoAttr K A.C_Voice "bars"
  n_Voice_place : NoAttr K A.C_Voice "place"
  g_Score : mg "Score" = some (.ref A.C_Score)
  cl_Score : Cls K A.C_Score
  M_Score : Mk K A.C_Score A.a_Score_init
  n_Score_metre : NoAttr K A.C_Score "metre"
  n_Score_whole : NoAttr K A.C_Score "whole"
  n_Score_key_word : NoAttr K A.C_Score "key_word"
  n_Score_voices : NoAttr K A.C_Score "voices"
  g_Reader : mg "Reader" = some (.ref A.C_Reader)
  cl_Reader : Cls K A.C_Reader
  M_Reader : Mk K A.C_Reader A.a_Reader_init
  n_Reader_words : NoAttr K A.C_Reader "words"
  n_Reader_at : NoAttr K A.C_Reader "at"
  n_Reader_end : NoAttr K A.C_Reader "end"
  n_Reader_bar_words : NoAttr K A.C_Reader "bar_words"
  n_Reader_events : NoAttr K A.C_Reader "events"
  n_Reader_many : NoAttr K A.C_Reader "many"
  n_Reader_by : NoAttr K A.C_Reader "by"
  g_Refused : mg "Refused" = some (.ref A.C_Refused)
  X_Refused : OexC K A.C_Refused
  V_Refused : XfC K A.C_Refused
  e_Refused : PySem.W.exmOne K (.ref A.C_Refused) (.ref A.C_Refused) = some true
  i_Refused : PySem.W.findIn K (.ref A.C_Refused) "__init__" = some (some (.ref A.a_Refused_init))
  t_Refused : PySem.W.typeIn K (.ref A.a_Refused_init) = some (.type "function")
  n_Refused_code : NoAttr K A.C_Refused "code"
  g_Holder : mg "Holder" = some (.ref A.C_Holder)
  cl_Holder : Cls K A.C_Holder
  M_Holder : Mk K A.C_Holder A.a_Holder_init
  n_Holder_held : NoAttr K A.C_Holder "held"
  vV : PySem.W.findCls K (.type "ValueError") (.type "type") "__init__" = some (.val (.builtin "ValueError.__init__"))
  c_LINE_END : ∃ t, mg "LINE_END" = some (.int 10 t)
  c_BLANK : ∃ t, mg "BLANK" = some (.int 32 t)
  c_LAST_SIGN : ∃ t, mg "LAST_SIGN" = some (.int 126 t)
  c_MOST_METRE : ∃ t, mg "MOST_METRE" = some (.int 32 t)
  c_MOST_KEY : ∃ t, mg "MOST_KEY" = some (.int 7 t)
  c_MOST_NAME : ∃ t, mg "MOST_NAME" = some (.int 8 t)
  c_MOST_FIGURES : ∃ t, mg "MOST_FIGURES" = some (.int 3 t)
  c_LEAST_TUPLET : ∃ t, mg "LEAST_TUPLET" = some (.int 2 t)
  c_MOST_TUPLET : ∃ t, mg "MOST_TUPLET" = some (.int 9 t)
  c_BAD_BYTE : ∃ t, mg "BAD_BYTE" = some (.int 1 t)
  c_BAD_WORD : ∃ t, mg "BAD_WORD" = some (.int 2 t)
  c_TOO_DEEP : ∃ t, mg "TOO_DEEP" = some (.int 3 t)
  c_BAD_NAME : ∃ t, mg "BAD_NAME" = some (.int 4 t)
  c_BAD_BAR : ∃ t, mg "BAD_BAR" = some (.int 5 t)
  c_BAD_TIE : ∃ t, mg "BAD_TIE" = some (.int 6 t)
  c_UNLIKE : ∃ t, mg "UNLIKE" = some (.int 7 t)
  c_MOST_VOICES : ∃ t, mg "MOST_VOICES" = some (.int 4 t)
  c_DEEPEST : ∃ t, mg "DEEPEST" = some (.int 3 t)
  c_LEAST_CHORD : ∃ t, mg "LEAST_CHORD" = some (.int 2 t)
  c_MOST_CHORD : ∃ t, mg "MOST_CHORD" = some (.int 6 t)
  c_NO_SCORE : ∃ t, mg "NO_SCORE" = some (.int (-1) t)
  c_BAD_NUMBER : ∃ t, mg "BAD_NUMBER" = some (.int (-2) t)
  c_TOO_LATE : ∃ t, mg "TOO_LATE" = some (.int (-4) t)
  c_HAS_FAULT : ∃ t, mg "HAS_FAULT" = some (.int (-6) t)
  c_TOO_LONG : ∃ t, mg "TOO_LONG" = some (.int (-8) t)
  c_MOST_TEXT : ∃ t, mg "MOST_TEXT" = some (.int 1500 t)
  c_MOST_NUMBER : ∃ t, mg "MOST_NUMBER" = some (.int 1000000 t)
  c_READ : ∃ t, mg "READ" = some (.int 0 t)
  c_SAME : ∃ t, mg "SAME" = some (.int 5 t)
  c_SIGNS : ∃ t, mg "SIGNS" = some (.str (Str.ofString " !\"#$!&'()*+,-./0123456789:;<=>?@ABCDEFGHIJKLMNOPQRSTUVWXYZ[\\]^_`abcdefghijklmnopqrstuvwxyz{|}~") t)
  c_FIGURES : ∃ t, mg "FIGURES" = some (.str (Str.ofString "0123456789") t)
  c_NAME_LETTERS : ∃ t, mg "NAME_LETTERS" = some (.str (Str.ofString "abcdefghijklmnopqrstuvwxyz") t)
  c_LETTERS : ∃ t, mg "LETTERS" = some (.str (Str.ofString "cdefgab") t)
  c_NOUGHT : mg "NOUGHT" = some (.ref A.t_NOUGHT)
  q_NOUGHT : KT K A.t_NOUGHT [.int 0, .int 1]
  c_ONE : mg "ONE" = some (.ref A.t_ONE)
  q_ONE : KT K A.t_ONE [.int 1, .int 1]
  c_ACCIDENTALS : mg "ACCIDENTALS" = some (.ref A.t_ACCIDENTALS)
  q_ACCIDENTALS : KT K A.t_ACCIDENTALS [.str (Str.ofString "bb"), .str (Str.ofString "b"), .str (Str.ofString ""), .str (Str.ofString "#"), .str (Str.ofString "##")]
  c_METRE_PARTS : mg "METRE_PARTS" = some (.ref A.t_METRE_PARTS)
  q_METRE_PARTS : KT K A.t_METRE_PARTS [.int 1, .int 2, .int 4, .int 8, .int 16, .int 32]
  c_KINDS : mg "KINDS" = some (.ref A.t_KINDS)
  q_KINDS : KT K A.t_KINDS [.int 1, .int 2, .int 4, .int 8, .int 16, .int 32, .int 64]
  c_DOTTED : mg "DOTTED" = some (.ref A.t_DOTTED)
  q_DOTTED : KT K A.t_DOTTED [.ref A.t_DOTTED0, .ref A.t_DOTTED1, .ref A.t_DOTTED2]
  q_DOTTED0 : KT K A.t_DOTTED0 [.int 1, .int 1]
  q_DOTTED1 : KT K A.t_DOTTED1 [.int 3, .int 2]
  q_DOTTED2 : KT K A.t_DOTTED2 [.int 7, .int 4]
  c_NUMBERS : mg "NUMBERS" = some (.ref A.t_NUMBERS)
  q_NUMBERS : KT K A.t_NUMBERS [.int 0, .int 0, .int 0, .int 1, .int 0, .int 0, .int 2]
  z_len : mg "len" = none
  z_int : mg "int" = none
  z_str : mg "str" = none
  z_list : mg "list" = none
  z_zip : mg "zip" = none
  z_all : mg "all" = none
  z_ord : mg "ord" = none
  z_sorted : mg "sorted" = none
  z_enumerate : mg "enumerate" = none
  z_ValueError : mg "ValueError" = none

/-! ### constants of the module -/
section
variable {X : Cx} {x : Str} {pos : Pos}
theorem pe_gI {i : Int} (h : ∃ t, X.mg x = some (.int i t)) (hg : Gl X x := by rfl) (hd : (x == ("__debug__" : Str)) = false := by decide) : PE X (.Name x pos) (tC (.int i)) := by
  obtain ⟨t, h⟩ := h
  exact pe_glob hg h ⟨t, rfl⟩ hd
theorem pe_gS {z : Str} (h : ∃ t, X.mg x = some (.str z t)) (hg : Gl X x := by rfl) (hd : (x == ("__debug__" : Str)) = false := by decide) : PE X (.Name x pos) (tC (.str z)) := by
  obtain ⟨t, h⟩ := h
  exact pe_glob hg h ⟨t, rfl⟩ hd
theorem pe_gR {a : Addr} (h : X.mg x = some (.ref a)) (hg : Gl X x := by rfl) (hd : (x == ("__debug__" : Str)) = false := by decide) : PE X (.Name x pos) (tC (.ref a)) := pe_glob hg h rfl hd
end

/-! ### promises by the number of arguments -/
def sp1 (b : V → Hp → VK → XK → Prop) : Sp := fun vs H Q E => ∃ x, vs = [x] ∧ b x H Q E
def sp2 (b : V → V → Hp → VK → XK → Prop) : Sp := fun vs H Q E => ∃ x y, vs = [x, y] ∧ b x y H Q E
def sp3 (b : V → V → V → Hp → VK → XK → Prop) : Sp := fun vs H Q E => ∃ x y z, vs = [x, y, z] ∧ b x y z H Q E
def sp4 (b : V → V → V → V → Hp → VK → XK → Prop) : Sp := fun vs H Q E => ∃ x y z u, vs = [x, y, z, u] ∧ b x y z u H Q E
def sp5 (b : V → V → V → V → V → Hp → VK → XK → Prop) : Sp := fun vs H Q E => ∃ x y z u v, vs = [x, y, z, u, v] ∧ b x y z u v H Q E
theorem sp1_len {b : V → Hp → VK → XK → Prop} {p : Str} : ∀ vs H Q E, sp1 b vs H Q E → vs.length = [p].length := fun vs H Q E h => by
  obtain ⟨x, rfl, _⟩ := h; rfl
theorem sp2_len {b : V → V → Hp → VK → XK → Prop} {p q : Str} : ∀ vs H Q E, sp2 b vs H Q E → vs.length = [p, q].length := fun vs H Q E h => by
  obtain ⟨x, y, rfl, _⟩ := h; rfl
theorem sp3_len {b : V → V → V → Hp → VK → XK → Prop} {p q r : Str} : ∀ vs H Q E, sp3 b vs H Q E → vs.length = [p, q, r].length := fun vs H Q E h => by
  obtain ⟨x, y, z, rfl, _⟩ := h; rfl
theorem sp4_len {b : V → V → V → V → Hp → VK → XK → Prop} {p q r s : Str} : ∀ vs H Q E, sp4 b vs H Q E → vs.length = [p, q, r, s].length := fun vs H Q E h => by
  obtain ⟨x, y, z, u, rfl, _⟩ := h; rfl
theorem sp5_len {b : V → V → V → V → V → Hp → VK → XK → Prop} {p q r s t : Str} : ∀ vs H Q E, sp5 b vs H Q E → vs.length = [p, q, r, s, t].length := fun vs H Q E h => by
  obtain ⟨x, y, z, u, v, rfl, _⟩ := h; rfl

/-! ### a def that may raise; its exceptions have no context -/
section
variable {P : Program} {w : World} {K : PySem.W.Frag} {mg : Str → Option Value} {base : Heap}
theorem okN {x qual : Str} {st : Stmt} {f : Addr} {fd : FuncData} {N ps : List Str} {k : Nat} {sp : Sp} (F : Fun K x qual st f fd) (S : FnScope N ps (defScope st)) (len : ∀ vs H Q E, sp vs H Q E → vs.length = ps.length)
    (hbody : ∀ (cdv : Value) (A : Around) (outer : List Env) (s : Shared) (H : Hp) (vs : List V) (Q : VK) (E : XK), Room k (A.deeper (envOfC qual (defScope st) s.heap.objs.size f cdv)) → sp vs H Q E →
      L2N.Takes (cxOf (L2N.CX P w) P w K mg base N qual (defScope st) f cdv A outer s H E) (fun cls d _ H => E cls d H) →
      ∃ t, PSs (cxOf (L2N.CX P w) P w K mg base N qual (defScope st) f cdv A outer s H E) (defBody st) t ∧ t { nx := fun _ H' => Q .non H', rt := Q } (start N vs) H) : FnOk P w K mg base (L2N.CX P w) (k + 1) f fd ps sp := by
  obtain ⟨oc, od, kV, doc, pm, an, cdv, ct, osl, rfl, lk, hcd⟩ := F.ex
  exact fn_of lk hcd S len fun A outer s H vs Q E hr hsp => hbody cdv A outer s H vs Q E hr hsp (L2N.takes_of rfl rfl rfl rfl)
theorem okX {x qual : Str} {st : Stmt} {f : Addr} {fd : FuncData} {N ps : List Str} {k : Nat} {sp : Sp} (F : Fun K x qual st f fd) (S : FnScope N ps (defScope st)) (len : ∀ vs H Q E, sp vs H Q E → vs.length = ps.length)
    (hbody : ∀ (cdv : Value) (A : Around) (outer : List Env) (s : Shared) (H : Hp) (vs : List V) (Q : VK) (E : XK), Room k (A.deeper (envOfC qual (defScope st) s.heap.objs.size f cdv)) → sp vs H Q E →
      L2.Takes (cxOf (L2.CX P w) P w K mg base N qual (defScope st) f cdv A outer s H E) (fun cls d _ H => E cls d H) →
      ∃ t, PSs (cxOf (L2.CX P w) P w K mg base N qual (defScope st) f cdv A outer s H E) (defBody st) t ∧ t { nx := fun _ H' => Q .non H', rt := Q } (start N vs) H) : FnOk P w K mg base (L2.CX P w) (k + 1) f fd ps sp := by
  obtain ⟨oc, od, kV, doc, pm, an, cdv, ct, osl, rfl, lk, hcd⟩ := F.ex
  exact fn_of lk hcd S len fun A outer s H vs Q E hr hsp => hbody cdv A outer s H vs Q E hr hsp (L2.takes_of rfl rfl rfl rfl)
end
theorem hD {k : Nat} {A : Around} (hr : Room k A) : A.units + 64 < cLine := by have := hr.un; omega
theorem hD2 {k : Nat} {A : Around} (hr : Room k A) : A.units + 65 < cLine := by have := hr.un; omega

/-! ### heaps -/
theorem same_new {H : Hp} {p : Addr} {o : HO} (h : H p = none) : Same H (upd H p o) := fun a u e => by
  rw [upd_ne (ne_of_none e h)]; exact e
theorem sameT {K : PySem.W.Frag} {H H' : Hp} {a : Addr} {xs : List V} (e : Same H H') (h : SqT K H a xs) : SqT K H' a xs := by
  rcases h with (h | ⟨o, h⟩) | h
  · exact .inl (.inl (e _ _ h))
  · exact .inl (.inr ⟨o, e _ _ h⟩)
  · exact .inr h
end Sc

set_option Elab.async false
set_option linter.all false
set_option maxRecDepth 100000
set_option maxHeartbeats 4000000
/-! # list(zip(..)): the zip's tuple is out -/
namespace Zq
open PySem PySem.Spec PyProof.Rows
abbrev IsZipO (h : Heap) (z TI TO a : Addr) (f : Bool) : Prop :=
  h.get? z = some { cls := .type "zip", dict := none, data := .fields #[rawInt a, .bool f, .bool false, .ref TI, .ref TO], slots := #[] }
section
variable {prog : Program} {w : World} {A : Around} {E : Value → Shared → Prop} {s : Shared}
theorem alive {a : Addr} {o : Obj} {Q : Option Obj → Shared → Prop} (ho : s.heap.get? a = some o) (h : Q (some o) s) : wpAny (model prog w) A (loadIfAlive a) Q E s := by
  have h' : Q (s.heap.get? a) s := by rw [ho]; exact h
  exact fun _ _ _ => h'
/-- the owned tuple is out -/
theorem notFree {z TI TO a : Addr} {f : Bool} {oa : Obj} {Q : Bool → Shared → Prop} (hz : IsZipO s.heap z TI TO a f) (ha : s.heap.get? a = some oa)
    (hQ : ∀ h', IsZipO h' z TI TO a true → Heap.SameBut z s.heap h' → Q false { s with heap := h' }) : wpAny (model prog w) A (Builtin.SmallTypes.ownedTupleIsFree (.ref z)) Q E s := by
  unfold Builtin.SmallTypes.ownedTupleIsFree
  refine wpAny_bind (wpAny_field hz rfl (x := rawInt a) rfl ?_)
  show wpAny _ _ (loadIfAlive ((a : Int).toNat) >>= _) _ _ _
  rw [Int.toNat_natCast]
  refine wpAny_bind (alive ha ?_)
  simp only [Option.isNone_some, Bool.false_eq_true, if_false]
  refine wpAny_bind (wpAny_field hz rfl (x := .bool f) rfl ?_)
  cases f with
  | true =>
    rw [if_neg (show ¬ ((Value.bool true != Value.bool true) = true) from Bool.false_ne_true)]
    exact wpAny_pure (hQ s.heap hz (Heap.SameBut.refl _ _))
  | false =>
    rw [if_pos (show (Value.bool false != Value.bool true) = true from rfl)]
    refine wpAny_bind (wpAny_setField_rec hz (by simp) fun h₃ he₃ hs₃ => ?_)
    exact wpAny_pure (hQ h₃ he₃ hs₃)
theorem out_item {z TI TO i1 i2 l1 l2 a : Addr} {f : Bool} {oa : Obj} {k1 k2 : Nat} {xs ys : Array Value} {x y : Value} {Q : Value → Shared → Prop} (D : ZipApart z TI TO i1 i2 l1 l2)
    (hz : IsZipO s.heap z TI TO a f) (ha : s.heap.get? a = some oa) (haz : a ≠ z) (hTI : IsPair s.heap TI (.ref i1) (.ref i2))
    (h1 : s.heap.IsListIter i1 l1 k1) (h2 : s.heap.IsListIter i2 l2 k2) (hl1 : s.heap.IsList l1 xs) (hl2 : s.heap.IsList l2 ys) (hx : xs[k1]? = some x) (hy : ys[k2]? = some y)
    (hQ : ∀ h', IsZipO h' z TI TO a true → h'.IsListIter i1 l1 (k1 + 1) → h'.IsListIter i2 l2 (k2 + 1) → IsPair h' s.heap.objs.size x y → h'.objs.size = s.heap.objs.size + 1 →
      (∀ c o, c ≠ z → c ≠ i1 → c ≠ i2 → s.heap.get? c = some o → h'.get? c = some o) → Q (.ref s.heap.objs.size) { s with heap := h' }) :
    wpAny (model prog w) A (Builtin.«zip.__next__» ⟨[.ref z], []⟩) (fun fin s' => ∃ v, fin = .done (.ret v) ∧ Q v s') E s := by
  show wpAny _ _ (field (.ref z) 2 >>= _) _ _ _
  refine wpAny_bind (wpAny_field hz rfl (x := .bool false) rfl ?_)
  show wpAny _ _ (field (.ref z) 3 >>= _) _ _ _
  refine wpAny_bind (wpAny_field hz rfl (x := .ref TI) rfl ?_)
  refine wpAny_bind (wpAny_seqItems hTI rfl ?_)
  show wpAny _ _ (Builtin.SmallTypes.ownedTupleIsFree (.ref z) >>= _) _ _ _
  refine wpAny_bind (notFree hz ha fun h₁ hz₁ hs₁ => ?_)
  simp only [Bool.false_eq_true, if_false]
  refine wpAny_bind ?_
  rw [← Array.forIn_toList]
  show wpAny _ _ (forIn [Value.ref i1, Value.ref i2] _ _) _ _ _
  simp only [List.forIn_cons, List.forIn_nil]
  refine wpAny_bind (wpAny_bind (wpAny_holding ?_))
  show wpAny _ _ (Builtin.SmallTypes.nextOf (.ref i1) >>= _) _ _ _
  refine wpAny_bind (wpAny_nextOf_list_item (h1.extBut hs₁.extBut D.i1z) (hl1.extBut hs₁.extBut D.l1z) hx fun h₂ h1₂ hs₂ => wpAny_pure ?_)
  refine wpAny_pure ?_
  refine wpAny_bind (wpAny_bind (wpAny_holding ?_))
  show wpAny _ _ (Builtin.SmallTypes.nextOf (.ref i2) >>= _) _ _ _
  refine wpAny_bind (wpAny_nextOf_list_item ((h2.extBut hs₁.extBut D.i2z).extBut hs₂.extBut D.i12.symm) ((hl2.extBut hs₁.extBut D.l2z).extBut hs₂.extBut D.l2i1) hy fun h₄ h2₄ hs₄ => wpAny_pure ?_)
  refine wpAny_pure (wpAny_pure ?_)
  have hsz : h₄.objs.size = s.heap.objs.size := by rw [hs₄.1, hs₂.1, hs₁.1]
  have hz₄ : IsZipO h₄ z TI TO a true := hs₄.extBut _ _ D.i2z.symm (hs₂.extBut _ _ D.i1z.symm hz₁)
  have h1₄ : h₄.IsListIter i1 l1 (k1 + 1) := h1₂.extBut hs₄.extBut D.i12
  refine wpAny_bind (wpAny_newTuple (hsz := by show 2 ≤ sizeLine; decide) ?_)
  refine wpAny_pure ⟨_, rfl, ?_⟩
  show Q (.ref h₄.objs.size) _
  have up : ∀ c o, h₄.get? c = some o → (h₄.push { cls := .type "tuple", data := .seq #[x, y] }).get? c = some o := fun c o e => Heap.get?_push_of_some _ e
  have hT : IsPair (h₄.push { cls := .type "tuple", data := .seq #[x, y] }) h₄.objs.size x y := Heap.get?_push_size _ rfl
  have e1 : (h₄.push { cls := .type "tuple", data := .seq #[x, y] }).objs.size = h₄.objs.size + 1 := Heap.size_push ..
  rw [hsz] at hT e1 ⊢
  exact hQ _ (up _ _ hz₄) (h1₄.at fun o e => up _ o e) (h2₄.at fun o e => up _ o e) hT e1 fun c o c1 c2 c3 e => up _ _ (hs₄.extBut _ _ c3 (hs₂.extBut _ _ c2 (hs₁.extBut _ _ c1 e)))
theorem out_end {z TI TO i1 i2 l1 l2 a : Addr} {f : Bool} {oa : Obj} {k1 k2 : Nat} {xs ys : Array Value} {Q : Fin → Shared → Prop} (hh : A.handled = none) (D : ZipApart z TI TO i1 i2 l1 l2)
    (hz : IsZipO s.heap z TI TO a f) (ha : s.heap.get? a = some oa) (haz : a ≠ z) (hTI : IsPair s.heap TI (.ref i1) (.ref i2))
    (h1 : s.heap.IsListIter i1 l1 k1) (h2 : s.heap.IsListIter i2 l2 k2) (hl1 : s.heap.IsList l1 xs) (hl2 : s.heap.IsList l2 ys) (hend : xs[k1]? = none ∨ ys[k2]? = none)
    (hE : ∀ h' e, (∀ c o, c ≠ z → c ≠ i1 → c ≠ i2 → s.heap.get? c = some o → h'.get? c = some o) → (∃ o, h'.get? e = some o ∧ o.cls = .type "StopIteration") → E (.ref e) { s with heap := h' }) :
    wpAny (model prog w) A (Builtin.«zip.__next__» ⟨[.ref z], []⟩) Q E s := by
  show wpAny _ _ (field (.ref z) 2 >>= _) _ _ _
  refine wpAny_bind (wpAny_field hz rfl (x := .bool false) rfl ?_)
  show wpAny _ _ (field (.ref z) 3 >>= _) _ _ _
  refine wpAny_bind (wpAny_field hz rfl (x := .ref TI) rfl ?_)
  refine wpAny_bind (wpAny_seqItems hTI rfl ?_)
  show wpAny _ _ (Builtin.SmallTypes.ownedTupleIsFree (.ref z) >>= _) _ _ _
  refine wpAny_bind (notFree hz ha fun h₁ hz₁ hs₁ => ?_)
  simp only [Bool.false_eq_true, if_false]
  refine wpAny_bind ?_
  rw [← Array.forIn_toList]
  show wpAny _ _ (forIn [Value.ref i1, Value.ref i2] _ _) _ _ _
  simp only [List.forIn_cons, List.forIn_nil]
  refine wpAny_bind (wpAny_bind (wpAny_holding ?_))
  show wpAny _ _ (Builtin.SmallTypes.nextOf (.ref i1) >>= _) _ _ _
  cases hx : xs[k1]? with
  | none =>
    refine wpAny_bind (wpAny_nextOf_list_end hh (h1.extBut hs₁.extBut D.i1z) (hl1.extBut hs₁.extBut D.l1z) hx fun h₂ e hs₂ he => ?_)
    exact hE h₂ e (fun c o c1 c3 _ x => hs₂ _ _ c3 (hs₁.extBut _ _ c1 x)) he
  | some x =>
    have hy : ys[k2]? = none := by rcases hend with h | h; rw [hx] at h; cases h; exact h
    refine wpAny_bind (wpAny_nextOf_list_item (h1.extBut hs₁.extBut D.i1z) (hl1.extBut hs₁.extBut D.l1z) hx fun h₂ h1₂ hs₂ => wpAny_pure ?_)
    refine wpAny_pure ?_
    refine wpAny_bind (wpAny_bind (wpAny_holding ?_))
    show wpAny _ _ (Builtin.SmallTypes.nextOf (.ref i2) >>= _) _ _ _
    refine wpAny_bind (wpAny_nextOf_list_end hh ((h2.extBut hs₁.extBut D.i2z).extBut hs₂.extBut D.i12.symm) ((hl2.extBut hs₁.extBut D.l2z).extBut hs₂.extBut D.l2i1) hy fun h₄ e hs₄ he => ?_)
    exact hE h₄ e (fun c o c1 c3 c4 x => hs₄ _ _ c4 (hs₂.extBut _ _ c3 (hs₁.extBut _ _ c1 x))) he
/-- the zip is new, or its tuple is out (and stands) -/
def ZSt (h : Heap) (z TI TO i1 i2 S : Addr) : Prop := (IsZip h z TI TO .none ∧ ∃ x y, IsPair h TO x y) ∨ ∃ a f oa, IsZipO h z TI TO a f ∧ h.get? a = some oa ∧ a ≠ z ∧ a ≠ i1 ∧ a ≠ i2 ∧ a ≠ S
theorem z_next {z TI TO i1 i2 l1 l2 S : Addr} {k1 k2 : Nat} {xs ys : Array Value} {x y : Value} {Q : Option Value → Shared → Prop} (D : ZipApart z TI TO i1 i2 l1 l2)
    (hz : ZSt s.heap z TI TO i1 i2 S) (hS : S < s.heap.objs.size) (hTI : IsPair s.heap TI (.ref i1) (.ref i2))
    (h1 : s.heap.IsListIter i1 l1 k1) (h2 : s.heap.IsListIter i2 l2 k2) (hl1 : s.heap.IsList l1 xs) (hl2 : s.heap.IsList l2 ys) (hx : xs[k1]? = some x) (hy : ys[k2]? = some y)
    (hQ : ∀ h', ZSt h' z TI TO i1 i2 S → h'.IsListIter i1 l1 (k1 + 1) → h'.IsListIter i2 l2 (k2 + 1) → IsPair h' s.heap.objs.size x y → h'.objs.size = s.heap.objs.size + 1 →
      (∀ c o, c ≠ z → c ≠ TO → c ≠ i1 → c ≠ i2 → s.heap.get? c = some o → h'.get? c = some o) → Q (some (.ref s.heap.objs.size)) { s with heap := h' }) :
    wpAny (model prog w) A (pyNext (.ref z)) Q E s := by
  have li1 : i1 < s.heap.objs.size := by obtain ⟨_, e, _⟩ := h1; exact Heap.lt_size e
  have li2 : i2 < s.heap.objs.size := by obtain ⟨_, e, _⟩ := h2; exact Heap.lt_size e
  rcases hz with ⟨hz, x0, y0, hTO⟩ | ⟨a, f, oa, hz, ha, haz, ha1, ha2, haS⟩
  · have lz : z < s.heap.objs.size := Heap.lt_size hz
    refine wpAny_pyNext_zip_item D hz hTI hTO h1 h2 hl1 hl2 hx hy fun h' a1 a2 a3 a4 a5 a6 a7 => hQ h' (.inr ⟨s.heap.objs.size, false, _, a1, a5, Nat.ne_of_gt lz, Nat.ne_of_gt li1, Nat.ne_of_gt li2, Nat.ne_of_gt hS⟩) a3 a4 a5 a6 a7
  · have hT : s.TypeIs (.ref z) "zip" := ⟨_, hz, rfl⟩
    unfold pyNext
    exact wpAny_bind (wpAny_attempt (wpAny_callSpecial?_slot (name := Str.ofString "__next__") hT F.slot_zip_next
      (wpAny_call_entry F.slot_zip_next hT F.entry_zip_next
        (out_item D hz ha haz hTI h1 h2 hl1 hl2 hx hy fun h' a1 a2 a3 a4 a5 a6 => wpAny_pure (hQ h' (.inr ⟨a, true, oa, a1, a6 a oa haz ha1 ha2 ha, haz, ha1, ha2, haS⟩) a2 a3 a4 a5 fun c o c1 c2 c3 c4 e => a6 c o c1 c3 c4 e)) (F.args_zip_next_1 _))))
theorem z_end {z TI TO i1 i2 l1 l2 S : Addr} {k1 k2 : Nat} {xs ys : Array Value} {Q : Option Value → Shared → Prop} (hh : A.handled = none) (D : ZipApart z TI TO i1 i2 l1 l2)
    (hz : ZSt s.heap z TI TO i1 i2 S) (hTI : IsPair s.heap TI (.ref i1) (.ref i2))
    (h1 : s.heap.IsListIter i1 l1 k1) (h2 : s.heap.IsListIter i2 l2 k2) (hl1 : s.heap.IsList l1 xs) (hl2 : s.heap.IsList l2 ys) (hend : xs[k1]? = none ∨ ys[k2]? = none)
    (hQ : ∀ h', (∀ c o, c ≠ z → c ≠ TO → c ≠ i1 → c ≠ i2 → s.heap.get? c = some o → h'.get? c = some o) → Q none { s with heap := h' }) : wpAny (model prog w) A (pyNext (.ref z)) Q E s := by
  rcases hz with ⟨hz, x0, y0, hTO⟩ | ⟨a, f, oa, hz, ha, haz, ha1, ha2, haS⟩
  · exact wpAny_pyNext_zip_end hh D hz hTI hTO h1 h2 hl1 hl2 hend hQ
  · have hT : s.TypeIs (.ref z) "zip" := ⟨_, hz, rfl⟩
    unfold pyNext
    refine wpAny_bind (wpAny_attempt (wpAny_callSpecial?_slot (name := Str.ofString "__next__") hT F.slot_zip_next
      (wpAny_call_entry F.slot_zip_next hT F.entry_zip_next (out_end hh D hz ha haz hTI h1 h2 hl1 hl2 hend fun h' e hk he => ?_) (F.args_zip_next_1 _))))
    obtain ⟨o, ho, hc⟩ := he
    refine wpAny_bind (wpAny_isInstance (T := "StopIteration") (b := true) ⟨o, ho, hc⟩ isSubtype_stop ?_)
    exact wpAny_pure (hQ _ fun c o c1 c2 c3 c4 e => hk c o c1 c3 c4 e)
end
open L2
theorem sqL_upd {K : PySem.W.Frag} {H : Hp} {a b : Addr} {xs : List V} {o : HO} (h : SqL K H a xs) (n : a ≠ b) : SqL K (upd H b o) a xs := by
  rcases h with (h | ⟨o', h⟩) | h
  · exact .inl (.inl (by rw [upd_ne n]; exact h))
  · exact .inl (.inr ⟨o', by rw [upd_ne n]; exact h⟩)
  · exact .inr h
/-- new pairs of xs's and ys's items -/
def ZPs (H : Hp) (xs ys us : List V) : Prop := ∀ (j : Nat) (u : V), us[j]? = some u → ∃ t x y, u = .ref t ∧ H t = some (.tup [x, y]) ∧ xs[j]? = some x ∧ ys[j]? = some y
section
variable {X : Cx} {pins : List (Addr × Obj)} {σ : L2.St} {z TI TO i1 i2 l1 l2 S : Addr} {xs ys : List V} {A1 : Around} {Rs : Result → Shared → Prop} {H0 : Hp}
theorem z_loop (hh : A1.in1.handled = none) (D : ZipApart z TI TO i1 i2 l1 l2) (n1 : l1 ≠ S) (n2 : l2 ≠ S) (hn : min xs.length ys.length ≤ sizeLine)
    (hdone : ∀ acc H s, Inv X pins σ H s → (∀ b o, H0 b = some o → b ≠ S → H b = some o) → H S = some (.lst acc) → acc.length = min xs.length ys.length → ZPs H xs ys acc → Rs (.ok (.ret .none)) s) :
    ∀ (k : Nat) (acc : List V) (H : Hp) (s : Shared), min xs.length ys.length - acc.length = k → acc.length ≤ min xs.length ys.length → Inv X pins σ H s → (∀ b ∈ [z, TI, TO, i1, i2], FpOk X pins H b) → ZSt s.heap z TI TO i1 i2 S → TO < s.heap.objs.size → IsPair s.heap TI (.ref i1) (.ref i2) →
      s.heap.IsListIter i1 l1 acc.length → s.heap.IsListIter i2 l2 acc.length → SqL X.K H l1 xs → SqL X.K H l2 ys → H S = some (.lst acc) → ZPs H xs ys acc → (∀ b o, H0 b = some o → b ≠ S → H b = some o) →
      codeAny (model X.prog X.w) A1 (.builtin "list.extend.loop" ⟨[.ref S, .ref z, .none], []⟩) Rs s := by
  intro k
  induction k with
  | zero =>
    intro acc H s hk hle I hf hz hTOl hTI h1 h2 hq1 hq2 hS hZ hkp
    refine codeAny_builtin PySem.F.entry_extend_loop ?_
    rw [Around.under_plainId PySem.F.plain_extend_loop _]
    show wpAny _ A1.in1 (pyNext (.ref z) >>= _) _ _ s
    obtain ⟨its, rv, p, _⟩ := I.list hq1
    obtain ⟨its2, rv2, p2, _⟩ := I.list hq2
    have e1 := rv.length
    have e2 := rv2.length
    have hend : its.toArray[acc.length]? = none ∨ its2.toArray[acc.length]? = none := by
      rcases Nat.le_total xs.length ys.length with h | h
      · left; simp; omega
      · right; simp; omega
    refine wpAny_bind (z_end hh D hz hTI h1 h2 p.isList p2.isList hend fun h' hk' => ?_)
    exact wpAny_pure (hdone acc H _ (I.turnedL (t' := s.toks) (ch := [z, TI, TO, i1, i2]) (fun c o hb q => hk' c o (fun e => hb (by simp [e])) (fun e => hb (by simp [e])) (fun e => hb (by simp [e])) (fun e => hb (by simp [e])) q) hf) hkp hS (by omega) hZ)
  | succ k ih =>
    intro acc H s hk hle I hf hz hTOl hTI h1 h2 hq1 hq2 hS hZ hkp
    refine codeAny_builtin PySem.F.entry_extend_loop ?_
    rw [Around.under_plainId PySem.F.plain_extend_loop _]
    show wpAny _ A1.in1 (pyNext (.ref z) >>= _) _ _ s
    obtain ⟨its, rv, p, _⟩ := I.list hq1
    obtain ⟨its2, rv2, p2, _⟩ := I.list hq2
    have hx : xs[acc.length]? = some (xs[acc.length]'(by omega)) := List.getElem?_eq_getElem _
    have hy : ys[acc.length]? = some (ys[acc.length]'(by omega)) := List.getElem?_eq_getElem _
    generalize xs[acc.length]'(by omega) = x at hx
    generalize ys[acc.length]'(by omega) = y at hy
    obtain ⟨u, hu, ru⟩ := rv.get hx
    obtain ⟨u2, hu2, ru2⟩ := rv2.get hy
    obtain ⟨zS, itS, cS, rS, lS, eS⟩ := I.lstM hS
    have hSl : S < s.heap.objs.size := Heap.lt_size eS
    have Sf : S ∉ [z, TI, TO, i1, i2] := fun hm => by
      have := (hf S hm).1
      rw [this] at hS; cases hS
    have fl : ∀ b ∈ [z, TI, TO, i1, i2], b < s.heap.objs.size := fun b hb => by
      have e' : b = z ∨ b = TI ∨ b = TO ∨ b = i1 ∨ b = i2 := by simpa using hb
      rcases e' with q | q | q | q | q
      · rw [q]
        rcases hz with ⟨hz, _⟩ | ⟨_, _, _, hz, _⟩
        · exact Heap.lt_size hz
        · exact Heap.lt_size hz
      · rw [q]; exact Heap.lt_size hTI
      · rw [q]
        rcases hz with ⟨hz, _, _, hTO⟩ | ⟨_, _, _, hz, _⟩
        · exact Heap.lt_size hTO
        · exact hTOl
      · rw [q]; obtain ⟨_, e1, _⟩ := h1; exact Heap.lt_size e1
      · rw [q]; obtain ⟨_, e2, _⟩ := h2; exact Heap.lt_size e2
    refine wpAny_bind (z_next D hz hSl hTI h1 h2 p.isList p2.isList (x := u) (y := u2) (by simpa using hu) (by simpa using hu2) fun h' hz' h1' h2' hT hsz hk' => ?_)
    have new : ObjOk X.prog X.w (upd H s.heap.objs.size (.tup [x, y])) h' s.heap.objs.size (.tup [x, y]) :=
      ⟨by show 2 ≤ sizeLine; decide, [u, u2], .cons ru (.cons ru2 .nil), ⟨_, hT, rfl, _, rfl⟩⟩
    have I1 : Inv X pins σ (upd H s.heap.objs.size (.tup [x, y])) { s with heap := h' } :=
      I.turnedNew (t' := s.toks) (ch := [z, TI, TO, i1, i2]) (fun c o hb q => hk' c o (fun e => hb (by simp [e])) (fun e => hb (by simp [e])) (fun e => hb (by simp [e])) (fun e => hb (by simp [e])) q) hf (Nat.le_refl _) new
    have hTn : H s.heap.objs.size = none := I.hok.fresh (Nat.le_refl _)
    have hST : S ≠ s.heap.objs.size := Nat.ne_of_lt hSl
    have hS1 : (upd H s.heap.objs.size (.tup [x, y])) S = some (.lst acc) := by rw [upd_ne hST]; exact hS
    show wpAny _ A1.in1 (updateSeq S (·.push (Value.ref s.heap.objs.size)) >>= _) _ _ _
    obtain ⟨zS', itS', cS', rS', lS', eS'⟩ := I1.lstM hS1
    have lacc : acc.length < sizeLine := by omega
    refine wpAny_bind (wpAny_updateSeq eS' rfl (wpAny_pure ⟨plainId_quiet PySem.F.plain_extend_loop _, ?_⟩) (by rw [List.size_toArray]; omega) (by show (itS'.toArray.push _).size ≤ sizeLine + 1; rw [Array.size_push, List.size_toArray]; omega))
    have I2 := I1.lset (f := fun a => a.push (Value.ref s.heap.objs.size)) (its' := itS' ++ [Value.ref s.heap.objs.size]) (ys := acc ++ [V.ref s.heap.objs.size]) (t' := s.toks) hS1 eS' (by simp) (rS'.append (.cons rfl .nil)) (by rw [List.length_append, List.length_singleton]; omega)
    have up : ∀ b o, b ≠ S → h'.get? b = some o → (h'.update S (Obj.mapSeq fun a => a.push (Value.ref s.heap.objs.size))).get? b = some o := fun b o hb e => (Heap.get?_update_other _ _ (Ne.symm hb)).trans e
    have nS : ∀ b ∈ [z, TI, TO, i1, i2], b ≠ S := fun b hb e => Sf (e ▸ hb)
    refine ih (acc ++ [V.ref s.heap.objs.size]) _ _ (by rw [List.length_append, List.length_singleton]; omega) (by rw [List.length_append, List.length_singleton]; omega) I2 (fun b hb => ?_) ?_ (by show TO < (h'.update S _).objs.size; rw [Heap.size_update, hsz]; exact Nat.lt_succ_of_lt hTOl) (up _ _ (nS TI (by simp)) (hk' _ _ D.TIz D.TITO D.TIi1 D.TIi2 hTI)) ?_ ?_ (sqL_upd (sqL_upd hq1 (Nat.ne_of_lt p.lt)) n1) (sqL_upd (sqL_upd hq2 (Nat.ne_of_lt p2.lt)) n2) upd_same ?_ ?_
    · obtain ⟨a1, a2, a3, a4, a5, a6⟩ := hf b hb
      exact ⟨by rw [upd_ne (nS b hb), upd_ne (Nat.ne_of_lt (fl b hb))]; exact a1, a2, a3, a4, a5, a6⟩
    · rcases hz' with ⟨hz', x0, y0, hTO⟩ | ⟨a, f, oa, hz', ha, haz, ha1, ha2, haS⟩
      · exact .inl ⟨up _ _ (nS z (by simp)) hz', x0, y0, up _ _ (nS TO (by simp)) hTO⟩
      · exact .inr ⟨a, f, oa, up _ _ (nS z (by simp)) hz', up _ _ haS ha, haz, ha1, ha2, haS⟩
    · rw [List.length_append, List.length_singleton]
      exact h1'.at fun o e => up _ o (nS i1 (by simp)) e
    · rw [List.length_append, List.length_singleton]
      exact h2'.at fun o e => up _ o (nS i2 (by simp)) e
    · intro j v hj
      rcases Nat.lt_or_ge j acc.length with hjl | hjl
      · rw [List.getElem?_append_left hjl] at hj
        obtain ⟨t, x', y', rfl, e1, e2, e3⟩ := hZ j v hj
        refine ⟨t, x', y', rfl, ?_, e2, e3⟩
        rw [upd_ne (fun e => by rw [e, hS] at e1; cases e1), upd_ne (ne_of_none e1 hTn)]
        exact e1
      · have hj' : j = acc.length := by
          have := (List.getElem?_eq_some_iff.mp hj).1
          rw [List.length_append, List.length_singleton] at this
          omega
        subst hj'
        rw [List.getElem?_append_right (Nat.le_refl _), Nat.sub_self] at hj
        cases hj
        exact ⟨_, x, y, rfl, by rw [upd_ne (Ne.symm hST), upd_same], hx, hy⟩
    · intro b o e hb
      rw [upd_ne hb, upd_ne (ne_of_none (hkp b o e hb) hTn)]
      exact hkp b o e hb
theorem zip_no_len : typeLookup (.type "zip") "__len__" = pure none := am_miss_of_fast (by decide +kernel)
theorem zip_no_hint : typeLookup (.type "zip") "__length_hint__" = pure none := am_miss_of_fast (by decide +kernel)
theorem z_extend {H : Hp} {s : Shared} (hh : A1.in1.handled = none) (D : ZipApart z TI TO i1 i2 l1 l2) (n1 : l1 ≠ S) (n2 : l2 ≠ S) (hn : min xs.length ys.length ≤ sizeLine)
    (hdone : ∀ acc H s, Inv X pins σ H s → (∀ b o, H0 b = some o → b ≠ S → H b = some o) → H S = some (.lst acc) → acc.length = min xs.length ys.length → ZPs H xs ys acc → Rs (.ok (.ret .none)) s) (herr : ∀ e s, X.xe e s → Rs (.error e) s)
    (I : Inv X pins σ H s) (hf : ∀ b ∈ [z, TI, TO, i1, i2], FpOk X pins H b) (hz : IsZip s.heap z TI TO .none) (hTO : ∃ x y, IsPair s.heap TO x y) (hTI : IsPair s.heap TI (.ref i1) (.ref i2))
    (h1 : s.heap.IsListIter i1 l1 0) (h2 : s.heap.IsListIter i2 l2 0) (hq1 : SqL X.K H l1 xs) (hq2 : SqL X.K H l2 ys) (hS : H S = some (.lst [])) (hkp : ∀ b o, H0 b = some o → b ≠ S → H b = some o) :
    wpAny (model X.prog X.w) A1.in1 (Builtin.List.listExtendWith (.ref S) (.ref z) .none)
      (fun fin s' => match fin with | .done f => Rs (.ok f) s' | .again c' => c'.quiet = true ∧ codeAny (model X.prog X.w) A1 c' Rs s') (fun e s' => Rs (.error e) s') s := by
  have hT : s.TypeIs (.ref z) "zip" := ⟨_, hz, rfl⟩
  have hne : S ≠ z := fun e => by
    have := (hf z (by simp)).1
    rw [← e, hS] at this; cases this
  obtain ⟨zS, itS, cS, rS, lS, eS⟩ := I.lstM hS
  cases rS
  unfold Builtin.List.listExtendWith
  refine wpAny_bind (wpAny_typeOf hT ?_)
  have e1 : Builtin.List.listSameRef (.ref S) (.ref z) = false := by simp [Builtin.List.listSameRef, hne]
  have e2 : (Value.type "zip" == Value.type "list") = false := by decide
  have e3 : (Value.type "zip" == Value.type "tuple") = false := by decide
  simp only [e1, e2, e3, Bool.or_false, Bool.false_eq_true, if_false]
  refine wpAny_bind (wpAny_pyIter_zip hz ?_)
  refine wpAny_bind (wpAny_holding ?_)
  unfold Builtin.List.listLengthHint
  refine wpAny_bind (wpAny_specialOf hT zip_no_len ?_)
  show wpAny _ A1.in1 (specialOf (Value.ref z) (Str.ofString "__length_hint__") >>= _) _ _ _
  refine wpAny_bind (wpAny_specialOf hT zip_no_hint ?_)
  refine wpAny_pure ?_
  show wpAny _ A1.in1 (rule "list.extend.makes-room" >>= fun _ => Builtin.List.listTouch (.ref S) >>= fun _ =>
    again (.builtin "list.extend.loop" ⟨[.ref S, .ref z, .none], []⟩)) _ _ _
  refine wpAny_bind (wpAny_rule ?_)
  refine wpAny_bind ?_
  show wpAny _ A1.in1 (updateSeq S (·.push .none) >>= fun _ => updateSeq S (·.pop)) _ _ _
  refine wpAny_bind (wpAny_updateSeq eS rfl ?_)
  have I2 := I.lset (f := (·.push Value.none)) (its' := [Value.none]) (ys := [.non]) (t' := s.toks) hS eS (by simp) (.cons rfl .nil) (by rw [List.length_singleton, sizeLine_eq]; decide)
  obtain ⟨z4, its4, k4, r4, hl4, e4⟩ := I2.lstM upd_same
  obtain ⟨u4, rfl, ru4⟩ := r4.one
  refine wpAny_updateSeq e4 rfl ?_ (by show 1 ≤ sizeLine; rw [sizeLine_eq]; decide) (by show 0 ≤ sizeLine + 1; exact Nat.zero_le _)
  have I3 := I2.lset (f := (·.pop)) (its := [u4]) (its' := []) (ys := []) (t' := s.toks) upd_same e4 (by rfl) .nil (Nat.zero_le _)
  rw [upd_upd] at I3
  have hH : upd H S (.lst []) = H := by
    funext b
    by_cases hb : b = S
    · rw [hb, upd_same, hS]
    · rw [upd_ne hb]
  rw [hH] at I3
  have up : ∀ b o, b ≠ S → s.heap.get? b = some o → ((s.heap.update S (Obj.mapSeq (·.push Value.none))).update S (Obj.mapSeq (·.pop))).get? b = some o := fun b o hb e => (Heap.get?_update_other _ _ (Ne.symm hb)).trans ((Heap.get?_update_other _ _ (Ne.symm hb)).trans e)
  have nS : ∀ b ∈ [z, TI, TO, i1, i2], b ≠ S := fun b hb e => by
    have := (hf b hb).1
    rw [e, hS] at this; cases this
  obtain ⟨x0, y0, hTO⟩ := hTO
  refine wpAny_pure ⟨plainId_quiet PySem.F.plain_extend_loop _, z_loop hh D n1 n2 hn hdone _ [] H _ rfl (Nat.zero_le _) I3 hf (.inl ⟨up _ _ (nS z (by simp)) hz, x0, y0, up _ _ (nS TO (by simp)) hTO⟩) ?_ (up _ _ (nS TI (by simp)) hTI)
    (h1.at fun o e => up _ o (nS i1 (by simp)) e) (h2.at fun o e => up _ o (nS i2 (by simp)) e) hq1 hq2 hS (fun j u h => by cases h) hkp⟩
  show TO < (Heap.update (Heap.update _ _ _) _ _).objs.size
  rw [Heap.size_update, Heap.size_update]
  exact Heap.lt_size hTO
def tListZip (K : PySem.W.Frag) (ta : TA) : TE := fun σ H Q => ta σ H fun vs H1 => ∃ a b xs ys, vs = [.ref a, .ref b] ∧ SqL K H1 a xs ∧ SqL K H1 b ys ∧ min xs.length ys.length ≤ sizeLine ∧
  ∀ q H2 us, H1 q = none → (∀ b o, H1 b = some o → H2 b = some o) → H2 q = some (.lst us) → us.length = min xs.length ys.length → ZPs H2 xs ys us → Q (.ref q) H2
end
section
variable {X : Cx} {e1 e2 : Expr} {ta : TA} {p p2 pos pos2 : Pos}
theorem pe_listzip (hgl : Gl X "list") (hml : X.mg "list" = none) (hgz : Gl X "zip") (hmz : X.mg "zip" = none) (ha : PA X [e1, e2] ta) (hc : X.calm = true := by rfl)
    (hs : starEach [e1, e2] X.env = (false, eval e1 X.env) :: starEach [e2] X.env := by rfl) (hpl : (backTo pos2 (starEach [e2] X.env)).any (·.1) = false := by rfl)
    (na : starEach [.Call (.Name "zip" p2) [e1, e2] [] pos2] X.env = (false, eval (.Call (.Name "zip" p2) [e1, e2] [] pos2) X.env) :: starEach [] X.env := by rfl) :
    PE X (.Call (.Name "list" p) [.Call (.Name "zip" p2) [e1, e2] [] pos2] [] pos) (tListZip X.K ta) := by
  refine ⟨fun pins s σ H Q I hq => ?_⟩
  refine wpAny_Call_Name_kw (ld_blt I hgl hml boot_list ?_)
  refine PyProof.Rows.callWith_type1 ?_ na rfl
  rw [na]
  show wpAny _ _ (spliced ((false, eval (.Call (.Name "zip" p2) [e1, e2] [] pos2) X.env) :: backTo pos (starEach [] X.env))) _ _ s
  refine Calls.spliced_cons ?_
  refine Call_ (ld_blt I hgz hmz PyProof.Rows.boot_zip (PyProof.Rows.callWith_type1 (thn (ha.run pos2 pins s σ H _ I hq) fun us s1 ⟨vs, H1, I1, r1, q1⟩ => ?_) hs hpl))
  obtain ⟨a, b, xs, ys, ex, hqx, hqy, hn, q⟩ := q1
  subst ex
  obtain ⟨ua, r1'⟩ : ∃ ua, us = [Value.ref a, Value.ref b] := ⟨(), by
    cases r1 with
    | cons r rr =>
      cases rr with
      | cons r' rr =>
        cases rr
        cases r
        cases r'
        rfl⟩
  subst r1'
  obtain ⟨its, rv, p1, _⟩ := I1.list hqx
  obtain ⟨its2, rv2, pp2, _⟩ := I1.list hqy
  have la : a < s1.heap.objs.size := p1.lt
  have lb : b < s1.heap.objs.size := pp2.lt
  refine call_zip_2 p1.isList pp2.isList fun h' hz hTI hTO h1 h2 hsz hk => ?_
  have I2 : Inv X pins σ H1 { s1 with heap := h' } := I1.kept (t' := s1.toks) hk
  refine Calls.spliced_nil ?_
  refine callType_codes (Q₁ := fun obj s₁ => obj = .ref h'.objs.size ∧ s₁ = { s1 with heap := h'.push { cls := .type "list", data := .seq #[] } }) PySem.F.called_list (PySem.F.typeCall_list_1 _) PySem.F.entry_list_init
    (code_list_new _ ⟨rfl, rfl⟩) fun obj s₁ h₁ => ?_
  obtain ⟨rfl, rfl⟩ := h₁
  have hS : (h'.push { cls := .type "list", data := .seq #[] }).get? h'.objs.size = some { cls := .type "list", data := .seq #[] } := Heap.get?_push_size _ rfl
  refine ⟨⟨_, hS, rfl⟩, PySem.F.args_list_init_2 _ _, ?_⟩
  have fr : H1 h'.objs.size = none := I2.hok.fresh (Nat.le_refl _)
  have I3 : Inv X pins σ (upd H1 h'.objs.size (.lst [])) { s1 with heap := h'.push { cls := .type "list", data := .seq #[] } } := I2.lnew (its := []) (t' := s1.toks) .nil (Nat.zero_le _)
  show wpAny _ _ (do let old ← Builtin.List.listItems (.ref h'.objs.size); Builtin.List.listUpdate (.ref h'.objs.size) (fun _ => #[]); letGo old.toList.reverse; Builtin.List.listExtendWith (.ref h'.objs.size) (.ref (s1.heap.objs.size + 4)) .none) _ _ _
  refine wpAny_bind ?_
  unfold Builtin.List.listItems
  refine wpAny_bind (wpAny_seqItems hS rfl (wpAny_pure ?_))
  show wpAny _ _ (updateSeq h'.objs.size (fun _ => #[]) >>= fun _ => letGo (#[] : Array Value).toList.reverse >>= fun _ => Builtin.List.listExtendWith (.ref h'.objs.size) (.ref (s1.heap.objs.size + 4)) .none) _ _ _
  refine wpAny_bind (wpAny_updateSeq hS rfl ?_)
  have I4 := I3.lset (f := fun _ => #[]) (its := []) (its' := []) (ys := []) (t' := s1.toks) upd_same hS rfl .nil (Nat.zero_le _)
  rw [upd_upd] at I4
  refine wpAny_bind (wpAny_letGo ?_)
  have up : ∀ c o, h'.get? c = some o → ((h'.push { cls := .type "list", data := .seq #[] }).update h'.objs.size (Obj.mapSeq fun _ => #[])).get? c = some o := fun c o e =>
    (Heap.get?_update_other _ _ (Ne.symm (Nat.ne_of_lt (Heap.lt_size e)))).trans (Heap.get?_push_of_some _ e)
  have D := PySem.W.ktu_apart s1.heap.objs.size a b la lb
  have na : a ≠ h'.objs.size := by rw [hsz]; exact Nat.ne_of_lt (Nat.lt_of_lt_of_le la (Nat.le_add_right _ _))
  have nb : b ≠ h'.objs.size := by rw [hsz]; exact Nat.ne_of_lt (Nat.lt_of_lt_of_le lb (Nat.le_add_right _ _))
  refine z_extend (A1 := X.A.in1) (H0 := H1) (Rs := wants (fun r s₂ => r = .none ∧ EP X pins σ Q (.ref h'.objs.size) s₂) X.xe) (I1.ok.hd hc) D na nb hn
    (fun acc H' s' I' k1 k2 k3 k4 => ⟨rfl, .ref h'.objs.size, H', I', rfl, q _ H' acc fr (fun b o e => k1 b o e (ne_of_none e fr)) k2 k3 k4⟩) (fun e s' he => he) I4 (fun c hcm => ?_) (up _ _ hz) ⟨_, _, up _ _ hTO⟩ (up _ _ hTI) (h1.at fun o e => up _ o e) (h2.at fun o e => up _ o e)
    (sqL_upd hqx na) (sqL_upd hqy nb) upd_same (fun b o e hb => by rw [upd_ne hb]; exact e)
  have e' : c = s1.heap.objs.size + 4 ∨ c = s1.heap.objs.size + 2 ∨ c = s1.heap.objs.size + 3 ∨ c = s1.heap.objs.size ∨ c = s1.heap.objs.size + 1 := by simpa using hcm
  have hle : s1.heap.objs.size ≤ c := by
    rcases e' with z | z | z | z | z
    · rw [z]; exact Nat.le_add_right _ _
    · rw [z]; exact Nat.le_add_right _ _
    · rw [z]; exact Nat.le_add_right _ _
    · rw [z]; exact Nat.le_refl _
    · rw [z]; exact Nat.le_add_right _ _
  have hlt : c < h'.objs.size := by
    rw [hsz]
    rcases e' with z | z | z | z | z <;> rw [z]
    · exact Nat.lt_succ_self _
    · exact Nat.add_lt_add_left (by decide) _
    · exact Nat.add_lt_add_left (by decide) _
    · exact Nat.lt_add_of_pos_right (by decide)
    · exact Nat.add_lt_add_left (by decide) _
  exact I1.fpOk hle (by rw [upd_ne (Nat.ne_of_lt hlt)]; exact I1.hok.fresh hle)
end
end Zq

set_option Elab.async false
set_option linter.all false
set_option maxRecDepth 100000
set_option maxHeartbeats 4000000
/-! # fractions -/
namespace Sc
open PySem PySem.Spec PyProof.Rows L2 Pf
open Sx62 (Frac)
section
variable {P : Program} {w : World} {K : PySem.W.Frag} {mg : Str → Option Value} {base : Heap} {A : Ad}
def FrA (K : PySem.W.Frag) (H : Hp) (v : V) (f : Frac) : Prop := ∃ a, v = .ref a ∧ SqT K H a [.int (f.num : Int), .int (f.den : Int)]
theorem FrA.mono {H H' : Hp} {v : V} {f : Frac} (e : Same H H') (h : FrA K H v f) : FrA K H' v f := by
  obtain ⟨a, rfl, h⟩ := h
  exact ⟨a, rfl, sameT e h⟩
def sp_common (K : PySem.W.Frag) (A : Ad) : Sp := sp2 fun x y H Q _ => ∃ a b : Nat, x = .int a ∧ y = .int b ∧ Q (.int (Nat.gcd a b : Nat)) H
theorem sc_common : FnScope ["one", "other"] ["one", "other"] (defScope s_common) := ⟨rfl, rfl, rfl, by decide +kernel, rfl, by decide +kernel, by decide +kernel⟩
theorem sc_lowest : FnScope ["upper", "lower", "by"] ["upper", "lower"] (defScope s_lowest) := ⟨rfl, rfl, rfl, by decide +kernel, rfl, by decide +kernel, by decide +kernel⟩
theorem sc_plus : FnScope ["one", "other"] ["one", "other"] (defScope s_plus) := ⟨rfl, rfl, rfl, by decide +kernel, rfl, by decide +kernel, by decide +kernel⟩
theorem sc_less : FnScope ["one", "other"] ["one", "other"] (defScope s_less) := ⟨rfl, rfl, rfl, by decide +kernel, rfl, by decide +kernel, by decide +kernel⟩
theorem sc_times : FnScope ["one", "other"] ["one", "other"] (defScope s_times) := ⟨rfl, rfl, rfl, by decide +kernel, rfl, by decide +kernel, by decide +kernel⟩
theorem sc_is_below : FnScope ["one", "other"] ["one", "other"] (defScope s_is_below) := ⟨rfl, rfl, rfl, by decide +kernel, rfl, by decide +kernel, by decide +kernel⟩
theorem sc_total : FnScope ["some", "found", "one"] ["some"] (defScope s_total) := ⟨rfl, rfl, rfl, by decide +kernel, rfl, by decide +kernel, by decide +kernel⟩
theorem ok_common (T : Txt K mg A) : FnOk P w K mg base CX0 1 A.a_common A.d_common ["one", "other"] (sp_common K A) := by
  refine T.F_common.ok sc_common (sp2_len) (fun cdv Ar outer s H vs Q E hr h => ?_)
  refine ⟨_, (pss_cons (ps_while PassesOwn.never (pt_cmpR op_gt (pv 1) pe_int (nomark _)) (pss_one (ps_par (i := 0) (j := 1) rfl sc_common.nd rfl rfl (by decide) rfl rfl (pa_cons (pv 1) (pa_cons (pe_op op_modN (pv 0) (pv 1)) pa_nil)) (by rfl))))
      (pss_one (ps_ret (pv 0)))), ?_⟩
  obtain ⟨x, y, rfl, a, b, rfl, rfl, hq⟩ := h
  refine ⟨fun m σ H' => ∃ a' b' : Nat, σ = [some (.int a'), some (.int b')] ∧ H' = H ∧ Nat.gcd a' b' = Nat.gcd a b ∧ m = b', ⟨b, a, b, rfl, rfl, rfl, rfl⟩, ?_⟩
  rintro m σ H' ⟨a', b', rfl, rfl, hg, rfl⟩
  refine ⟨_, rfl, _, _, rfl, rfl, _, rfl, ?_⟩
  by_cases hb : 0 < m
  · rw [decide_eq_true (by omega : (0 : Int) < (m : Int))]
    refine iteT ⟨_, fun _ _ h => h, ?_⟩
    refine ⟨_, rfl, _, rfl, _, rfl, _, _, rfl, rfl, by omega, _, _, rfl, ?_⟩
    refine ⟨a' % m, Nat.mod_lt _ hb, m, a' % m, ?_, rfl, ?_, rfl⟩
    · have e : Int.fmod (a' : Int) (m : Int) = ((a' % m : Nat) : Int) := by
        rw [Int.fmod_eq_emod_of_nonneg _ (by omega)]
        rfl
      show [some (V.int (m : Int)), some (V.int (Int.fmod (a' : Int) (m : Int)))] = _
      rw [e]
    · rw [← hg, Nat.gcd_comm a' m, Nat.gcd_rec m a', Nat.gcd_comm]
  · have e0 : m = 0 := by omega
    subst e0
    refine iteF ⟨_, rfl, ?_⟩
    have : a' = Nat.gcd a b := by rw [← hg, Nat.gcd_zero_right]
    subst this
    exact hq
/-- a fraction is handed back -/
def RetFr (K : PySem.W.Frag) (H : Hp) (f : Frac) (Q : VK) : Prop := ∀ v H', Same H H' → FrA K H' v f → Q v H'
theorem retFr_new {H : Hp} {f : Frac} {Q : VK} (h : RetFr K H f Q) {p : Addr} (hp : H p = none) {xs : List V} (e : xs = [.int (f.num : Int), .int (f.den : Int)]) : Q (.ref p) (upd H p (.tup xs)) :=
  h _ _ (same_new hp) ⟨p, rfl, by rw [← e]; exact SqT.of upd_same⟩
def sp_lowest (K : PySem.W.Frag) (A : Ad) : Sp := sp2 fun x y H Q _ => ∃ a b : Nat, x = .int a ∧ y = .int b ∧ 0 < b ∧ b < 2 ^ 200 ∧ RetFr K H (Sx62.lowest a b) Q
def sp_plus (K : PySem.W.Frag) (A : Ad) : Sp := sp2 fun x y H Q _ => ∃ f g : Frac, FrA K H x f ∧ FrA K H y g ∧ Sm f ∧ Sm g ∧ RetFr K H (f.plus g) Q
def sp_times (K : PySem.W.Frag) (A : Ad) : Sp := sp2 fun x y H Q _ => ∃ f g : Frac, FrA K H x f ∧ FrA K H y g ∧ Sm f ∧ Sm g ∧ RetFr K H (mul f g) Q
/-- f less g, where g isn't above f -/
def lessF (f g : Frac) : Frac := Sx62.lowest (f.num * g.den - g.num * f.den) (f.den * g.den)
def sp_less (K : PySem.W.Frag) (A : Ad) : Sp := sp2 fun x y H Q _ => ∃ f g : Frac, FrA K H x f ∧ FrA K H y g ∧ Sm f ∧ Sm g ∧ g.num * f.den ≤ f.num * g.den ∧ RetFr K H (lessF f g) Q
def sp_is_below (K : PySem.W.Frag) (A : Ad) : Sp := sp2 fun x y H Q _ => ∃ f g : Frac, FrA K H x f ∧ FrA K H y g ∧ Sm f ∧ Sm g ∧ Q (.bl (Sx62.less f g)) H
theorem cm {a : Nat} {j : Int} (h : a < 2 ^ 63) : CMul (a : Int) j := .inl ⟨by omega, by omega⟩
theorem cdw {j : Nat} {i : Int} (h : 0 < j) (h2 : j < 2 ^ 200) : CDivW i (j : Int) := wide_div (b := 200) (by omega) (by simpa using h2) (by decide) (by decide)
theorem ok_lowest (T : Txt K mg A) : FnOk P w K mg base CX0 2 A.a_lowest A.d_lowest ["upper", "lower"] (sp_lowest K A) := by
  have G_common := ok_common (P := P) (w := w) (base := base) T
  refine T.F_lowest.ok sc_lowest (sp2_len) (fun cdv Ar outer s H vs Q E hr h => ?_)
  refine ⟨_, (pss_cons (ps_set (i := 2) sc_lowest.nd rfl (Or.inl rfl) (pe_call G_common (hr.mono (by decide)) rfl T.g_common T.F_common.kp T.b_common .nil pass0 (pa_cons (pv 0) (pa_cons (pv 1) pa_nil))))
      (pss_one (ps_ret (pe_tup (pa_cons (pe_op op_fdivW (pv 0) (pv 2)) (pa_cons (pe_op op_fdivW (pv 1) (pv 2)) pa_nil)))))), ?_⟩
  obtain ⟨x, y, rfl, a, b, rfl, rfl, hb, hb2, hq⟩ := h
  have g0 := gcd_pos (a := a) hb
  have g1 : Nat.gcd a b < 2 ^ 200 := Nat.lt_of_le_of_lt (Nat.gcd_le_right a hb) hb2
  refine ⟨_, rfl, _, rfl, _, _, rfl, a, b, rfl, rfl, ?_⟩
  refine ⟨_, rfl, _, rfl, _, _, rfl, rfl, cdw g0 g1, _, rfl, _, rfl, _, _, rfl, rfl, cdw g0 g1, by show 2 ≤ sizeLine; decide, fun p hp => ?_⟩
  exact retFr_new hq hp rfl
theorem ok_plus (T : Txt K mg A) : FnOk P w K mg base CX0 3 A.a_plus A.d_plus ["one", "other"] (sp_plus K A) := by
  have G_lowest := ok_lowest (P := P) (w := w) (base := base) T
  refine T.F_plus.ok sc_plus (sp2_len) (fun cdv Ar outer s H vs Q E hr h => ?_)
  refine ⟨_, (pss_one (ps_ret (pe_call G_lowest (hr.mono (by decide)) rfl T.g_lowest T.F_lowest.kp T.b_lowest .nil pass0 (pa_cons (pe_op op_add (pe_op op_mul (pe_ix ix_tup (pv 0) pe_int (fun _ _ => rfl)) (pe_ix ix_tup (pv 1) pe_int (fun _ _ => rfl))) (pe_op op_mul (pe_ix ix_tup (pv 1) pe_int (fun _ _ => rfl)) (pe_ix ix_tup (pv 0) pe_int (fun _ _ => rfl)))) (pa_cons (pe_op op_mul (pe_ix ix_tup (pv 0) pe_int (fun _ _ => rfl)) (pe_ix ix_tup (pv 1) pe_int (fun _ _ => rfl))) pa_nil))))), ?_⟩
  obtain ⟨x, y, rfl, f, g, ⟨a, rfl, ha⟩, ⟨b, rfl, hb⟩, sf, sg, hq⟩ := h
  refine ⟨_, rfl, a, _, 0, _, rfl, rfl, ha, rfl, _, rfl, b, _, 1, _, rfl, rfl, hb, rfl, _, _, rfl, rfl, cm sf.num, ?_⟩
  refine ⟨_, rfl, b, _, 0, _, rfl, rfl, hb, rfl, _, rfl, a, _, 1, _, rfl, rfl, ha, rfl, _, _, rfl, rfl, cm sg.num, _, _, rfl, rfl, ?_⟩
  refine ⟨_, rfl, a, _, 1, _, rfl, rfl, ha, rfl, _, rfl, b, _, 1, _, rfl, rfl, hb, rfl, _, _, rfl, rfl, cm sf.den, ?_⟩
  refine ⟨_, _, rfl, f.num * g.den + g.num * f.den, f.den * g.den, ?_, ?_, Nat.mul_pos sf.pos sg.pos, ?_, hq⟩
  · rw [Int.natCast_add, Int.natCast_mul, Int.natCast_mul]
  · rw [Int.natCast_mul]
  · exact Nat.lt_of_lt_of_le (Nat.mul_lt_mul'' sf.den sg.den) (by decide)
theorem ok_times (T : Txt K mg A) : FnOk P w K mg base CX0 3 A.a_times A.d_times ["one", "other"] (sp_times K A) := by
  have G_lowest := ok_lowest (P := P) (w := w) (base := base) T
  refine T.F_times.ok sc_times (sp2_len) (fun cdv Ar outer s H vs Q E hr h => ?_)
  refine ⟨_, (pss_one (ps_ret (pe_call G_lowest (hr.mono (by decide)) rfl T.g_lowest T.F_lowest.kp T.b_lowest .nil pass0 (pa_cons (pe_op op_mul (pe_ix ix_tup (pv 0) pe_int (fun _ _ => rfl)) (pe_ix ix_tup (pv 1) pe_int (fun _ _ => rfl))) (pa_cons (pe_op op_mul (pe_ix ix_tup (pv 0) pe_int (fun _ _ => rfl)) (pe_ix ix_tup (pv 1) pe_int (fun _ _ => rfl))) pa_nil))))), ?_⟩
  obtain ⟨x, y, rfl, f, g, ⟨a, rfl, ha⟩, ⟨b, rfl, hb⟩, sf, sg, hq⟩ := h
  refine ⟨_, rfl, a, _, 0, _, rfl, rfl, ha, rfl, _, rfl, b, _, 0, _, rfl, rfl, hb, rfl, _, _, rfl, rfl, cm sf.num, ?_⟩
  refine ⟨_, rfl, a, _, 1, _, rfl, rfl, ha, rfl, _, rfl, b, _, 1, _, rfl, rfl, hb, rfl, _, _, rfl, rfl, cm sf.den, ?_⟩
  refine ⟨_, _, rfl, f.num * g.num, f.den * g.den, ?_, ?_, Nat.mul_pos sf.pos sg.pos, ?_, hq⟩
  · rw [Int.natCast_mul]
  · rw [Int.natCast_mul]
  · exact Nat.lt_of_lt_of_le (Nat.mul_lt_mul'' sf.den sg.den) (by decide)
theorem ok_less (T : Txt K mg A) : FnOk P w K mg base CX0 3 A.a_less A.d_less ["one", "other"] (sp_less K A) := by
  have G_lowest := ok_lowest (P := P) (w := w) (base := base) T
  refine T.F_less.ok sc_less (sp2_len) (fun cdv Ar outer s H vs Q E hr h => ?_)
  refine ⟨_, (pss_one (ps_ret (pe_call G_lowest (hr.mono (by decide)) rfl T.g_lowest T.F_lowest.kp T.b_lowest .nil pass0 (pa_cons (pe_op op_sub (pe_op op_mul (pe_ix ix_tup (pv 0) pe_int (fun _ _ => rfl)) (pe_ix ix_tup (pv 1) pe_int (fun _ _ => rfl))) (pe_op op_mul (pe_ix ix_tup (pv 1) pe_int (fun _ _ => rfl)) (pe_ix ix_tup (pv 0) pe_int (fun _ _ => rfl)))) (pa_cons (pe_op op_mul (pe_ix ix_tup (pv 0) pe_int (fun _ _ => rfl)) (pe_ix ix_tup (pv 1) pe_int (fun _ _ => rfl))) pa_nil))))), ?_⟩
  obtain ⟨x, y, rfl, f, g, ⟨a, rfl, ha⟩, ⟨b, rfl, hb⟩, sf, sg, hle, hq⟩ := h
  refine ⟨_, rfl, a, _, 0, _, rfl, rfl, ha, rfl, _, rfl, b, _, 1, _, rfl, rfl, hb, rfl, _, _, rfl, rfl, cm sf.num, ?_⟩
  refine ⟨_, rfl, b, _, 0, _, rfl, rfl, hb, rfl, _, rfl, a, _, 1, _, rfl, rfl, ha, rfl, _, _, rfl, rfl, cm sg.num, _, _, rfl, rfl, ?_⟩
  refine ⟨_, rfl, a, _, 1, _, rfl, rfl, ha, rfl, _, rfl, b, _, 1, _, rfl, rfl, hb, rfl, _, _, rfl, rfl, cm sf.den, ?_⟩
  refine ⟨_, _, rfl, f.num * g.den - g.num * f.den, f.den * g.den, ?_, ?_, Nat.mul_pos sf.pos sg.pos, ?_, hq⟩
  · rw [Int.ofNat_sub hle, Int.natCast_mul, Int.natCast_mul]
  · rw [Int.natCast_mul]
  · exact Nat.lt_of_lt_of_le (Nat.mul_lt_mul'' sf.den sg.den) (by decide)
theorem ok_is_below (T : Txt K mg A) : FnOk P w K mg base CX0 1 A.a_is_below A.d_is_below ["one", "other"] (sp_is_below K A) := by
  refine T.F_is_below.ok sc_is_below (sp2_len) (fun cdv Ar outer s H vs Q E hr h => ?_)
  refine ⟨_, (pss_one (ps_ret (pe_cmpR op_lt (pe_op op_mul (pe_ix ix_tup (pv 0) pe_int (fun _ _ => rfl)) (pe_ix ix_tup (pv 1) pe_int (fun _ _ => rfl))) (pe_op op_mul (pe_ix ix_tup (pv 1) pe_int (fun _ _ => rfl)) (pe_ix ix_tup (pv 0) pe_int (fun _ _ => rfl))) (nomark _)))), ?_⟩
  obtain ⟨x, y, rfl, f, g, ⟨a, rfl, ha⟩, ⟨b, rfl, hb⟩, sf, sg, hq⟩ := h
  refine ⟨_, rfl, a, _, 0, _, rfl, rfl, ha, rfl, _, rfl, b, _, 1, _, rfl, rfl, hb, rfl, _, _, rfl, rfl, cm sf.num, ?_⟩
  refine ⟨_, rfl, b, _, 0, _, rfl, rfl, hb, rfl, _, rfl, a, _, 1, _, rfl, rfl, ha, rfl, _, _, rfl, rfl, cm sg.num, _, _, rfl, rfl, ?_⟩
  have e : decide ((f.num : Int) * (g.den : Int) < (g.num : Int) * (f.den : Int)) = Sx62.less f g := by
    unfold Sx62.less
    rw [← Int.natCast_mul, ← Int.natCast_mul]
    exact decide_eq_decide.mpr (by omega)
  show Q (.bl (decide ((f.num : Int) * (g.den : Int) < (g.num : Int) * (f.den : Int)))) H
  rw [e]
  exact hq
/-- values that stand for fractions -/
def FrsA (K : PySem.W.Frag) (H : Hp) (vs : List V) (fs : List Frac) : Prop := Paired (FrA K H) vs fs
theorem paired_get {α β : Type} {R : α → β → Prop} : ∀ {xs : List α} {ys : List β} {i : Nat} {x : α}, Paired R xs ys → xs[i]? = some x → ∃ y, ys[i]? = some y ∧ R x y
  | _, _, _, _, .nil, e => by simp at e
  | _, _, 0, _, .cons r _, e => by simp at e; subst e; exact ⟨_, rfl, r⟩
  | _, _, i + 1, x, .cons _ t, e => by
    obtain ⟨u, h1, h2⟩ := paired_get (i := i) (x := x) t (by simpa using e)
    exact ⟨u, by simpa using h1, h2⟩
theorem take_more {α : Type} : ∀ {l : List α} {i : Nat} {x : α}, l[i]? = some x → l.take (i + 1) = l.take i ++ [x]
  | [], i, x, h => by simp at h
  | a :: l, 0, x, h => by
    have e : a = x := Option.some.inj h
    subst e
    rfl
  | a :: l, i + 1, x, h => by
    have ih := take_more (l := l) (i := i) (x := x) h
    show a :: l.take (i + 1) = a :: l.take i ++ [x]
    rw [ih]
    rfl
def sp_total (K : PySem.W.Frag) (A : Ad) : Sp := sp1 fun x H Q _ => ∃ (a : Addr) (vs : List V) (fs : List Frac), x = .ref a ∧ SqL K H a vs ∧ FrsA K H vs fs ∧ (∀ f ∈ fs, FG 200 f) ∧ fs.length ≤ 2000 ∧ RetFr K H (Sx62.sum fs) Q
theorem fg_take {fs : List Frac} (h : ∀ f ∈ fs, FG 200 f) (hl : fs.length ≤ 2000) (i : Nat) : Sm (Sx62.sum (fs.take i)) := by
  have := fg_sum (l := fs.take i) fun f hf => h f (List.mem_of_mem_take hf)
  refine this.sm ?_
  rw [List.length_take]
  omega
theorem ok_total (T : Txt K mg A) : FnOk P w K mg base CX0 4 A.a_total A.d_total ["some"] (sp_total K A) := by
  have G_plus := ok_plus (P := P) (w := w) (base := base) T
  refine T.F_total.ok sc_total (sp1_len) (fun cdv Ar outer s H vs Q E hr h => ?_)
  refine ⟨_, (pss_cons (ps_set (i := 1) sc_total.nd rfl (Or.inl rfl) (pe_gR T.c_NOUGHT))
      (pss_cons (ps_for PassesOwn.never rfl (pi_list (pv 0)) (pg_name (i := 2) sc_total.nd rfl (Or.inl rfl)) (pss_one (ps_set (i := 1) sc_total.nd rfl (Or.inl rfl) (pe_call G_plus (hr.mono (by decide)) rfl T.g_plus T.F_plus.kp T.b_plus .nil pass0 (pa_cons (pv 1) (pa_cons (pv 2) pa_nil))))))
      (pss_one (ps_ret (pv 1))))), ?_⟩
  obtain ⟨x, rfl, a, vs, fs, rfl, ha, hv, hf, hl, hq⟩ := h
  refine ⟨_, rfl, a, rfl, ⟨_, ha⟩, for_list (K := K) (a := a) (xs := vs) (fun i σ H' => ∃ (v : V) (u : Option V), σ = [some (.ref a), some v, u] ∧ Same H H' ∧ FrA K H' v (Sx62.sum (fs.take i))) ⟨_, none, rfl, Same.refl _, _, rfl, T.q_NOUGHT.sq⟩ (fun i σ H' _ ⟨_, _, _, s5, _⟩ => s5.seq ha) ?_ ?_⟩
  · rintro i y σ H' hi ⟨v, u, rfl, s5, hF⟩
    obtain ⟨f, hfi, hy⟩ := paired_get hv hi
    refine ⟨_, rfl, _, rfl, _, _, rfl, Sx62.sum (fs.take i), f, hF, hy.mono s5, fg_take hf hl i, (hf f (List.mem_of_getElem? hfi)).sm (by decide), fun v2 H2 s2 hF2 => ?_⟩
    refine ⟨v2, some y, rfl, s5.trans s2, ?_⟩
    have e : Sx62.sum (fs.take (i + 1)) = (Sx62.sum (fs.take i)).plus f := by
      rw [take_more hfi]
      unfold Sx62.sum
      rw [List.foldl_append]
      rfl
    rw [e]
    exact hF2
  · rintro σ H' ⟨v, u, rfl, s5, hF⟩
    refine ⟨_, rfl, ?_⟩
    have e : fs.take vs.length = fs := by rw [hv.length, List.take_length]
    rw [e] at hF
    exact hq v H' s5 hF
end
end Sc

set_option Elab.async false
set_option linter.all false
set_option maxRecDepth 100000
set_option maxHeartbeats 4000000
/-! # the words of a text -/
namespace Sc
open PySem PySem.Spec PyProof.Rows L2 Pf

/-! ### texts as lists of codes -/
def S (l : List Nat) : Str := ⟨l.toArray⟩
theorem S_len (l : List Nat) : (S l).length = l.length := by show l.toArray.size = l.length; simp
theorem S_app (a b : List Nat) : S a ++ S b = S (a ++ b) := by
  show (⟨a.toArray ++ b.toArray⟩ : Str) = ⟨(a ++ b).toArray⟩
  simp
theorem S_inj {a b : List Nat} : S a = S b ↔ a = b := by
  constructor
  · intro h
    have e : a.toArray = b.toArray := congrArg Str.cps h
    simpa using e
  · intro h; rw [h]
theorem S_list (l : List Nat) : (S l).cps.toList = l := rfl
theorem S_tl (l : List Nat) : TL.tl (S l) = l := rfl
theorem decS {a b : List Nat} : decide (V.str (S a) = V.str (S b)) = decide (a = b) := by
  apply decide_eq_decide.mpr
  rw [V.str.injEq, S_inj]
theorem decN {a k : Nat} {j : Int} (hk : j = (k : Int)) : decide (V.int (a : Int) = V.int j) = decide (a = k) := by
  apply decide_eq_decide.mpr
  rw [V.int.injEq, hk]
  omega
theorem iteB {c : Bool} {A B : Prop} (h1 : c = true → A) (h2 : c = false → B) : if c = true then A else B := by
  cases c with
  | true => rw [if_pos rfl]; exact h1 rfl
  | false => rw [if_neg Bool.false_ne_true]; exact h2 rfl
theorem ite_t {c : Bool} {A B : Prop} (hc : c = true) (h : A) : if c = true then A else B := by rw [if_pos hc]; exact h
theorem ite_f {c : Bool} {A B : Prop} (hc : c = false) (h : B) : if c = true then A else B := by rw [hc, if_neg Bool.false_ne_true]; exact h
theorem cut_from (w : List Nat) (k : Nat) (hk : k ≤ w.length) : cutS (S w) (some (k : Int)) none = S (w.drop k) := by
  unfold cutS
  rw [HT.sIx_nat, HT.sIx_none, S_len, S_list, Nat.min_eq_left hk]
  show S _ = S _
  rw [S_inj, List.take_of_length_le (by simp)]
theorem cut_one (w : List Nat) : cutS (S w) (some 1) none = S (w.drop 1) := by
  cases w with
  | nil => rfl
  | cons c l => exact cut_from (c :: l) 1 (by simp)
theorem cut_to (w : List Nat) : cutS (S w) none (some 1) = S (w.take 1) := by
  unfold cutS
  have e : HT.sIx (S w).length (S w).length (some 1) = min 1 w.length := by
    rw [S_len]; exact HT.sIx_nat _ _ 1
  rw [HT.sIx_none, e, S_list]
  show S _ = S _
  rw [S_inj, List.drop_zero, Nat.sub_zero]
  cases w with
  | nil => rfl
  | cons c l =>
    rw [Nat.min_eq_left (by simp)]
theorem cut_mid (w : List Nat) (n : Int) (hn : 1 ≤ n) (hl : n ≤ w.length) : cutS (S w) (some 1) (some n) = S ((w.drop 1).take (n.toNat - 1)) := by
  obtain ⟨k, rfl⟩ := Int.eq_ofNat_of_zero_le (show 0 ≤ n by omega)
  unfold cutS
  have e1 : HT.sIx (S w).length 0 (some 1) = 1 := by
    rw [S_len]
    have := HT.sIx_nat w.length 0 1
    rw [Nat.min_eq_left (by omega)] at this
    exact this
  have e2 : HT.sIx (S w).length (S w).length (some (k : Int)) = k := by
    rw [S_len, HT.sIx_nat, Nat.min_eq_left (by omega)]
  rw [e1, e2, S_list]
  rfl
theorem cut_inner (w : List Nat) (hl : 2 ≤ w.length) : cutS (S w) (some 1) (some (-1)) = S ((w.drop 1).take (w.length - 2)) := by
  unfold cutS
  have e1 : HT.sIx (S w).length 0 (some 1) = 1 := by
    rw [S_len]
    have := HT.sIx_nat w.length 0 1
    rw [Nat.min_eq_left (by omega)] at this
    exact this
  have e2 : HT.sIx (S w).length (S w).length (some (-1)) = w.length - 1 := by
    rw [S_len]
    show (if (-1 : Int) < 0 then ((-1 : Int) + (w.length : Int)).toNat else min (-1 : Int).toNat w.length) = _
    rw [if_pos (by decide)]
    omega
  rw [e1, e2, S_list]
  rfl
theorem empty_S : Str.ofString "" = S [] := by decide +kernel
theorem ans_or2 {t u : TT} {σ : L2.St} {H : Hp} {b1 b2 : Bool} (h1 : ∀ Q : Bool → Hp → Prop, Q b1 H → t σ H Q) (h2 : ∀ Q : Bool → Hp → Prop, Q b2 H → u σ H Q) (Q : Bool → Hp → Prop) (q : Q (b1 || b2) H) : tOr t u σ H Q := by
  refine h1 _ ?_
  cases b1 with
  | true => exact q
  | false => exact h2 Q q
theorem ans_and2 {t u : TT} {σ : L2.St} {H : Hp} {b1 b2 : Bool} (h1 : ∀ Q : Bool → Hp → Prop, Q b1 H → t σ H Q) (h2 : ∀ Q : Bool → Hp → Prop, Q b2 H → u σ H Q) (Q : Bool → Hp → Prop) (q : Q (b1 && b2) H) : tAnd t u σ H Q := by
  refine h1 _ ?_
  cases b1 with
  | true => exact h2 Q q
  | false => exact q
/-- whole numbers -/
def nvs (l : List Nat) : List V := l.map fun n : Nat => V.int (n : Int)
theorem nvs_get {l : List Nat} {i : Nat} {y : V} (h : (nvs l)[i]? = some y) : ∃ n, l[i]? = some n ∧ y = .int (n : Int) := by
  unfold nvs at h
  rw [List.getElem?_map] at h
  cases e : l[i]? with
  | none => rw [e] at h; cases h
  | some n => rw [e] at h; exact ⟨n, rfl, (Option.some.inj h).symm⟩
theorem nvs_len (l : List Nat) : (nvs l).length = l.length := List.length_map ..
section
variable {P : Program} {w : World} {K : PySem.W.Frag} {mg : Str → Option Value} {base : Heap} {A : Ad}
theorem sc_bad_byte : FnScope ["text", "place", "byte"] ["text"] (defScope s_bad_byte) := ⟨rfl, rfl, rfl, by decide +kernel, rfl, by decide +kernel, by decide +kernel⟩
theorem sc_words_of : FnScope ["text", "found", "word", "place", "byte"] ["text"] (defScope s_words_of) := ⟨rfl, rfl, rfl, by decide +kernel, rfl, by decide +kernel, by decide +kernel⟩
def natOr (o : Option Nat) : V := match o with
  | some n => .int (n : Int)
  | none => .non
def sp_bad_byte (K : PySem.W.Frag) (A : Ad) : Sp := sp1 fun x H Q _ => ∃ (a : Addr) (bs : List Nat), x = .ref a ∧ SqL K H a (nvs bs) ∧ ∀ H', Same H H' → Q (natOr (bs.findIdx? fun c => !Sx62.okByte c)) H'
theorem okByte_f {c : Nat} : Sx62.okByte c = true ↔ c = 10 ∨ (32 ≤ c ∧ c ≤ 126) := by
  unfold Sx62.okByte
  simp
theorem ok_bad_byte (T : Txt K mg A) : FnOk P w K mg base CX0 1 A.a_bad_byte A.d_bad_byte ["text"] (sp_bad_byte K A) := by
  refine T.F_bad_byte.ok sc_bad_byte (sp1_len) (fun cdv Ar outer s H vs Q E hr h => ?_)
  refine ⟨_, (pss_cons (ps_for PassesOwn.never rfl (pi_enum (by rfl) T.z_enumerate (pa_cons (pv 0) pa_nil)) (pg_tup (n := 2) rfl (pgs_cons (pg_name (i := 1) sc_bad_byte.nd rfl (Or.inl rfl)) (pgs_cons (pg_name (i := 2) sc_bad_byte.nd rfl (Or.inl rfl)) pgs_nil))) (pss_one (ps_if (PW.pt (pw_and (pt_cmpR op_ne (pv 2) (pe_gI T.c_LINE_END) (nomark _)) (pw_and1 (PW.pt (pw_or (pt_cmpR op_lt (pv 2) (pe_gI T.c_BLANK) (nomark _)) (pw_or1 (pt_cmpR op_gt (pv 2) (pe_gI T.c_LAST_SIGN) (nomark _)))))))) (pss_one (ps_ret (pv 1))) pss_nil)))
      (pss_one (ps_ret pe_non))), ?_⟩
  obtain ⟨x, rfl, a, bs, rfl, ha, hq⟩ := h
  refine ⟨_, rfl, a, _, rfl, ha, for_it (walk_enum (K := K) (a := a) (xs := nvs bs)) (fun i σ H' => ∃ u v : Option V, σ = [some (.ref a), u, v] ∧ Same H H' ∧ ∀ (j : Nat) c, j < i → bs[j]? = some c → Sx62.okByte c = true) ⟨none, none, rfl, Same.refl _, fun j c hj => absurd hj (Nat.not_lt_zero _)⟩ (fun i σ H' _ ⟨_, _, _, s5, _⟩ => s5.seq ha) ?_ ?_⟩
  · rintro i y σ H1 H2 hi ⟨u, v, rfl, s5, ok⟩ ⟨t, x1, y1, rfl, nt, rfl, e1, e2⟩
    cases e1
    obtain ⟨c, hc, rfl⟩ := nvs_get e2
    have s6 := s5.trans (same_new (o := .tup [.int (i : Nat), .int (c : Int)]) nt)
    refine ⟨t, _, rfl, SqT.of upd_same, rfl, _, _, rfl, _, _, rfl, rfl, ?_⟩
    have found : Sx62.okByte c = false → Q (.int (i : Int)) (upd H1 t (.tup [.int (i : Nat), .int (c : Int)])) := fun hb => by
      have e : bs.findIdx? (fun c => !Sx62.okByte c) = some i := by
        obtain ⟨hlt, hg⟩ := List.getElem?_eq_some_iff.mp hc
        refine List.findIdx?_eq_some_iff_getElem.mpr ⟨hlt, by rw [hg, hb]; rfl, fun j hj => ?_⟩
        have := ok j _ hj (List.getElem?_eq_getElem (Nat.lt_trans hj hlt))
        rw [this]; decide
      have := hq _ s6
      rw [e] at this
      exact this
    have on : Sx62.okByte c = true → ∃ u v : Option V, [some (V.ref a), some (.int (i : Int)), some (.int (c : Int))] = [some (.ref a), u, v] ∧ Same H (upd H1 t (.tup [.int (i : Nat), .int (c : Int)])) ∧ ∀ (j : Nat) c', j < i + 1 → bs[j]? = some c' → Sx62.okByte c' = true := fun hb =>
      ⟨_, _, rfl, s6, fun j c' hj hc' => by
        by_cases hji : j = i
        · subst hji; rw [hc] at hc'; cases hc'; exact hb
        · exact ok j c' (by omega) hc'⟩
    refine ⟨_, rfl, rfl, _, rfl, iteB (fun h10 => ?_) (fun h10 => ?_)⟩
    · rw [decN (j := 10) (k := 10) rfl] at h10
      have n10 : c ≠ 10 := by simpa using h10
      refine ⟨_, rfl, _, _, rfl, rfl, _, rfl, iteB (fun h32 => ?_) (fun h32 => ?_)⟩
      · have : c < 32 := by simp at h32; omega
        refine ite_t rfl ⟨_, rfl, found ?_⟩
        cases z : Sx62.okByte c with
        | false => rfl
        | true => have := okByte_f.mp z; omega
      · have h32' : 32 ≤ c := by simp at h32; omega
        refine ⟨_, rfl, _, _, rfl, rfl, _, rfl, iteB (fun h126 => ?_) (fun h126 => ?_)⟩
        · have : 126 < c := by simp at h126; omega
          refine ⟨_, rfl, found ?_⟩
          cases z : Sx62.okByte c with
          | false => rfl
          | true => have := okByte_f.mp z; omega
        · have : c ≤ 126 := by simp at h126; omega
          exact on (okByte_f.mpr (.inr ⟨h32', this⟩))
    · rw [decN (j := 10) (k := 10) rfl] at h10
      have e10 : c = 10 := by simpa using h10
      exact ite_f rfl (on (okByte_f.mpr (.inl e10)))
  · rintro σ H1 ⟨u, v, rfl, s5, ok⟩
    have e : bs.findIdx? (fun c => !Sx62.okByte c) = none := by
      rw [List.findIdx?_eq_none_iff]
      intro c hc
      obtain ⟨j, hj⟩ := List.mem_iff_getElem?.mp hc
      rw [ok j c (by rw [nvs_len]; exact (List.getElem?_eq_some_iff.mp hj).1) hj]
      rfl
    have := hq _ s5
    rw [e] at this
    exact this

/-! ### the words -/
/-- what the program reads of a byte that may stand -/
def signStr : Str := Str.ofString " !\"#$!&'()*+,-./0123456789:;<=>?@ABCDEFGHIJKLMNOPQRSTUVWXYZ[\\]^_`abcdefghijklmnopqrstuvwxyz{|}~"
theorem signs_eq : signStr = S ((List.range 95).map fun i => sg (i + 32)) := by decide +kernel
theorem sign_at {c : Nat} (h1 : 32 ≤ c) (h2 : c ≤ 126) : atI signStr.cps.toList ((c : Int) - 32) = some (sg c) := by
  rw [signs_eq, S_list]
  have e : ((c : Int) - 32) = ((c - 32 : Nat) : Int) := by omega
  rw [e]
  refine atI_nat ?_
  rw [List.getElem?_map, List.getElem?_range (by omega), Option.map_some]
  congr 2
  omega
/-- a word as it stands in the reader's list -/
def WdA (K : PySem.W.Frag) (H : Hp) (v : V) (x : Sx62.Word) : Prop := ∃ a, v = .ref a ∧ SqT K H a [.str (S x.text), .int (x.place : Int)]
theorem WdA.mono {H H' : Hp} {v : V} {x : Sx62.Word} (e : Same H H') (h : WdA K H v x) : WdA K H' v x := by
  obtain ⟨a, rfl, h⟩ := h
  exact ⟨a, rfl, sameT e h⟩
def WdsA (K : PySem.W.Frag) (H : Hp) (vs : List V) (xs : List Sx62.Word) : Prop := Paired (WdA K H) vs xs
theorem pairedMono {α β : Type} {R R' : α → β → Prop} (h : ∀ a b, R a b → R' a b) {xs : List α} {ys : List β} (p : Paired R xs ys) : Paired R' xs ys := Paired.mapP p h
theorem pairedApp {α β : Type} {R : α → β → Prop} : ∀ {xs xs' : List α} {ys ys' : List β}, Paired R xs ys → Paired R xs' ys' → Paired R (xs ++ xs') (ys ++ ys')
  | _, _, _, _, .nil, s => s
  | _, _, _, _, .cons r t, s => .cons r (pairedApp t s)
theorem wordsFrom_cons (i s : Nat) (w : List Nat) (c : Nat) (t : List Nat) : Sx62.wordsFrom i s w (c :: t) = if c = 32 ∨ c = 10 then (if w = [] then [] else [⟨s, w.reverse⟩]) ++ Sx62.wordsFrom (i + 1) (i + 1) [] t else Sx62.wordsFrom (i + 1) s (c :: w) t := rfl
theorem wordsFrom_nil (i s : Nat) (w : List Nat) : Sx62.wordsFrom i s w [] = if w = [] then [] else [⟨s, w.reverse⟩] := rfl
/-- words are no more than bytes, and no longer together -/
theorem words_bound : ∀ (t : List Nat) (i s : Nat) (w : List Nat), (Sx62.wordsFrom i s w t).length ≤ t.length + (if w = [] then 0 else 1) ∧ ((Sx62.wordsFrom i s w t).map fun x => x.text.length).sum ≤ t.length + w.length ∧ ∀ x ∈ Sx62.wordsFrom i s w t, x.text ≠ []
  | [], i, s, w => by
    rw [wordsFrom_nil]
    by_cases hw : w = []
    · rw [if_pos hw]; simp
    · rw [if_neg hw]
      simp [hw]
  | c :: t, i, s, w => by
    rw [wordsFrom_cons]
    by_cases hc : c = 32 ∨ c = 10
    · rw [if_pos hc]
      obtain ⟨h1, h2, h3⟩ := words_bound t (i + 1) (i + 1) []
      by_cases hw : w = []
      · rw [if_pos hw, hw]
        simp only [if_true, List.nil_append, List.length_cons, List.length_nil] at h1 h2 ⊢
        exact ⟨by omega, by omega, h3⟩
      · rw [if_neg hw, if_neg hw]
        simp only [if_true, List.length_cons, List.length_nil, List.length_append, List.map_append, List.map_cons, List.map_nil, List.sum_append, List.sum_cons, List.sum_nil, List.length_reverse] at h1 h2 ⊢
        refine ⟨by omega, by omega, fun x hx => ?_⟩
        rcases List.mem_append.mp hx with hx | hx
        · have : x = ⟨s, w.reverse⟩ := by simpa using hx
          rw [this]
          simpa using hw
        · exact h3 x hx
    · rw [if_neg hc]
      obtain ⟨h1, h2, h3⟩ := words_bound t (i + 1) s (c :: w)
      simp only [List.length_cons, reduceCtorEq, if_false] at h1 h2 ⊢
      refine ⟨by split <;> omega, by omega, h3⟩
def sp_words_of (K : PySem.W.Frag) (A : Ad) : Sp := sp1 fun x H Q _ => ∃ (a : Addr) (bs : List Nat), x = .ref a ∧ H a = some (.lst (nvs bs)) ∧ bs.length ≤ 2000 ∧ (∀ c ∈ bs, Sx62.okByte c = true) ∧
  ∀ p H' vs, H p = none → Same H H' → H' p = some (.lst vs) → WdsA K H' vs ((Sx62.words bs).map sgW) → Q (.ref p) H'
theorem ok_words_of (T : Txt K mg A) : FnOk P w K mg base CX0 1 A.a_words_of A.d_words_of ["text"] (sp_words_of K A) := by
  refine T.F_words_of.ok sc_words_of (sp1_len) (fun cdv Ar outer s H vs Q E hr h => ?_)
  refine ⟨_, (pss_cons (ps_set (i := 1) sc_words_of.nd rfl (Or.inl rfl) (pe_lst pa_nil))
      (pss_cons (ps_set (i := 2) sc_words_of.nd rfl (Or.inl rfl) pe_str)
      (pss_cons (ps_for PassesOwn.never rfl (pi_enum (by rfl) T.z_enumerate (pa_cons (pe_op op_cat (pv 0) (pe_lst (pa_cons (pe_gI T.c_BLANK) pa_nil))) pa_nil)) (pg_tup (n := 2) rfl (pgs_cons (pg_name (i := 3) sc_words_of.nd rfl (Or.inl rfl)) (pgs_cons (pg_name (i := 4) sc_words_of.nd rfl (Or.inl rfl)) pgs_nil))) (pss_one (ps_if (PW.pt (pw_or (pt_cmpR op_eq (pv 4) (pe_gI T.c_LINE_END) (nomark _)) (pw_or1 (pt_cmpR op_eq (pv 4) (pe_gI T.c_BLANK) (nomark _))))) (pss_cons (ps_if (pt_cmpR op_ne (pv 2) pe_str (nomark _)) (pss_one (ps_expr (pe_bm PySem.F.plainAttrs_list PySem.F.slot_list_append PySem.F.type_list_append mt_append (pv 1) (pa_cons (pe_tup (pa_cons (pv 2) (pa_cons (pe_op op_sub (pv 3) (pe_callB call_len_str (by rfl) T.z_len PySem.boot_len (pa_cons (pv 2) pa_nil))) pa_nil))) pa_nil)))) pss_nil)
      (pss_one (ps_set (i := 2) sc_words_of.nd rfl (Or.inl rfl) pe_str))) (pss_one (ps_set (i := 2) sc_words_of.nd rfl (Or.inl rfl) (pe_op op_add_str (pv 2) (pe_ix ix_str (pe_gS T.c_SIGNS) (pe_op op_sub (pv 4) (pe_gI T.c_BLANK)) (fun _ _ => rfl))))))))
      (pss_one (ps_ret (pv 1)))))), ?_⟩
  obtain ⟨x, rfl, a, bs, rfl, ha, hl, hok, hq⟩ := h
  -- found = []; word = ''
  refine ⟨by show 0 ≤ sizeLine; decide, fun f nf => ?_⟩
  have sf : Same H (upd H f (.lst [])) := same_new nf
  have naf : a ≠ f := ne_of_none ha nf
  -- text + [BLANK]
  refine ⟨_, rfl, by show 1 ≤ sizeLine; decide, fun b nb => ?_⟩
  have nb0 : H b = none := sf.free nb
  have nbf : b ≠ f := fun e => by rw [e, upd_same] at nb; cases nb
  refine ⟨a, b, nvs bs, _, rfl, rfl, ?_, upd_same, ?_, fun c nc => ?_⟩
  · rw [upd_ne (ne_of_none (sf _ _ ha) nb)]; exact sf _ _ ha
  · rw [nvs_len]; show bs.length + 1 ≤ sizeLine; rw [sizeLine_eq]; omega
  have s2 : Same H (upd (upd H f (.lst [])) b (.lst [.int 32])) := sf.trans (same_new nb)
  have s3 := s2.trans (same_new (o := .lst (nvs bs ++ [.int 32])) nc)
  have nc0 : H c = none := s2.free nc
  have ncf : c ≠ f := fun e => by
    rw [e, upd_ne (Ne.symm nbf), upd_same] at nc; cases nc
  have items : nvs bs ++ [.int 32] = nvs (bs ++ [32]) := by unfold nvs; rw [List.map_append]; rfl
  rw [items] at s3 ⊢
  refine ⟨c, _, rfl, SqL.of upd_same, for_it (walk_enum (K := K) (a := c) (xs := nvs (bs ++ [32]))) (fun i σ H' => ∃ (u v : Option V) (w : List Nat) (s : Nat) (fs : List Sx62.Word) (vs : List V),
    σ = [some (.ref a), some (.ref f), some (.str (S (w.reverse.map sg))), u, v] ∧ Same H H' ∧ H' c = some (.lst (nvs (bs ++ [32]))) ∧ H' f = some (.lst vs) ∧ WdsA K H' vs (fs.map sgW) ∧
      Sx62.words bs = fs ++ (if i ≤ bs.length then Sx62.wordsFrom i s w (bs.drop i) else []) ∧ (i ≤ bs.length → s + w.length = i) ∧ w.length ≤ i ∧ fs.length ≤ i) ?_ (fun i σ H' _ ⟨_, _, _, _, _, _, _, _, hc, _⟩ => SqL.of hc) ?_ ?_⟩
  · refine ⟨none, none, [], 0, [], [], rfl, s3, upd_same, ?_, .nil, ?_, fun _ => rfl, Nat.le_refl _, Nat.le_refl _⟩
    · rw [upd_ne (Ne.symm ncf), upd_ne (Ne.symm nbf), upd_same]
    · rw [if_pos (Nat.zero_le _)]; rfl
  · rintro i y σ H1 H2 hi ⟨u, v, w, s, fs, vs, rfl, s5, hc, hf, hw, hs, hp, hwl, hfl⟩ ⟨t, x1, y1, rfl, nt, rfl, e1, e2⟩
    cases e1
    obtain ⟨k, hk, rfl⟩ := nvs_get e2
    rw [nvs_len, List.length_append, List.length_cons, List.length_nil] at hi
    have s6 := s5.trans (same_new (o := .tup [.int (i : Nat), .int (k : Int)]) nt)
    have hc' : (upd H1 t (.tup [.int (i : Nat), .int (k : Int)])) c = some (.lst (nvs (bs ++ [32]))) := by rw [upd_ne (ne_of_none hc nt)]; exact hc
    have hf' : (upd H1 t (.tup [.int (i : Nat), .int (k : Int)])) f = some (.lst vs) := by rw [upd_ne (ne_of_none hf nt)]; exact hf
    have hw' : WdsA K (upd H1 t (.tup [.int (i : Nat), .int (k : Int)])) vs (fs.map sgW) := pairedMono (fun _ _ h => h.mono (same_new nt)) hw
    refine ⟨t, _, rfl, SqT.of upd_same, rfl, _, _, rfl, _, _, rfl, rfl, ?_⟩
    generalize upd H1 t (.tup [.int (i : Nat), .int (k : Int)]) = H3 at s6 hc' hf' hw' ⊢
    have wle : w.length ≤ 2001 := by omega
    have cut : (k = 32 ∨ k = 10) → Sx62.words bs = (fs ++ if w = [] then [] else [Sx62.Word.mk s w.reverse]) ++ (if i + 1 ≤ bs.length then Sx62.wordsFrom (i + 1) (i + 1) [] (bs.drop (i + 1)) else []) := fun hk' => by
      by_cases hib : i < bs.length
      · rw [if_pos (Nat.le_of_lt hib)] at hs
        rw [if_pos (show i + 1 ≤ bs.length from hib), hs]
        have e : bs.drop i = k :: bs.drop (i + 1) := by
          rw [List.getElem?_append_left hib] at hk
          obtain ⟨_, hg⟩ := List.getElem?_eq_some_iff.mp hk
          rw [List.drop_eq_getElem_cons hib, hg]
        rw [e, wordsFrom_cons, if_pos hk', List.append_assoc]
      · have ei : i = bs.length := by omega
        rw [if_pos (by omega), ei, List.drop_length, wordsFrom_nil] at hs
        rw [if_neg (show ¬ i + 1 ≤ bs.length by omega), List.append_nil]
        exact hs
    refine ans_or2 (b1 := decide (k = 10)) (b2 := decide (k = 32)) (fun Q q => ⟨_, rfl, rfl, _, rfl, by rw [decN (j := 10) (k := 10) rfl]; exact q⟩) (fun Q q => ⟨_, rfl, rfl, _, rfl, by rw [decN (j := 32) (k := 32) rfl]; exact q⟩) _ (iteB (fun hb => ?_) (fun hb => ?_))
    · have hk' : k = 32 ∨ k = 10 := by simp at hb; omega
      have hcut := cut hk'
      by_cases hw0 : w = []
      · refine ⟨_, rfl, rfl, _, rfl, ite_f (by rw [empty_S, decS, hw0]; rfl) ?_⟩
        rw [if_pos hw0, List.append_nil] at hcut
        refine ⟨some (.int (i : Nat)), some (.int (k : Int)), [], i + 1, fs, vs, ?_, s6, hc', hf', hw', hcut, fun _ => rfl, Nat.zero_le _, by omega⟩
        exact congrArg (fun z => [some (V.ref a), some (V.ref f), some (V.str z), some (V.int (i : Nat)), some (V.int (k : Int))]) empty_S
      · rw [if_neg hw0] at hcut
        have hsw : s + w.length = i := by
          by_cases hib : i ≤ bs.length
          · exact hp hib
          · omega
        refine ⟨_, rfl, rfl, _, rfl, ite_t (by rw [empty_S, decS]; simpa using hw0) ?_⟩
        refine ⟨_, rfl, .inl ⟨rfl, _, SqL.of hf'⟩, _, rfl, _, rfl, _, rfl, _, rfl, by rw [S_len, sizeLine_eq]; simp; omega, _, _, rfl, rfl, by show 2 ≤ sizeLine; decide, fun p np => ?_⟩
        have s7 := same_new (o := .tup [.str (S (w.reverse.map sg)), .int ((i : Int) - ((S (w.reverse.map sg)).length : Int))]) np
        have pf : p ≠ f := Ne.symm (ne_of_none hf' np)
        have lvs : vs.length = fs.length := by rw [hw'.length, List.length_map]
        refine ⟨f, vs, _, rfl, rfl, s7 _ _ hf', by rw [lvs, sizeLine_eq]; omega, ?_⟩
        have s8 : Same H (upd (upd H3 p (.tup [.str (S (w.reverse.map sg)), .int ((i : Int) - ((S (w.reverse.map sg)).length : Int))])) f (.lst (vs ++ [.ref p]))) := fun b o e => by
          rw [upd_ne (fun z => by rw [z, nf] at e; cases e)]
          exact s7 _ _ (s6 _ _ e)
        refine ⟨some (.int (i : Nat)), some (.int (k : Int)), [], i + 1, fs ++ [⟨s, w.reverse⟩], vs ++ [.ref p], ?_, s8, ?_, upd_same, ?_, hcut, fun _ => rfl, Nat.zero_le _, by rw [List.length_append]; simp; omega⟩
        · exact congrArg (fun z => [some (V.ref a), some (V.ref f), some (V.str z), some (V.int (i : Nat)), some (V.int (k : Int))]) empty_S
        · rw [upd_ne ncf]; exact s7 _ _ hc'
        · rw [List.map_append]
          refine pairedApp ?_ (.cons ⟨p, rfl, ?_⟩ .nil)
          · refine pairedMono (fun v x h => ?_) hw'
            obtain ⟨q, rfl, hq'⟩ := h
            refine ⟨q, rfl, ?_⟩
            have := sameT s7 hq'
            rcases this with (h | ⟨o, h⟩) | h
            · exact .inl (.inl (by rw [upd_ne (ne_of h (s7 _ _ hf') (by intro z; cases z))]; exact h))
            · exact .inl (.inr ⟨o, by rw [upd_ne (ne_of h (s7 _ _ hf') (by intro z; cases z))]; exact h⟩)
            · exact .inr h
          · refine SqT.of ?_
            rw [upd_ne pf, upd_same]
            congr 3
            show [V.int ((i : Int) - ((S (w.reverse.map sg)).length : Int))] = [V.int (s : Int)]
            rw [S_len, List.length_map, List.length_reverse]
            congr 2
            omega
    · have hk' : ¬ (k = 32 ∨ k = 10) := by simp at hb; omega
      have hib : i < bs.length := by
        rcases Nat.lt_or_ge i bs.length with h | h
        · exact h
        · have ei : i = bs.length := by omega
          rw [ei, List.getElem?_append_right (Nat.le_refl _), Nat.sub_self] at hk
          cases hk
          exact absurd (.inl rfl) hk'
      have hkb : bs[i]? = some k := by rw [List.getElem?_append_left hib] at hk; exact hk
      have ok := okByte_f.mp (hok k (List.mem_of_getElem? hkb))
      have k1 : 32 ≤ k ∧ k ≤ 126 := by omega
      refine ⟨_, rfl, _, rfl, _, _, rfl, rfl, signStr, _, _, rfl, rfl, by decide +kernel, sign_at k1.1 k1.2, _, _, rfl, rfl, ?_, ?_⟩
      · rw [S_len, sizeLine_eq]; simp; show _ + 1 ≤ _; omega
      refine ⟨some (.int (i : Nat)), some (.int (k : Int)), k :: w, s, fs, vs, ?_, s6, hc', hf', hw', ?_, fun _ => by rw [List.length_cons]; have := hp (Nat.le_of_lt hib); omega, by rw [List.length_cons]; omega, by omega⟩
      · refine congrArg (fun z => [some (V.ref a), some (V.ref f), some (V.str z), some (V.int (i : Nat)), some (V.int (k : Int))]) (a₁ := S (w.reverse.map sg) ++ S [sg k]) ?_
        rw [S_app, List.reverse_cons, List.map_append]
        rfl
      · rw [if_pos (Nat.le_of_lt hib)] at hs
        rw [if_pos (show i + 1 ≤ bs.length from hib), hs]
        obtain ⟨_, hg⟩ := List.getElem?_eq_some_iff.mp hkb
        rw [List.drop_eq_getElem_cons hib, hg, wordsFrom_cons, if_neg hk']
  · rintro σ H1 ⟨u, v, w, s, fs, vs, rfl, s5, hc, hf, hw, hs, hp, _⟩
    rw [nvs_len, List.length_append, List.length_cons, List.length_nil, if_neg (by omega), List.append_nil] at hs
    rw [hs] at hq
    exact ⟨_, rfl, hq f H1 vs nf s5 hf hw⟩
end
end Sc

set_option Elab.async false
set_option linter.all false
set_option maxRecDepth 100000
set_option maxHeartbeats 4000000
/-! # numbers, metres, keys, names -/
namespace Sc
open PySem PySem.Spec PyProof.Rows L2 Pf
open Sx62 (Frac)
section
variable {P : Program} {w : World} {K : PySem.W.Frag} {mg : Str → Option Value} {base : Heap} {A : Ad}
theorem cps_at {l : List Nat} {i : Nat} {c : Nat} (h : (S l).cps[i]? = some c) : l[i]? = some c := by
  have e : (S l).cps[i]? = l[i]? := by show l.toArray[i]? = _; simp
  rw [← e]; exact h
theorem cps_size (l : List Nat) : (S l).cps.size = l.length := S_len l
/-- all([sign in z for sign in word]) -/
theorem all_in {H : Hp} {l : List Nat} {z : Str} {u : Option V} {Q : VK} (hl : l.length ≤ 2000) (h : ∀ H', Same H H' → Q (.bl (l.all fun c => decide (c ∈ z.cps.toList))) H') :
    tCB (rAll K) (tCons (tLc (iStr (tVar 0)) (gName 1) tYes (tOp (fun x y H Q => ∃ (c : Nat) (z : Str), x = .str ⟨#[c]⟩ ∧ y = .str z ∧ Q (.bl (decide (c ∈ z.cps.toList))) H) (tVar 1) (tC (.str z))) [1]) tNil) [some (.str (S l)), u] H Q := by
  refine ⟨_, rfl, S l, rfl, fun D nD => lc_it (walk_str (z := S l)) (fun i H' => H' D = some (.lst ((l.take i).map fun c => V.bl (decide (c ∈ z.cps.toList)))) ∧ Same H H') ⟨upd_same, same_new nD⟩ (fun _ _ _ _ => trivial) ?_ ?_⟩
  · rintro i x H1 H2 hi ⟨h1, s1⟩ ⟨rfl, c, hc, rfl⟩
    refine ⟨rfl, _, rfl, c, z, rfl, rfl, _, h1, ?_, ?_, fun b o e => ?_⟩
    · rw [List.length_map, List.length_take, sizeLine_eq]
      rw [cps_size] at hi
      omega
    · rw [take_more (cps_at hc), List.map_append]
      exact upd_same
    · rw [upd_ne (ne_of_none e nD)]; exact s1 _ _ e
  · rintro H1 ⟨h1, s1⟩
    rw [cps_size, List.take_length] at h1
    refine ⟨D, l.map fun c => decide (c ∈ z.cps.toList), rfl, ?_, ?_⟩
    · rw [List.map_map]; exact SqL.of h1
    · rw [List.all_map]; exact h H1 s1
theorem at0 {α : Type} (c : α) (r : List α) : atI (c :: r) 0 = some c := atI_nat (xs := c :: r) (j := 0) rfl
theorem sc_number_in : FnScope ["word", "sign"] ["word"] (defScope s_number_in) := ⟨rfl, rfl, rfl, by decide +kernel, rfl, by decide +kernel, by decide +kernel⟩
theorem sc_is_from : FnScope ["number", "least", "most"] ["number", "least", "most"] (defScope s_is_from) := ⟨rfl, rfl, rfl, by decide +kernel, rfl, by decide +kernel, by decide +kernel⟩
theorem sc_metre_in : FnScope ["word", "parts", "many", "part"] ["word"] (defScope s_metre_in) := ⟨rfl, rfl, rfl, by decide +kernel, rfl, by decide +kernel, by decide +kernel⟩
theorem sc_is_key : FnScope ["word"] ["word"] (defScope s_is_key) := ⟨rfl, rfl, rfl, by decide +kernel, rfl, by decide +kernel, by decide +kernel⟩
theorem sc_is_name : FnScope ["word", "sign"] ["word"] (defScope s_is_name) := ⟨rfl, rfl, rfl, by decide +kernel, rfl, by decide +kernel, by decide +kernel⟩
theorem fig_S : Str.ofString "0123456789" = S [48, 49, 50, 51, 52, 53, 54, 55, 56, 57] := by decide +kernel
theorem fig_dec (c : Nat) : decide (c ∈ (Str.ofString "0123456789").cps.toList) = Sx62.digit c := by
  rw [fig_S, S_list, Bool.eq_iff_iff, decide_eq_true_eq, digit_iff]
  simp only [List.mem_cons, List.not_mem_nil, or_false]
  omega
theorem let_S : Str.ofString "abcdefghijklmnopqrstuvwxyz" = S ((List.range 26).map fun i => i + 97) := by decide +kernel
theorem let_dec (c : Nat) : decide (c ∈ (Str.ofString "abcdefghijklmnopqrstuvwxyz").cps.toList) = Sx62.small c := by
  rw [let_S, S_list, Bool.eq_iff_iff, decide_eq_true_eq]
  unfold Sx62.small
  simp only [List.mem_map, List.mem_range, Bool.and_eq_true, decide_eq_true_eq]
  constructor
  · rintro ⟨i, hi, rfl⟩; omega
  · intro h; exact ⟨c - 97, by omega, by omega⟩
theorem zero_S : Str.ofString "0" = S [48] := by decide +kernel
theorem int_S {l : List Nat} (h : l.all Sx62.digit = true) (hn : l ≠ []) (hl : l.length ≤ 3) : PySem.intText? (S l) = some ((numVal l : Nat) : Int) := by
  have e := PySem.intText_digits (x := S l) (fun c hc => digit_iff.mp (List.all_eq_true.mp h c hc)) hn (by rw [S_len]; omega)
  rw [e]
  congr 2
  exact fold_eq l 0
def sp_number_in (K : PySem.W.Frag) (A : Ad) : Sp := sp1 fun x H Q _ => ∃ l : List Nat, x = .str (S l) ∧ l.length ≤ 2000 ∧ ∀ H', Same H H' → Q (natOr (numIn l)) H'
theorem ok_number_in (T : Txt K mg A) : FnOk P w K mg base CX0 1 A.a_number_in A.d_number_in ["word"] (sp_number_in K A) := by
  refine T.F_number_in.ok sc_number_in (sp1_len) (fun cdv Ar outer s H vs Q E hr h => ?_)
  refine ⟨_, (pss_cons (ps_if (PW.pt (pw_or (pt_cmpR op_eq (pv 0) pe_str (nomark _)) (pw_or (pt_cmpR op_gt (pe_callB call_len_str (by rfl) T.z_len PySem.boot_len (pa_cons (pv 0) pa_nil)) (pe_gI T.c_MOST_FIGURES) (nomark _)) (pw_or1 (pt_not (pt_val (pe_callB (cr_all rfl) (by rfl) T.z_all (by decide +kernel) (pa_cons (pe_lc (own := [("sign", 1)]) (g := gName 1) (tt := tYes) rfl sc_number_in.nd (pi_str (pv 0)) (blkOk_by (N := ["word", "sign"]) (sc := defScope s_number_in) (by decide +kernel)) (fun _ _ _ _ _ => (pg_name (i := 1) sc_number_in.nd rfl (Or.inl rfl))) (fun _ _ _ _ _ => pts_nil) (fun _ _ _ _ _ => (pe_cmpR op_in_sign (pv 1) (pe_gS T.c_FIGURES) rfl))) pa_nil)))))))) (pss_one (ps_ret pe_non)) pss_nil)
      (pss_cons (ps_if (PW.pt (pw_and (pt_cmpR op_eq (pe_ix ix_str (pv 0) pe_int (fun _ _ => rfl)) pe_str (nomark _)) (pw_and1 (pt_cmpR op_ne (pv 0) pe_str (nomark _))))) (pss_one (ps_ret pe_non)) pss_nil)
      (pss_one (ps_ret (pe_callTy call_int_str (by rfl) T.z_int (by decide +kernel) (pa_cons (pv 0) pa_nil)))))), ?_⟩
  obtain ⟨x, rfl, l, rfl, hl, hq⟩ := h
  rw [numIn_eq] at hq
  -- word == '' or len(word) > 3 or not all(..)
  have lz : (S l).length ≤ sizeLine := by rw [S_len, sizeLine_eq]; omega
  refine ⟨_, rfl, rfl, _, rfl, iteB (fun h0 => ?_) (fun h0 => ?_)⟩
  · rw [empty_S, decS] at h0
    have e : l = [] := by simpa using h0
    rw [if_neg (by rw [e]; simp)] at hq
    exact ite_t rfl (hq H (Same.refl _))
  rw [empty_S, decS] at h0
  have n0 : l ≠ [] := by simpa using h0
  refine ⟨_, rfl, _, rfl, lz, _, _, rfl, rfl, _, rfl, iteB (fun h3 => ?_) (fun h3 => ?_)⟩
  · rw [if_neg (by rw [S_len] at h3; simp at h3; omega)] at hq
    exact ite_t rfl (hq H (Same.refl _))
  have l3 : l.length ≤ 3 := by rw [S_len] at h3; simp at h3; omega
  refine all_in (l := l) (by omega) fun H1 s1 => ⟨_, rfl, ?_⟩
  have ea : (l.all fun c => decide (c ∈ (Str.ofString "0123456789").cps.toList)) = l.all Sx62.digit := congrArg (fun f => l.all f) (funext fig_dec)
  rw [ea]
  cases hd : l.all Sx62.digit with
  | false =>
    rw [hd, if_neg (by simp)] at hq
    exact ite_t rfl (hq H1 s1)
  | true =>
    refine ite_f rfl ?_
    cases l with
    | nil => exact absurd rfl n0
    | cons c r =>
      -- word[0] == '0' and word != '0'
      refine ⟨_, rfl, _, 0, c, rfl, rfl, lz, at0 c r, rfl, _, rfl, iteB (fun h48 => ?_) (fun h48 => ?_)⟩
      · have h48 : decide (V.str (S [c]) = V.str (Str.ofString "0")) = true := h48
        rw [zero_S, decS] at h48
        have ec : c = 48 := by simpa using h48
        refine ⟨_, rfl, rfl, _, rfl, iteB (fun hz => ?_) (fun hz => ?_)⟩
        · rw [zero_S, decS] at hz
          have nz : c :: r ≠ [48] := by
            simp only [Bool.not_eq_true', decide_eq_false_iff_not] at hz
            exact hz
          rw [if_neg] at hq
          · exact hq H1 s1
          · rintro ⟨_, _, _, h | h⟩
            · have : r = [] := by simpa using h
              rw [this, ec] at nz
              exact nz rfl
            · rw [ec] at h; exact h rfl
        · rw [zero_S, decS] at hz
          have ez : c :: r = [48] := by simpa using hz
          rw [if_pos ⟨hd, by simp, l3, .inl (by rw [ez]; rfl)⟩] at hq
          exact ⟨_, rfl, _, _, rfl, int_S hd n0 l3, by rw [S_len]; omega, hq H1 s1⟩
      · have h48 : decide (V.str (S [c]) = V.str (Str.ofString "0")) = false := h48
        rw [zero_S, decS] at h48
        have ec : c ≠ 48 := by simpa using h48
        rw [if_pos ⟨hd, by simp, l3, .inr (by simpa using ec)⟩] at hq
        exact ite_f rfl ⟨_, rfl, _, _, rfl, int_S hd n0 l3, by rw [S_len]; omega, hq H1 s1⟩
def inR (o : Option Nat) (a b : Nat) : Bool := match o with | some n => decide (a ≤ n) && decide (n ≤ b) | none => false
def sp_is_from (K : PySem.W.Frag) (A : Ad) : Sp := sp3 fun x y z H Q _ => ∃ (o : Option Nat) (a b : Nat), x = natOr o ∧ y = .int (a : Int) ∧ z = .int (b : Int) ∧ Q (.bl (inR o a b)) H
theorem ok_is_from (T : Txt K mg A) : FnOk P w K mg base CX0 1 A.a_is_from A.d_is_from ["number", "least", "most"] (sp_is_from K A) := by
  refine T.F_is_from.ok sc_is_from (sp3_len) (fun cdv Ar outer s H vs Q E hr h => ?_)
  refine ⟨_, (pss_one (ps_ret (pe_and (pe_cmpR op_notN (pv 0) pe_non (nomark _)) (pe_and (pe_cmpR op_le (pv 1) (pv 0) (nomark _)) (pe_one (pe_cmpR op_le (pv 0) (pv 2) (nomark _))))))), ?_⟩
  obtain ⟨x, y, z, rfl, o, a, b, rfl, rfl, rfl, hq⟩ := h
  cases o with
  | none => exact ⟨_, rfl, rfl, _, rfl, ite_f rfl hq⟩
  | some n =>
    refine ⟨_, rfl, rfl, _, rfl, ite_t rfl ⟨_, rfl, _, rfl, _, _, rfl, rfl, _, rfl, iteB (fun h1 => ?_) (fun h1 => ?_)⟩⟩
    · have e1 : a ≤ n := by simp at h1; omega
      refine ⟨_, rfl, _, rfl, _, _, rfl, rfl, ?_⟩
      have e : decide ((n : Int) ≤ (b : Int)) = (decide (a ≤ n) && decide (n ≤ b)) := by
        rw [decide_eq_true e1, Bool.true_and]
        exact decide_eq_decide.mpr (by omega)
      show Q (.bl (decide ((n : Int) ≤ (b : Int)))) H
      rw [e]
      exact hq
    · have e1 : ¬ a ≤ n := by simp at h1; omega
      have e : inR (some n) a b = false := by show (decide (a ≤ n) && decide (n ≤ b)) = false; rw [decide_eq_false e1, Bool.false_and]
      rw [e] at hq
      exact hq
/-! ### metres -/
theorem spl_eq (s : Nat) : ∀ (l acc : List Nat), TL.spl [s] 0 acc l = match splitL s l with
    | p :: r => (acc ++ p) :: r
    | [] => []
  | [], acc => by rw [TL.spl_nil]; show _ = [acc ++ []]; rw [List.append_nil]
  | c :: l, acc => by
    by_cases h : c = s
    · subst h
      have hp : TL.pre [c] (c :: l) = true := by simp [TL.pre]
      rw [TL.spl_hit hp]
      have ih := spl_eq c l []
      unfold splitL
      rw [if_pos rfl]
      show acc :: TL.spl [c] 0 [] l = (acc ++ []) :: splitL c l
      rw [ih, List.append_nil]
      cases e : splitL c l with
      | nil => exact absurd e (splitL_ne c l)
      | cons p r => rfl
    · have hp : TL.pre [s] (c :: l) = false := by simp [TL.pre, h]
      rw [TL.spl_miss hp, spl_eq s l (acc ++ [c])]
      conv => rhs; unfold splitL
      rw [if_neg h]
      cases e : splitL s l with
      | nil => exact absurd e (splitL_ne s l)
      | cons p r => simp
theorem split_S (s : Nat) (hs : s < 256) (l : List Nat) : PySem.Txt.split (S l) (S [s]) = (splitL s l).map S := by
  have h := TL.split_spl (S l) (S [s]) (by simp [S_tl]) (TL.kind_ok (by simp [S, hs]))
  rw [S_tl, S_tl, spl_eq] at h
  have e : (match splitL s l with | p :: r => ([] ++ p) :: r | [] => []) = splitL s l := by
    cases splitL s l <;> rfl
  rw [e] at h
  have : ∀ z : Str, S (TL.tl z) = z := fun z => TL.mk_tl z
  rw [← h, List.map_map]
  conv => lhs; rw [← List.map_id (PySem.Txt.split (S l) (S [s]))]
  exact List.map_congr_left fun z _ => (this z).symm
theorem stroke_S : Str.ofString "/" = S [47] := by decide +kernel
theorem colon_S : Str.ofString ":" = S [58] := by decide +kernel
theorem minus_S : Str.ofString "-" = S [45] := by decide +kernel
theorem at1 {α : Type} (c d : α) (r : List α) : atI (c :: d :: r) 1 = some d := atI_nat (xs := c :: d :: r) (j := 1) rfl
/-- a fraction, or None -/
def RetFrO (K : PySem.W.Frag) (H : Hp) (o : Option Frac) (Q : VK) : Prop := match o with
  | some f => RetFr K H f Q
  | none => ∀ H', Same H H' → Q .non H'
theorem RetFr.back {H H' : Hp} {f : Frac} {Q : VK} (h : RetFr K H f Q) (s : Same H H') : RetFr K H' f Q := fun v H2 s2 hf => h v H2 (s.trans s2) hf
def metreF (l : List Nat) : Option Frac := (Sx62.metreOf l).map fun x => Sx62.lowest x.1 x.2
def sp_metre_in (K : PySem.W.Frag) (A : Ad) : Sp := sp1 fun x H Q _ => ∃ l : List Nat, x = .str (S l) ∧ l.length ≤ 2000 ∧ RetFrO K H (metreF l) Q
theorem natOr_flat (o : Option Nat) : flatV (natOr o) = true := by cases o <;> rfl
theorem parts_in (o : Option Nat) : inV (natOr o) [.int 1, .int 2, .int 4, .int 8, .int 16, .int 32] = (match o with | some n => Sx62.UNITS.contains n | none => false) := by
  cases o with
  | none => rfl
  | some n =>
    rw [Bool.eq_iff_iff]
    simp only [inV, natOr, List.any_cons, List.any_nil, eqV, Bool.or_false, Bool.or_eq_true, beq_iff_eq, Sx62.UNITS, List.contains_eq_mem, List.mem_cons, List.not_mem_nil, or_false, decide_eq_true_eq]
    omega
theorem ok_metre_in (T : Txt K mg A) : FnOk P w K mg base CX0 3 A.a_metre_in A.d_metre_in ["word"] (sp_metre_in K A) := by
  have G_is_from := ok_is_from (P := P) (w := w) (base := base) T
  have G_lowest := ok_lowest (P := P) (w := w) (base := base) T
  have G_number_in := ok_number_in (P := P) (w := w) (base := base) T
  refine T.F_metre_in.ok sc_metre_in (sp1_len) (fun cdv Ar outer s H vs Q E hr h => ?_)
  refine ⟨_, (pss_cons (ps_set (i := 1) sc_metre_in.nd rfl (Or.inl rfl) (pe_split (pv 0) pe_str))
      (pss_cons (ps_if (pt_cmpR op_ne (pe_callB call_len_seq (by rfl) T.z_len PySem.boot_len (pa_cons (pv 1) pa_nil)) pe_int (nomark _)) (pss_one (ps_ret pe_non)) pss_nil)
      (pss_cons (ps_par (i := 2) (j := 3) rfl sc_metre_in.nd rfl rfl (by decide) rfl rfl (pa_cons (pe_call G_number_in (hr.mono (by decide)) rfl T.g_number_in T.F_number_in.kp T.b_number_in .nil pass0 (pa_cons (pe_ix ix_list (pv 1) pe_int (fun _ _ => rfl)) pa_nil)) (pa_cons (pe_call G_number_in (hr.mono (by decide)) rfl T.g_number_in T.F_number_in.kp T.b_number_in .nil pass0 (pa_cons (pe_ix ix_list (pv 1) pe_int (fun _ _ => rfl)) pa_nil)) pa_nil)) (by rfl))
      (pss_cons (ps_if (PW.pt (pw_or (pt_not (pt_val (pe_call G_is_from (hr.mono (by decide)) rfl T.g_is_from T.F_is_from.kp T.b_is_from .nil pass0 (pa_cons (pv 2) (pa_cons pe_int (pa_cons (pe_gI T.c_MOST_METRE) pa_nil)))))) (pw_or1 (pt_cmpR op_notIn_seq (pv 3) (pe_gR T.c_METRE_PARTS) rfl)))) (pss_one (ps_ret pe_non)) pss_nil)
      (pss_one (ps_ret (pe_call G_lowest (hr.mono (by decide)) rfl T.g_lowest T.F_lowest.kp T.b_lowest .nil pass0 (pa_cons (pv 2) (pa_cons (pv 3) pa_nil))))))))), ?_⟩
  obtain ⟨x, rfl, l, rfl, hl, hq⟩ := h
  refine ⟨_, rfl, ⟨_, rfl⟩, _, _, rfl, rfl, by decide, by rw [S_len, sizeLine_eq]; omega, fun p np => ?_⟩
  have s1 : Same H (upd H p (.lst ((PySem.Txt.split (S l) (Str.ofString "/")).map V.str))) := same_new np
  have hp : (upd H p (.lst ((PySem.Txt.split (S l) (Str.ofString "/")).map V.str))) p = some (.lst ((splitL 47 l).map fun z => V.str (S z))) := by
    rw [upd_same, stroke_S, split_S 47 (by decide), List.map_map]; rfl
  generalize upd H p (.lst ((PySem.Txt.split (S l) (Str.ofString "/")).map V.str)) = H1 at s1 hp ⊢
  refine ⟨_, rfl, p, _, rfl, .inl (SqL.of hp), rfl, _, rfl, ?_⟩
  rw [List.length_map, decN (j := 2) (k := 2) rfl]
  rcases split_two (s := 47) (l := l) with ⟨a, b, h1, h2, h3⟩ | ⟨h1, h2⟩
  · rw [h1] at hp
    rw [h1]
    have e1 := cutAt_some h2
    have la : a.length ≤ 2000 ∧ b.length ≤ 2000 := by
      have := congrArg List.length e1.1
      simp only [List.length_append, List.length_cons] at this
      omega
    refine ite_f rfl ?_
    refine ⟨_, rfl, p, _, 0, _, rfl, rfl, SqL.of hp, at0 _ _, _, rfl, a, rfl, la.1, fun H2 s2 => ?_⟩
    refine ⟨_, rfl, p, _, 1, _, rfl, rfl, SqL.of (s2 _ _ hp), at1 _ _ _, _, rfl, b, rfl, la.2, fun H3 s3 => ?_⟩
    refine ⟨_, _, rfl, ?_⟩
    have s4 := (s1.trans s2).trans s3
    have em : metreF l = match numIn a, numIn b with
      | some n, some d => if (1 ≤ n ∧ n ≤ 32) ∧ Sx62.UNITS.contains d = true then some (Sx62.lowest n d) else none
      | _, _ => none := by
      unfold metreF
      rw [metre_some h2]
      cases numIn a with
      | none => rfl
      | some n =>
        cases numIn b with
        | none => rfl
        | some d =>
          simp only
          split <;> rfl
    rw [em] at hq
    refine ⟨_, rfl, _, _, _, rfl, numIn a, 1, 32, rfl, rfl, rfl, _, rfl, ?_⟩
    cases ea : numIn a with
    | none =>
      rw [ea] at hq
      exact ite_t rfl (ite_t rfl (hq H3 s4))
    | some n =>
      rw [ea] at hq
      by_cases hn : 1 ≤ n ∧ n ≤ 32
      · have e2 : (!(decide (1 ≤ n) && decide (n ≤ 32))) = false := by rw [decide_eq_true hn.1, decide_eq_true hn.2]; rfl
        refine ite_f e2 ?_
        refine ⟨_, rfl, A.t_METRE_PARTS, _, rfl, .inr T.q_METRE_PARTS.sq, natOr_flat _, rfl, _, rfl, ?_⟩
        show (if (!inV (natOr (numIn b)) [.int 1, .int 2, .int 4, .int 8, .int 16, .int 32]) = true then _ else _)
        rw [parts_in]
        cases eb : numIn b with
        | none =>
          rw [eb] at hq
          exact ite_t rfl (hq H3 s4)
        | some d =>
          rw [eb] at hq
          cases ed : Sx62.UNITS.contains d with
          | false =>
            simp only [ed] at hq
            rw [if_neg (by simp)] at hq
            exact ite_t (by show (!Sx62.UNITS.contains d) = true; rw [ed]; rfl) (hq H3 s4)
          | true =>
            simp only [ed] at hq
            rw [if_pos ⟨hn, trivial⟩] at hq
            refine ite_f (by show (!Sx62.UNITS.contains d) = false; rw [ed]; rfl) ?_
            have hd : 0 < d ∧ d ≤ 32 := by
              have : d = 1 ∨ d = 2 ∨ d = 4 ∨ d = 8 ∨ d = 16 ∨ d = 32 := by simpa [Sx62.UNITS] using ed
              omega
            exact ⟨_, rfl, _, rfl, _, _, rfl, n, d, rfl, rfl, hd.1, Nat.lt_of_le_of_lt hd.2 (by decide), RetFr.back hq s4⟩
      · have e2 : (!(decide (1 ≤ n) && decide (n ≤ 32))) = true := by
          have : (decide (1 ≤ n) && decide (n ≤ 32)) = false := by
            rw [Bool.and_eq_false_iff, decide_eq_false_iff_not, decide_eq_false_iff_not]; omega
          rw [this]; rfl
        refine ite_t e2 (ite_t rfl ?_)
        cases eb : numIn b with
        | none => rw [eb] at hq; exact hq H3 s4
        | some d =>
          rw [eb] at hq
          simp only at hq
          rw [if_neg (fun z : (1 ≤ n ∧ n ≤ 32) ∧ Sx62.UNITS.contains d = true => hn z.1)] at hq
          exact hq H3 s4
  · refine ite_t (by simpa using h1) ?_
    have em : metreF l = none := by unfold metreF; rw [metre_none h2]; rfl
    rw [em] at hq
    exact hq H1 s1
/-! ### keys and names -/
theorem take1_eq (l : List Nat) (c : Nat) : decide (V.str (S (l.take 1)) = V.str (S [c])) = decide (l.head? = some c) := by
  rw [decS]
  apply decide_eq_decide.mpr
  cases l with
  | nil => simp
  | cons d r => simp
def sp_is_key (K : PySem.W.Frag) (A : Ad) : Sp := sp1 fun x H Q _ => ∃ l : List Nat, x = .str (S l) ∧ l.length ≤ 2000 ∧ ∀ H', Same H H' → Q (.bl (Sx62.keyOf l).isSome) H'
theorem ok_is_key (T : Txt K mg A) : FnOk P w K mg base CX0 2 A.a_is_key A.d_is_key ["word"] (sp_is_key K A) := by
  have G_is_from := ok_is_from (P := P) (w := w) (base := base) T
  have G_number_in := ok_number_in (P := P) (w := w) (base := base) T
  refine T.F_is_key.ok sc_is_key (sp1_len) (fun cdv Ar outer s H vs Q E hr h => ?_)
  refine ⟨_, (pss_cons (ps_if (pt_cmpR op_eq (pe_slice sl_str (pv 0) po_none (po_some pe_int)) pe_str (nomark _)) (pss_one (ps_ret (pe_call G_is_from (hr.mono (by decide)) rfl T.g_is_from T.F_is_from.kp T.b_is_from .nil pass0 (pa_cons (pe_call G_number_in (hr.mono (by decide)) rfl T.g_number_in T.F_number_in.kp T.b_number_in .nil pass0 (pa_cons (pe_slice sl_str (pv 0) (po_some pe_int) po_none) pa_nil)) (pa_cons pe_int (pa_cons (pe_gI T.c_MOST_KEY) pa_nil)))))) pss_nil)
      (pss_one (ps_ret (pe_call G_is_from (hr.mono (by decide)) rfl T.g_is_from T.F_is_from.kp T.b_is_from .nil pass0 (pa_cons (pe_call G_number_in (hr.mono (by decide)) rfl T.g_number_in T.F_number_in.kp T.b_number_in .nil pass0 (pa_cons (pv 0) pa_nil)) (pa_cons pe_int (pa_cons (pe_gI T.c_MOST_KEY) pa_nil))))))), ?_⟩
  obtain ⟨x, rfl, l, rfl, hl, hq⟩ := h
  rw [key_isSome] at hq
  have lz : (S l).length ≤ sizeLine := by rw [S_len, sizeLine_eq]; omega
  refine ⟨_, rfl, _, rfl, S l, rfl, lz, ?_⟩
  rw [cut_to]
  refine ⟨rfl, _, rfl, ?_⟩
  rw [minus_S, take1_eq]
  by_cases h45 : l.head? = some 45
  · rw [if_pos h45] at hq
    refine ite_t (decide_eq_true h45) ?_
    refine ⟨_, rfl, _, rfl, S l, rfl, lz, _, rfl, l.drop 1, by rw [cut_one], by rw [List.length_drop]; omega, fun H1 s1 => ?_⟩
    refine ⟨_, _, _, rfl, numIn (l.drop 1), 1, 7, rfl, rfl, rfl, ?_⟩
    exact hq H1 s1
  · rw [if_neg h45] at hq
    refine ite_f (decide_eq_false h45) ?_
    refine ⟨_, rfl, _, rfl, l, rfl, hl, fun H1 s1 => ?_⟩
    refine ⟨_, _, _, rfl, numIn l, 1, 7, rfl, rfl, rfl, ?_⟩
    exact hq H1 s1
def sp_is_name (K : PySem.W.Frag) (A : Ad) : Sp := sp1 fun x H Q _ => ∃ l : List Nat, x = .str (S l) ∧ l.length ≤ 2000 ∧ ∀ H', Same H H' → Q (.bl (Sx62.isName l)) H'
theorem ok_is_name (T : Txt K mg A) : FnOk P w K mg base CX0 1 A.a_is_name A.d_is_name ["word"] (sp_is_name K A) := by
  refine T.F_is_name.ok sc_is_name (sp1_len) (fun cdv Ar outer s H vs Q E hr h => ?_)
  refine ⟨_, (pss_one (ps_ret (pe_and (pe_cmpR op_le pe_int (pe_callB call_len_str (by rfl) T.z_len PySem.boot_len (pa_cons (pv 0) pa_nil)) (nomark _)) (pe_and (pe_cmpR op_le (pe_callB call_len_str (by rfl) T.z_len PySem.boot_len (pa_cons (pv 0) pa_nil)) (pe_gI T.c_MOST_NAME) (nomark _)) (pe_one (pe_callB (cr_all rfl) (by rfl) T.z_all (by decide +kernel) (pa_cons (pe_lc (own := [("sign", 1)]) (g := gName 1) (tt := tYes) rfl sc_is_name.nd (pi_str (pv 0)) (blkOk_by (N := ["word", "sign"]) (sc := defScope s_is_name) (by decide +kernel)) (fun _ _ _ _ _ => (pg_name (i := 1) sc_is_name.nd rfl (Or.inl rfl))) (fun _ _ _ _ _ => pts_nil) (fun _ _ _ _ _ => (pe_cmpR op_in_sign (pv 1) (pe_gS T.c_NAME_LETTERS) rfl))) pa_nil))))))), ?_⟩
  obtain ⟨x, rfl, l, rfl, hl, hq⟩ := h
  have lz : (S l).length ≤ sizeLine := by rw [S_len, sizeLine_eq]; omega
  unfold Sx62.isName at hq
  refine ⟨_, rfl, S l, rfl, lz, _, _, rfl, rfl, _, rfl, iteB (fun h1 => ?_) (fun h1 => ?_)⟩
  · have e1 : 1 ≤ l.length := by rw [S_len] at h1; simp at h1; omega
    rw [decide_eq_true e1, Bool.true_and] at hq
    refine ⟨_, rfl, S l, rfl, lz, _, _, rfl, rfl, _, rfl, iteB (fun h2 => ?_) (fun h2 => ?_)⟩
    · have e2 : l.length ≤ 8 := by rw [S_len] at h2; simp at h2; omega
      rw [decide_eq_true e2, Bool.true_and] at hq
      refine all_in (l := l) (by omega) fun H1 s1 => ?_
      have ea : (l.all fun c => decide (c ∈ (Str.ofString "abcdefghijklmnopqrstuvwxyz").cps.toList)) = l.all Sx62.small := congrArg (fun f => l.all f) (funext let_dec)
      rw [ea]
      exact hq H1 s1
    · have e2 : ¬ l.length ≤ 8 := by rw [S_len] at h2; simp at h2; omega
      rw [decide_eq_false e2, Bool.false_and] at hq
      exact hq H (Same.refl _)
  · have e1 : ¬ 1 ≤ l.length := by rw [S_len] at h1; simp at h1; omega
    rw [decide_eq_false e1, Bool.false_and] at hq
    exact hq H (Same.refl _)
end
end Sc

set_option Elab.async false
set_option linter.all false
set_option maxRecDepth 100000
set_option maxHeartbeats 4000000
/-! # pitches, lengths, notes, rests, tuplets -/
namespace Sc
open PySem PySem.Spec PyProof.Rows L2 Pf
open Sx62 (Frac Pitch)
section
variable {P : Program} {w : World} {K : PySem.W.Frag} {mg : Str → Option Value} {base : Heap} {A : Ad}
def PiA (K : PySem.W.Frag) (H : Hp) (v : V) (p : Pitch) : Prop := ∃ a, v = .ref a ∧ SqT K H a [.int (p.octave : Int), .int (p.letter : Int), .int (p.sign : Int)]
theorem PiA.mono {H H' : Hp} {v : V} {p : Pitch} (e : Same H H') (h : PiA K H v p) : PiA K H' v p := by
  obtain ⟨a, rfl, h⟩ := h
  exact ⟨a, rfl, sameT e h⟩
structure PiOk (p : Pitch) : Prop where
  l : p.letter < 7
  s : p.sign < 5
  o : p.octave ≤ 9
theorem pit_ok {l : List Nat} {p : Pitch} (h : pit l = some p) : PiOk p := by
  obtain ⟨c, m, o, _, hc, hm, ho, eo⟩ := pitchOf_iff.mp (pit_iff.mp h)
  refine ⟨(let_mem hc).2, ?_, ?_⟩
  · have := acc_mem.mp hm
    rcases Nat.lt_or_ge p.sign 5 with h | h
    · exact h
    · rw [List.getElem?_eq_none (by simpa using h)] at this; cases this
  · have := digit_iff.mp ho; omega
def RetPiO (K : PySem.W.Frag) (H : Hp) (o : Option Pitch) (Q : VK) : Prop := match o with
  | some p => ∀ v H', Same H H' → PiA K H' v p → Q v H'
  | none => ∀ H', Same H H' → Q .non H'
theorem sc_pitch_in : FnScope ["word"] ["word"] (defScope s_pitch_in) := ⟨rfl, rfl, rfl, by decide +kernel, rfl, by decide +kernel, by decide +kernel⟩
theorem sc_pitch_word : FnScope ["pitch", "octave", "letter", "sign"] ["pitch"] (defScope s_pitch_word) := ⟨rfl, rfl, rfl, by decide +kernel, rfl, by decide +kernel, by decide +kernel⟩
theorem sc_length_in : FnScope ["word", "is_tied", "rest", "dots", "kind", "upper", "lower"] ["word"] (defScope s_length_in) := ⟨rfl, rfl, rfl, by decide +kernel, rfl, by decide +kernel, by decide +kernel⟩
theorem sc_note_in : FnScope ["word", "before", "stroke", "behind", "pitch", "told"] ["word"] (defScope s_note_in) := ⟨rfl, rfl, rfl, by decide +kernel, rfl, by decide +kernel, by decide +kernel⟩
theorem sc_rest_in : FnScope ["word", "told"] ["word"] (defScope s_rest_in) := ⟨rfl, rfl, rfl, by decide +kernel, rfl, by decide +kernel, by decide +kernel⟩
theorem sc_chord_end_in : FnScope ["word"] ["word"] (defScope s_chord_end_in) := ⟨rfl, rfl, rfl, by decide +kernel, rfl, by decide +kernel, by decide +kernel⟩
theorem sc_tuplet_in : FnScope ["word", "parts", "many", "within"] ["word"] (defScope s_tuplet_in) := ⟨rfl, rfl, rfl, by decide +kernel, rfl, by decide +kernel, by decide +kernel⟩
theorem letters_S : Str.ofString "cdefgab" = S Sx62.LETTERS := by decide +kernel
def accL : List (List Nat) := [[98, 98], [98], [], [35], [35, 35]]
theorem acc_S : [V.str (Str.ofString "bb"), V.str (Str.ofString "b"), V.str (Str.ofString ""), V.str (Str.ofString "#"), V.str (Str.ofString "##")] = (accL.map S).map V.str := by
  have h1 : Str.ofString "bb" = S [98, 98] := by decide +kernel
  have h2 : Str.ofString "b" = S [98] := by decide +kernel
  have h3 : Str.ofString "" = S [] := by decide +kernel
  have h4 : Str.ofString "#" = S [35] := by decide +kernel
  have h5 : Str.ofString "##" = S [35, 35] := by decide +kernel
  rw [h1, h2, h3, h4, h5]
  rfl
theorem acc_q (T : Txt K mg A) : KT K A.t_ACCIDENTALS ((accL.map S).map V.str) := by
  have := T.q_ACCIDENTALS
  rw [acc_S] at this
  exact this
theorem strBeq {a b : List Nat} : (S a == S b) = decide (a = b) := by
  rw [Bool.eq_iff_iff, beq_iff_eq, decide_eq_true_eq, S_inj]
theorem acc_in (m : List Nat) : inV (.str (S m)) ((accL.map S).map V.str) = (accOf m).isSome := by
  have e : inV (.str (S m)) ((accL.map S).map V.str) = accL.any fun a => decide (a = m) := by
    unfold inV
    rw [List.any_map, List.any_map]
    exact congrArg (fun f => accL.any f) (funext fun a => strBeq)
  rw [e]
  cases h : accOf m with
  | some s =>
    rw [List.any_eq_true.mpr]
    · rfl
    · have := acc_mem.mp h
      exact ⟨m, List.mem_of_getElem? this, by simp⟩
  | none =>
    cases z : accL.any fun a => decide (a = m) with
    | false => rfl
    | true =>
      obtain ⟨a, ha, hm⟩ := List.any_eq_true.mp z
      have : a = m := of_decide_eq_true hm
      subst this
      have : a = [98, 98] ∨ a = [98] ∨ a = [] ∨ a = [35] ∨ a = [35, 35] := by simpa [accL] using ha
      rcases this with rfl | rfl | rfl | rfl | rfl <;> cases h
theorem let_occ {c k : Nat} (h : letOf c = some k) : ∃ rest, Builtin.Str.occurrences (Str.ofString "cdefgab") (S [c]) 0 (Str.ofString "cdefgab").length 1 = k :: rest := by
  obtain ⟨h1, h2⟩ := let_mem h
  have : k = 0 ∨ k = 1 ∨ k = 2 ∨ k = 3 ∨ k = 4 ∨ k = 5 ∨ k = 6 := by omega
  rcases this with rfl | rfl | rfl | rfl | rfl | rfl | rfl <;> cases h1 <;> exact ⟨[], by decide +kernel⟩
theorem at_end {α : Type} (c o : α) (m : List α) : atI (c :: (m ++ [o])) (-1) = some o := atI_last (c :: m) o
theorem two_parts {l : List Nat} (h : 2 ≤ l.length) : ∃ c m o, l = c :: (m ++ [o]) := by
  cases l with
  | nil => simp at h
  | cons c r =>
    have hr : r ≠ [] := fun e => by rw [e] at h; simp at h
    exact ⟨c, r.dropLast, r.getLast hr, by rw [List.dropLast_concat_getLast]⟩
def sp_pitch_in (K : PySem.W.Frag) (A : Ad) : Sp := sp1 fun x H Q _ => ∃ l : List Nat, x = .str (S l) ∧ l.length ≤ 2000 ∧ RetPiO K H (pit l) Q
theorem ok_pitch_in (T : Txt K mg A) : FnOk P w K mg base CX0 1 A.a_pitch_in A.d_pitch_in ["word"] (sp_pitch_in K A) := by
  refine T.F_pitch_in.ok sc_pitch_in (sp1_len) (fun cdv Ar outer s H vs Q E hr h => ?_)
  refine ⟨_, (pss_cons (ps_if (PW.pt (pw_or (pt_cmpR op_lt (pe_callB call_len_str (by rfl) T.z_len PySem.boot_len (pa_cons (pv 0) pa_nil)) pe_int (nomark _)) (pw_or (pt_cmpR op_notIn_sign (pe_ix ix_str (pv 0) pe_int (fun _ _ => rfl)) (pe_gS T.c_LETTERS) rfl) (pw_or (pt_cmpR op_notIn_sign (pe_ix ix_str (pv 0) (pe_un un_neg pe_int) (fun _ _ => rfl)) (pe_gS T.c_FIGURES) rfl) (pw_or1 (pt_cmpR op_notIn_seq (pe_slice sl_str (pv 0) (po_some pe_int) (po_some (pe_un un_neg pe_int))) (pe_gR T.c_ACCIDENTALS) rfl)))))) (pss_one (ps_ret pe_non)) pss_nil)
      (pss_one (ps_ret (pe_tup (pa_cons (pe_callTy call_int_str (by rfl) T.z_int (by decide +kernel) (pa_cons (pe_ix ix_str (pv 0) (pe_un un_neg pe_int) (fun _ _ => rfl)) pa_nil)) (pa_cons (pe_bm PySem.F.plainAttrs_str PySem.F.slot_str_index PySem.F.type_str_index mt_sindex (pe_gS T.c_LETTERS) (pa_cons (pe_ix ix_str (pv 0) pe_int (fun _ _ => rfl)) pa_nil)) (pa_cons (pe_bm PySem.F.plainAttrs_tuple PySem.F.slot_tuple_index PySem.F.type_tuple_index mt_tup_index (pe_gR T.c_ACCIDENTALS) (pa_cons (pe_slice sl_str (pv 0) (po_some pe_int) (po_some (pe_un un_neg pe_int))) pa_nil)) pa_nil))))))), ?_⟩
  obtain ⟨x, rfl, l, rfl, hl, hq⟩ := h
  have lz : (S l).length ≤ sizeLine := by rw [S_len, sizeLine_eq]; omega
  refine ⟨_, rfl, S l, rfl, lz, _, _, rfl, rfl, _, rfl, iteB (fun h2 => ?_) (fun h2 => ?_)⟩
  · have : l.length < 2 := by rw [S_len] at h2; simp at h2; omega
    rw [pit_short this] at hq
    exact ite_t rfl (hq H (Same.refl _))
  have l2 : 2 ≤ l.length := by rw [S_len] at h2; simp at h2; omega
  obtain ⟨c, m, o, rfl⟩ := two_parts l2
  rw [pit_parts] at hq
  refine ⟨_, rfl, S _, 0, c, rfl, rfl, lz, at0 _ _, c, _, rfl, rfl, _, rfl, iteB (fun hc => ?_) (fun hc => ?_)⟩
  · have : c ∉ Sx62.LETTERS := by rw [letters_S, S_list] at hc; simpa using hc
    rw [let_none this] at hq
    exact ite_t rfl (hq H (Same.refl _))
  have cm : c ∈ Sx62.LETTERS := by rw [letters_S, S_list] at hc; simpa using hc
  obtain ⟨k, hk⟩ := let_some cm
  rw [hk] at hq
  refine ⟨_, rfl, _, rfl, S _, -1, o, rfl, rfl, lz, at_end _ _ _, o, _, rfl, rfl, _, rfl, iteB (fun ho => ?_) (fun ho => ?_)⟩
  · have : Sx62.digit o = false := by rw [fig_dec] at ho; simpa using ho
    rw [this] at hq
    refine ite_t rfl ?_
    cases ha : accOf m with
    | none => rw [ha] at hq; exact hq H (Same.refl _)
    | some s => rw [ha] at hq; exact hq H (Same.refl _)
  have od : Sx62.digit o = true := by rw [fig_dec] at ho; simpa using ho
  rw [od] at hq
  have mid : cutS (S (c :: (m ++ [o]))) (some 1) (some (-1)) = S m := by
    rw [cut_inner _ l2]
    congr 1
    rw [List.drop_succ_cons, List.drop_zero]
    refine List.take_left' ?_
    simp
  refine ⟨_, rfl, _, rfl, _, rfl, _, rfl, S _, rfl, lz, ?_⟩
  rw [mid]
  refine ⟨A.t_ACCIDENTALS, _, rfl, .inr (acc_q T).sq, rfl, rfl, _, rfl, ?_⟩
  show (if (!inV (.str (S m)) ((accL.map S).map V.str)) = true then _ else _)
  rw [acc_in]
  cases ha : accOf m with
  | none => rw [ha] at hq; exact ite_t rfl (hq H (Same.refl _))
  | some s =>
    rw [ha] at hq
    obtain ⟨rest, hocc⟩ := let_occ hk
    have oi := digit_iff.mp od
    have ei : PySem.intText? (S [o]) = some (((o - 48 : Nat)) : Int) := by
      have := int_S (l := [o]) (by simp [od]) (by simp) (by simp)
      rw [this]
      congr 2
      simp [numVal]
    have accs : accL[s]? = some m := acc_mem.mp ha
    refine ite_f rfl ?_
    refine ⟨_, rfl, _, rfl, S _, -1, o, rfl, rfl, lz, at_end _ _ _, _, _, rfl, ei, by show 1 ≤ 640; decide, ?_⟩
    refine ⟨rfl, _, rfl, S _, 0, c, rfl, rfl, lz, at0 _ _, _, S [c], k, rest, rfl, rfl, hocc, ?_⟩
    refine ⟨(acc_q T).ty, _, rfl, _, rfl, _, rfl, _, rfl, S _, rfl, lz, ?_⟩
    rw [mid]
    refine ⟨A.t_ACCIDENTALS, accL.map S, S m, s, rfl, rfl, (acc_q T).sq, by rw [List.getElem?_map, accs]; rfl, fun j hj e => ?_, by show 3 ≤ sizeLine; decide, fun p np => ?_⟩
    · rw [List.getElem?_map] at e
      cases ej : accL[j]? with
      | none => rw [ej] at e; cases e
      | some b =>
        rw [ej] at e
        have : b = m := S_inj.mp (Option.some.inj e)
        rw [this] at ej
        have h1 : accOf m = some j := acc_mem.mpr ej
        rw [ha] at h1
        have := Option.some.inj h1
        omega
    · exact hq _ _ (same_new np) ⟨p, rfl, SqT.of upd_same⟩
def sp_pitch_word (K : PySem.W.Frag) (A : Ad) : Sp := sp1 fun x H Q _ => ∃ p : Pitch, PiA K H x p ∧ PiOk p ∧ Q (.str (S (Sx62.pitchText p))) H
theorem str_digit {o : Nat} (h : o ≤ 9) : Str.ofString (toString ((o : Nat) : Int)) = S [48 + o] := by
  apply TL.ext_tl
  rw [TL.tl_num, TL.numL_lt (by omega)]
  rfl
theorem ok_pitch_word (T : Txt K mg A) : FnOk P w K mg base CX0 1 A.a_pitch_word A.d_pitch_word ["pitch"] (sp_pitch_word K A) := by
  refine T.F_pitch_word.ok sc_pitch_word (sp1_len) (fun cdv Ar outer s H vs Q E hr h => ?_)
  refine ⟨_, (pss_cons (ps_asg (pv 0) (pg_tup (n := 3) rfl (pgs_cons (pg_name (i := 1) sc_pitch_word.nd rfl (Or.inl rfl)) (pgs_cons (pg_name (i := 2) sc_pitch_word.nd rfl (Or.inl rfl)) (pgs_cons (pg_name (i := 3) sc_pitch_word.nd rfl (Or.inl rfl)) pgs_nil)))))
      (pss_one (ps_ret (pe_op op_add_str (pe_op op_add_str (pe_ix ix_str (pe_gS T.c_LETTERS) (pv 2) (fun _ _ => rfl)) (pe_ix ix_tup (pe_gR T.c_ACCIDENTALS) (pv 3) (fun _ _ => rfl))) (pe_callTy call_str_int (by rfl) T.z_str (by decide +kernel) (pa_cons (pv 1) pa_nil)))))), ?_⟩
  obtain ⟨x, rfl, p, ⟨a, rfl, ha⟩, ok, hq⟩ := h
  obtain ⟨c, hc⟩ : ∃ c, Sx62.LETTERS[p.letter]? = some c := ⟨_, List.getElem?_eq_getElem (show p.letter < Sx62.LETTERS.length from ok.l)⟩
  obtain ⟨m, hm⟩ : ∃ m, accL[p.sign]? = some m := ⟨_, List.getElem?_eq_getElem (show p.sign < accL.length from ok.s)⟩
  have ml : m.length ≤ 2 := by
    have : m = [98, 98] ∨ m = [98] ∨ m = [] ∨ m = [35] ∨ m = [35, 35] := by simpa [accL] using List.mem_of_getElem? hm
    rcases this with rfl | rfl | rfl | rfl | rfl <;> decide
  have e : Sx62.pitchText p = [c] ++ m ++ [48 + p.octave] := by
    unfold Sx62.pitchText Sx62.signText Sx62.dec
    have h1 : Sx62.LETTERS.getD p.letter 99 = c := by rw [List.getD_eq_getElem?_getD, hc]; rfl
    have h2 : ([[98, 98], [98], [], [35], [35, 35]] : List (List Nat)).getD p.sign [] = m := by
      rw [List.getD_eq_getElem?_getD]
      show (accL[p.sign]?).getD [] = m
      rw [hm]; rfl
    have h3 : Sx62.digits 4 p.octave = [48 + p.octave] := by
      show (if p.octave < 10 then [48 + p.octave] else _) = _
      rw [if_pos (by have := ok.o; omega)]
    rw [h1, h2, h3]
    rfl
  refine ⟨_, rfl, a, _, rfl, ha, rfl, _, _, rfl, _, _, rfl, _, _, rfl, rfl, ?_⟩
  refine ⟨_, rfl, Str.ofString "cdefgab", _, c, rfl, rfl, by decide +kernel, by rw [letters_S, S_list]; exact atI_nat hc, ?_⟩
  refine ⟨_, rfl, A.t_ACCIDENTALS, _, _, .str (S m), rfl, rfl, (acc_q T).sq, atI_nat (by rw [List.getElem?_map, List.getElem?_map, hm]; rfl), ?_⟩
  refine ⟨_, _, rfl, rfl, ?_, _, rfl, _, rfl, ?_, _, _, rfl, rfl, ?_, ?_⟩
  · show (S [c]).length + (S m).length ≤ sizeLine
    rw [S_len, S_len, sizeLine_eq]
    simp only [List.length_cons, List.length_nil]
    omega
  · have := ok.o
    have : p.octave = 0 ∨ p.octave = 1 ∨ p.octave = 2 ∨ p.octave = 3 ∨ p.octave = 4 ∨ p.octave = 5 ∨ p.octave = 6 ∨ p.octave = 7 ∨ p.octave = 8 ∨ p.octave = 9 := by omega
    rcases this with h | h | h | h | h | h | h | h | h | h <;> rw [h] <;> decide
  · show (S [c] ++ S m).length + (Str.ofString (toString ((p.octave : Nat) : Int))).length ≤ sizeLine
    rw [str_digit ok.o, S_app, S_len, S_len, sizeLine_eq]
    simp only [List.length_append, List.length_cons, List.length_nil]
    omega
  · have e2 : S [c] ++ S m ++ Str.ofString (toString ((p.octave : Nat) : Int)) = S (Sx62.pitchText p) := by
      rw [str_digit ok.o, S_app, S_app, e]
    show Q (.str (S [c] ++ S m ++ Str.ofString (toString ((p.octave : Nat) : Int)))) H
    rw [e2]
    exact hq
end
end Sc

set_option Elab.async false
set_option linter.all false
set_option maxRecDepth 100000
set_option maxHeartbeats 4000000
/-! # lengths, notes, rests, tuplets -/
namespace Sc
open PySem PySem.Spec PyProof.Rows L2 Pf
open Sx62 (Frac Pitch)
section
variable {P : Program} {w : World} {K : PySem.W.Frag} {mg : Str → Option Value} {base : Heap} {A : Ad}
/-- a sign's length without tuplets -/
def signF (k d : Nat) : Frac := Sx62.lowest (2 ^ (d + 1) - 1) (k * 2 ^ d)
def LnA (K : PySem.W.Frag) (H : Hp) (v : V) (y : Nat × Nat × Bool) : Prop := ∃ a u, v = .ref a ∧ SqT K H a [u, .bl y.2.2] ∧ FrA K H u (signF y.1 y.2.1)
def RetLnO (K : PySem.W.Frag) (H : Hp) (o : Option (Nat × Nat × Bool)) (Q : VK) : Prop := match o with
  | some y => ∀ v H', Same H H' → LnA K H' v y → Q v H'
  | none => ∀ H', Same H H' → Q .non H'
theorem tie_S : Str.ofString "~" = S [126] := by decide +kernel
theorem dot_S : Str.ofString "." = S [46] := by decide +kernel
theorem rest_S : Str.ofString "r" = S [114] := by decide +kernel
theorem close_S : Str.ofString "]" = S [93] := by decide +kernel
theorem brace_S : Str.ofString "{" = S [123] := by decide +kernel
theorem ends_S (l : List Nat) : PySem.Txt.endswith (S l) (S [126]) = (l.getLast? == some 126) := by
  unfold PySem.Txt.endswith
  rw [S_len, S_len]
  have e : Builtin.Str.subAt (S l) (S [126]) (l.length - 1) = decide (l.drop (l.length - 1) = [126]) := by
    unfold Builtin.Str.subAt
    rw [Bool.eq_iff_iff, beq_iff_eq, decide_eq_true_eq]
    have h1 : (S l).cps.extract (l.length - 1) (l.length - 1 + (S [126]).length) = (l.drop (l.length - 1)).toArray := by
      rw [S_len]
      apply Array.toList_inj.mp
      show (l.toArray.extract _ _).toList = _
      rw [List.extract_toArray]
      show (List.extract l _ _) = l.drop _
      unfold List.extract
      rw [List.take_of_length_le]
      rw [List.length_drop, List.length_cons, List.length_nil]
      omega
    rw [h1]
    show _ = [126].toArray ↔ _
    constructor
    · intro h; simpa using h
    · intro h; rw [h]
  show (decide (0 + [126].length ≤ l.length) && Builtin.Str.subAt (S l) (S [126]) (l.length - 1)) = _
  rw [e]
  rcases List.eq_nil_or_concat l with rfl | ⟨l, a, rfl⟩
  · rfl
  · rw [List.concat_eq_append, List.getLast?_concat]
    have e2 : (l ++ [a]).length - 1 = l.length := by simp
    rw [e2, List.drop_left]
    rw [Bool.eq_iff_iff]
    simp
theorem rstrip_S (l : List Nat) : PySem.Txt.rstripChars (S l) (S [46]) = S (rdot l) := by
  unfold PySem.Txt.rstripChars
  rw [stripBy_eq]
  apply TL.ext_tl
  rw [TL.tl_strSub]
  have h0 : stripLo (S [46]).cps.contains false (S l) = 0 := rfl
  rw [h0]
  have h1 : stripHi (S [46]).cps.contains true (S l) 0 = l.length - (l.reverse.takeWhile fun c => c == 46).length := by
    show (S l).length - (((S l).cps.toList.drop 0).reverse.takeWhile (S [46]).cps.contains).length = _
    rw [S_len, S_list, List.drop_zero]
    congr 3
    funext c
    show [46].toArray.contains c = _
    rw [Bool.eq_iff_iff]
    simp
  rw [h1]
  rfl
theorem kinds_in (o : Option Nat) : inV (natOr o) [.int 1, .int 2, .int 4, .int 8, .int 16, .int 32, .int 64] = (match o with | some n => Sx62.KINDS.contains n | none => false) := by
  cases o with
  | none => rfl
  | some n =>
    rw [Bool.eq_iff_iff]
    simp only [inV, natOr, List.any_cons, List.any_nil, eqV, Bool.or_false, Bool.or_eq_true, beq_iff_eq, Sx62.KINDS, List.contains_eq_mem, List.mem_cons, List.not_mem_nil, or_false, decide_eq_true_eq]
    omega
theorem dotted (T : Txt K mg A) {j : Nat} (hj : j ≤ 2) : ∃ a, [V.ref A.t_DOTTED0, .ref A.t_DOTTED1, .ref A.t_DOTTED2][j]? = some (.ref a) ∧ KT K a [.int ((2 ^ (j + 1) - 1 : Nat) : Int), .int ((2 ^ j : Nat) : Int)] := by
  have : j = 0 ∨ j = 1 ∨ j = 2 := by omega
  rcases this with rfl | rfl | rfl
  · exact ⟨_, rfl, T.q_DOTTED0⟩
  · exact ⟨_, rfl, T.q_DOTTED1⟩
  · exact ⟨_, rfl, T.q_DOTTED2⟩
def sp_length_in (K : PySem.W.Frag) (A : Ad) : Sp := sp1 fun x H Q _ => ∃ l : List Nat, x = .str (S l) ∧ l.length ≤ 2000 ∧ RetLnO K H (Sx62.longOf l) Q
theorem ok_length_in (T : Txt K mg A) : FnOk P w K mg base CX0 3 A.a_length_in A.d_length_in ["word"] (sp_length_in K A) := by
  have G_lowest := ok_lowest (P := P) (w := w) (base := base) T
  have G_number_in := ok_number_in (P := P) (w := w) (base := base) T
  refine T.F_length_in.ok sc_length_in (sp1_len) (fun cdv Ar outer s H vs Q E hr h => ?_)
  refine ⟨_, (pss_cons (ps_if (pt_cmpR op_ne (pe_slice sl_str (pv 0) po_none (po_some pe_int)) pe_str (nomark _)) (pss_one (ps_ret pe_non)) pss_nil)
      (pss_cons (ps_set (i := 1) sc_length_in.nd rfl (Or.inl rfl) (pe_bm PySem.F.plainAttrs_str PySem.F.slot_str_endswith PySem.F.type_str_endswith mt_endswith (pv 0) (pa_cons pe_str pa_nil)))
      (pss_cons (ps_set (i := 2) sc_length_in.nd rfl (Or.inl rfl) (pe_slice sl_str (pv 0) (po_some pe_int) (po_some (pe_op op_sub (pe_callB call_len_str (by rfl) T.z_len PySem.boot_len (pa_cons (pv 0) pa_nil)) (pe_callTy call_int1 (by rfl) T.z_int (by decide +kernel) (pa_cons (pv 1) pa_nil))))))
      (pss_cons (ps_set (i := 3) sc_length_in.nd rfl (Or.inl rfl) (pe_op op_sub (pe_callB call_len_str (by rfl) T.z_len PySem.boot_len (pa_cons (pv 2) pa_nil)) (pe_callB call_len_str (by rfl) T.z_len PySem.boot_len (pa_cons (pe_bm PySem.F.plainAttrs_str PySem.F.slot_str_rstrip PySem.F.type_str_rstrip mt_rstripChars (pv 2) (pa_cons pe_str pa_nil)) pa_nil))))
      (pss_cons (ps_set (i := 4) sc_length_in.nd rfl (Or.inl rfl) (pe_call G_number_in (hr.mono (by decide)) rfl T.g_number_in T.F_number_in.kp T.b_number_in .nil pass0 (pa_cons (pe_bm PySem.F.plainAttrs_str PySem.F.slot_str_rstrip PySem.F.type_str_rstrip mt_rstripChars (pv 2) (pa_cons pe_str pa_nil)) pa_nil)))
      (pss_cons (ps_if (PW.pt (pw_or (pt_cmpR op_ge (pv 3) (pe_callB call_len_seq (by rfl) T.z_len PySem.boot_len (pa_cons (pe_gR T.c_DOTTED) pa_nil)) (nomark _)) (pw_or1 (pt_cmpR op_notIn_seq (pv 4) (pe_gR T.c_KINDS) rfl)))) (pss_one (ps_ret pe_non)) pss_nil)
      (pss_cons (ps_asg (pe_ix ix_tup (pe_gR T.c_DOTTED) (pv 3) (fun _ _ => rfl)) (pg_tup (n := 2) rfl (pgs_cons (pg_name (i := 5) sc_length_in.nd rfl (Or.inl rfl)) (pgs_cons (pg_name (i := 6) sc_length_in.nd rfl (Or.inl rfl)) pgs_nil))))
      (pss_one (ps_ret (pe_tup (pa_cons (pe_call G_lowest (hr.mono (by decide)) rfl T.g_lowest T.F_lowest.kp T.b_lowest .nil pass0 (pa_cons (pv 5) (pa_cons (pe_op op_mul (pv 6) (pv 4)) pa_nil))) (pa_cons (pv 1) pa_nil)))))))))))), ?_⟩
  obtain ⟨x, rfl, l, rfl, hl, hq⟩ := h
  rw [← lenIn_eq] at hq
  have lz : (S l).length ≤ sizeLine := by rw [S_len, sizeLine_eq]; omega
  refine ⟨_, rfl, _, rfl, S l, rfl, lz, ?_⟩
  rw [cut_to]
  refine ⟨rfl, _, rfl, ?_⟩
  rw [stroke_S, take1_eq]
  by_cases h47 : l.head? = some 47
  rotate_left
  · have e : lenIn l = none := by unfold lenIn; rw [if_pos h47]
    rw [e] at hq
    exact ite_t (by rw [decide_eq_false h47]; rfl) (hq H (Same.refl _))
  refine ite_f (by rw [decide_eq_true h47]; rfl) ?_
  refine ⟨_, rfl, rfl, _, _, rfl, rfl, ?_⟩
  rw [tie_S, ends_S]
  generalize et : (l.getLast? == some 126) = t
  have l1 : 1 ≤ l.length := by cases l with | nil => cases h47 | cons c r => simp
  have lt : t = true → 2 ≤ l.length := fun z => by
    cases l with
    | nil => cases h47
    | cons c r =>
      cases r with
      | nil =>
        have e1 : c = 47 := by simpa using h47
        have e2 : c = 126 := by rw [z] at et; simpa using et
        omega
      | cons d r => simp
  generalize er : (l.drop 1).take (l.length - (if t then 1 else 0) - 1) = rest
  have cutr : cutS (S l) (some 1) (some (((S l).length : Int) - (if t = true then 1 else 0))) = S rest := by
    rw [S_len, cut_mid]
    · rw [← er]
      congr 2
      cases t with
      | true => simp only [if_true]; omega
      | false => simp only [Bool.false_eq_true, if_false]; omega
    · cases t with
      | true => have := lt rfl; simp only [if_true]; omega
      | false => simp only [Bool.false_eq_true, if_false]; omega
    · cases t with
      | true => simp only [if_true]; omega
      | false => simp only [Bool.false_eq_true, if_false]; omega
  refine ⟨_, rfl, _, rfl, _, rfl, S l, rfl, lz, _, rfl, .inr ⟨t, rfl, _, _, rfl, rfl, _, rfl, S l, rfl, lz, ?_⟩⟩
  rw [cutr]
  have lr : rest.length ≤ 2000 := by rw [← er, List.length_take, List.length_drop]; omega
  have rz : (S rest).length ≤ sizeLine := by rw [S_len, sizeLine_eq]; omega
  have ld : (rdot rest).length ≤ rest.length := by unfold rdot; rw [List.length_take]; omega
  have dz : (S (rdot rest)).length ≤ sizeLine := by rw [S_len, sizeLine_eq]; omega
  refine ⟨_, rfl, S rest, rfl, rz, _, rfl, rfl, _, _, rfl, rfl, rz, ?_⟩
  rw [dot_S, rstrip_S]
  refine ⟨S (rdot rest), rfl, dz, _, _, rfl, rfl, ?_⟩
  refine ⟨_, rfl, rfl, _, _, rfl, rfl, rz, ?_⟩
  rw [rstrip_S]
  refine ⟨_, rfl, rdot rest, rfl, by omega, fun H1 s1 => ?_⟩
  generalize ej : rest.length - (rdot rest).length = j
  have ejI : ((S rest).length : Int) - ((S (rdot rest)).length : Int) = (j : Int) := by rw [S_len, S_len]; omega
  have el : lenIn l = match numIn (rdot rest) with
      | none => none
      | some n => if 3 ≤ j ∨ Sx62.KINDS.contains n = false then none else some (n, j, t) := by
    unfold lenIn
    rw [if_neg (fun z => z h47)]
    simp only [et]
    rw [er, ej]
    all_goals (cases numIn (rdot rest) <;> rfl)
  rw [el] at hq
  refine ⟨_, rfl, A.t_DOTTED, _, rfl, .inr T.q_DOTTED.sq, _, _, rfl, rfl, _, rfl, ?_⟩
  rw [ejI]
  refine iteB (fun h3 => ?_) (fun h3 => ?_)
  · have j3 : 3 ≤ j := by
      simp only [List.length_cons, List.length_nil, decide_eq_true_eq] at h3
      omega
    refine ite_t rfl ?_
    cases hn : numIn (rdot rest) with
    | none => rw [hn] at hq; exact hq H1 s1
    | some n => rw [hn] at hq; simp only at hq; rw [if_pos (.inl j3)] at hq; exact hq H1 s1
  have j3 : j ≤ 2 := by
    simp only [List.length_cons, List.length_nil, decide_eq_false_iff_not] at h3
    omega
  refine ⟨_, rfl, A.t_KINDS, _, rfl, .inr T.q_KINDS.sq, natOr_flat _, rfl, _, rfl, ?_⟩
  show (if (!inV (natOr (numIn (rdot rest))) [.int 1, .int 2, .int 4, .int 8, .int 16, .int 32, .int 64]) = true then _ else _)
  rw [kinds_in]
  cases hn : numIn (rdot rest) with
  | none =>
    rw [hn] at hq
    exact ite_t rfl (hq H1 s1)
  | some n =>
    rw [hn] at hq
    simp only at hq
    cases hk : Sx62.KINDS.contains n with
    | false =>
      rw [if_pos (.inr hk)] at hq
      exact ite_t (by show (!Sx62.KINDS.contains n) = true; rw [hk]; rfl) (hq H1 s1)
    | true =>
      rw [if_neg (by rw [hk]; simp; omega)] at hq
      refine ite_f (by show (!Sx62.KINDS.contains n) = false; rw [hk]; rfl) ?_
      obtain ⟨a, ha, hd⟩ := dotted T j3
      obtain ⟨k0, k1, _⟩ := kinds_dvd hk
      obtain ⟨_, p0, p1, _⟩ := pow_dots j3
      refine ⟨_, rfl, A.t_DOTTED, _, _, _, rfl, rfl, T.q_DOTTED.sq, by rw [ejI]; exact atI_nat ha, ?_⟩
      refine ⟨a, _, rfl, hd.sq, rfl, _, _, rfl, _, _, rfl, rfl, ?_⟩
      refine ⟨_, rfl, _, rfl, _, rfl, _, _, rfl, rfl, .inl ⟨by omega, by omega⟩, ?_⟩
      refine ⟨_, _, rfl, 2 ^ (j + 1) - 1, n * 2 ^ j, rfl, ?_, Nat.mul_pos k0 p0, ?_, fun v H2 s2 hF => ?_⟩
      · show V.int (((2 ^ j : Nat) : Int) * (n : Int)) = _
        rw [Int.natCast_mul, Int.mul_comm]
      · exact Nat.lt_of_le_of_lt (Nat.mul_le_mul k1 p1) (by decide)
      · refine ⟨_, rfl, by show 2 ≤ sizeLine; decide, fun p np => ?_⟩
        exact hq _ _ ((s1.trans s2).trans (same_new np)) ⟨p, v, rfl, SqT.of upd_same, hF.mono (same_new np)⟩
/-! ### notes -/
def NtA (K : PySem.W.Frag) (H : Hp) (v : V) (x : Pitch × Nat × Nat × Bool) : Prop := ∃ a u f, v = .ref a ∧ SqT K H a [u, f, .bl x.2.2.2] ∧ PiA K H u x.1 ∧ FrA K H f (signF x.2.1 x.2.2.1)
def RetNtO (K : PySem.W.Frag) (H : Hp) (o : Option (Pitch × Nat × Nat × Bool)) (Q : VK) : Prop := match o with
  | some y => ∀ v H', Same H H' → NtA K H' v y → Q v H'
  | none => ∀ H', Same H H' → Q .non H'
def sp_note_in (K : PySem.W.Frag) (A : Ad) : Sp := sp1 fun x H Q _ => ∃ l : List Nat, x = .str (S l) ∧ l.length ≤ 2000 ∧ RetNtO K H (noteIn l) Q
theorem partition_S {s : Nat} {a b : List Nat} (h : s ∉ a) : PySem.Txt.partition (S (a ++ s :: b)) (S [s]) = (S a, S [s], S b) := by
  have e : S (a ++ s :: b) = S a ++ S [s] ++ S b := by rw [S_app, S_app]; congr 1; simp
  rw [e]
  exact TL.partition_app (s := s) (S := []) rfl h
theorem partition_S0 {s : Nat} {a : List Nat} (h : s ∉ a) : PySem.Txt.partition (S a) (S [s]) = (S a, S [], S []) := TL.partition_none (s := s) (S := []) rfl h
theorem ok_note_in (T : Txt K mg A) : FnOk P w K mg base CX0 4 A.a_note_in A.d_note_in ["word"] (sp_note_in K A) := by
  have G_length_in := ok_length_in (P := P) (w := w) (base := base) T
  have G_pitch_in := ok_pitch_in (P := P) (w := w) (base := base) T
  refine T.F_note_in.ok sc_note_in (sp1_len) (fun cdv Ar outer s H vs Q E hr h => ?_)
  refine ⟨_, (pss_cons (ps_asg (pe_partition (pv 0) pe_str) (pg_tup (n := 3) rfl (pgs_cons (pg_name (i := 1) sc_note_in.nd rfl (Or.inl rfl)) (pgs_cons (pg_name (i := 2) sc_note_in.nd rfl (Or.inl rfl)) (pgs_cons (pg_name (i := 3) sc_note_in.nd rfl (Or.inl rfl)) pgs_nil)))))
      (pss_cons (ps_set (i := 4) sc_note_in.nd rfl (Or.inl rfl) (pe_call G_pitch_in (hr.mono (by decide)) rfl T.g_pitch_in T.F_pitch_in.kp T.b_pitch_in .nil pass0 (pa_cons (pv 1) pa_nil)))
      (pss_cons (ps_set (i := 5) sc_note_in.nd rfl (Or.inl rfl) (pe_call G_length_in (hr.mono (by decide)) rfl T.g_length_in T.F_length_in.kp T.b_length_in .nil pass0 (pa_cons (pe_op op_add_str (pv 2) (pv 3)) pa_nil)))
      (pss_cons (ps_if (PW.pt (pw_or (pt_cmpR op_isN (pv 4) pe_non (nomark _)) (pw_or1 (pt_cmpR op_isN (pv 5) pe_non (nomark _))))) (pss_one (ps_ret pe_non)) pss_nil)
      (pss_one (ps_ret (pe_tup (pa_cons (pv 4) (pa_cons (pe_ix ix_tup (pv 5) pe_int (fun _ _ => rfl)) (pa_cons (pe_ix ix_tup (pv 5) pe_int (fun _ _ => rfl)) pa_nil)))))))))), ?_⟩
  obtain ⟨x, rfl, l, rfl, hl, hq⟩ := h
  have lz : (S l).length ≤ sizeLine := by rw [S_len, sizeLine_eq]; omega
  obtain ⟨a, st, b, hp, e1, e2, la, lb⟩ : ∃ a st b : List Nat, PySem.Txt.partition (S l) (S [47]) = (S a, S st, S b) ∧ noteIn l = (match pit a, Sx62.longOf (st ++ b) with
      | some p, some y => some (p, y)
      | _, _ => none) ∧ (st.length ≤ 1) ∧ a.length ≤ 2000 ∧ (st ++ b).length ≤ 2000 := by
    cases hc : Sx62.cutAt 47 l with
    | none =>
      have n47 := cutAt_none hc
      refine ⟨l, [], [], partition_S0 n47, ?_, by simp, hl, by simp⟩
      rw [noteIn_none n47]
      cases pit l <;> rfl
    | some x =>
      obtain ⟨a, b⟩ := x
      obtain ⟨h1, h2⟩ := cutAt_some hc
      simp only at h1 h2
      have hlen := congrArg List.length h1
      rw [List.length_append, List.length_cons] at hlen
      exact ⟨a, [47], b, by rw [h1]; exact partition_S h2, by rw [h1]; exact noteIn_cut h2, by simp, by omega, by simp; omega⟩
  rw [e1] at hq
  refine ⟨_, rfl, ⟨_, rfl⟩, _, _, rfl, rfl, by decide, lz, fun p np => ?_⟩
  rw [stroke_S, hp]
  have s1 := same_new (o := .tup [.str (S a), .str (S st), .str (S b)]) np
  refine ⟨p, _, rfl, SqT.of upd_same, rfl, _, _, rfl, _, _, rfl, _, _, rfl, rfl, ?_⟩
  generalize upd H p (.tup [.str (S a), .str (S st), .str (S b)]) = H1 at s1 ⊢
  refine ⟨_, rfl, _, rfl, a, rfl, la, ?_⟩
  -- told: what's behind is read for any pitch
  have told : ∀ (v : V) (H2 : Hp), Same H H2 → ((∃ pt, pit a = some pt ∧ PiA K H2 v pt) ∨ (pit a = none ∧ v = .non)) → tSeq (tAsg (tCall (sp_length_in K A) [] E0 (tCons (tOp (fun x y H Q => ∃ i j, x = .str i ∧ y = .str j ∧ i.length + j.length ≤ sizeLine ∧ Q (.str (i ++ j)) H) (tVar 2) (tVar 3)) tNil)) (gName 5))
      (tSeq (tIfS (tOr (tTest (tOp (fun x y H Q => y = .non ∧ Q (.bl (decide (x = .non))) H) (tVar 4) (tC .non))) (tTest (tOp (fun x y H Q => y = .non ∧ Q (.bl (decide (x = .non))) H) (tVar 5) (tC .non)))) (tRet (tC .non)) tNext)
        (tRet (tTup (tCons (tVar 4) (tCons (tOp (rIxT K) (tVar 5) (tC (.int 0))) (tCons (tOp (rIxT K) (tVar 5) (tC (.int 1))) tNil))))))
      { nx := fun _ H' => Q .non H', rt := Q } [some (.str (S l)), some (.str (S a)), some (.str (S st)), some (.str (S b)), some v, none] H2 := by
    intro v H2 s2 hv
    refine ⟨_, rfl, _, rfl, _, _, rfl, rfl, by rw [S_len, S_len, sizeLine_eq]; simp at lb; omega, _, rfl, st ++ b, by rw [S_app], lb, ?_⟩
    rcases hv with ⟨pt, hpt, hv⟩ | ⟨hpt, rfl⟩
    · rw [hpt] at hq
      have nv : decide (v = .non) = false := by
        obtain ⟨q, rfl, _⟩ := hv
        exact decide_eq_false (fun z => by cases z)
      cases hlo : Sx62.longOf (st ++ b) with
      | none =>
        rw [hlo] at hq
        intro H3 s3
        refine ⟨_, rfl, rfl, _, rfl, ite_f nv ⟨_, rfl, rfl, _, rfl, ite_t rfl ?_⟩⟩
        exact hq H3 (s2.trans s3)
      | some y =>
        rw [hlo] at hq
        rintro v2 H3 s3 ⟨q, f, rfl, hqt, hf⟩
        refine ⟨_, rfl, rfl, _, rfl, ite_f nv ⟨_, rfl, rfl, _, rfl, ite_f rfl ?_⟩⟩
        refine ⟨_, rfl, _, rfl, q, _, 0, _, rfl, rfl, hqt, at0 _ _, _, rfl, q, _, 1, _, rfl, rfl, hqt, at1 _ _ _, by show 3 ≤ sizeLine; decide, fun r nr => ?_⟩
        have s4 := same_new (o := .tup [v, f, .bl y.2.2]) nr
        exact hq _ _ ((s2.trans s3).trans s4) ⟨r, v, f, rfl, SqT.of upd_same, hv.mono (s3.trans s4), hf.mono s4⟩
    · rw [hpt] at hq
      cases hlo : Sx62.longOf (st ++ b) with
      | none =>
        rw [hlo] at hq
        intro H3 s3
        exact ⟨_, rfl, rfl, _, rfl, ite_t rfl (ite_t rfl (hq H3 (s2.trans s3)))⟩
      | some y =>
        rw [hlo] at hq
        rintro v2 H3 s3 _
        exact ⟨_, rfl, rfl, _, rfl, ite_t rfl (ite_t rfl (hq H3 (s2.trans s3)))⟩
  cases hpt : pit a with
  | none => exact fun H2 s2 => told _ H2 (s1.trans s2) (.inr ⟨hpt, rfl⟩)
  | some pt => exact fun v H2 s2 hv => told v H2 (s1.trans s2) (.inl ⟨pt, hpt, hv⟩)
def restF (l : List Nat) : Option Frac := (restIn l).map fun y => signF y.1 y.2
def sp_rest_in (K : PySem.W.Frag) (A : Ad) : Sp := sp1 fun x H Q _ => ∃ l : List Nat, x = .str (S l) ∧ l.length ≤ 2000 ∧ RetFrO K H (restF l) Q
theorem restIn_head {l : List Nat} (h : l.head? ≠ some 114) : restIn l = none := by
  unfold restIn
  split
  · exact absurd rfl h
  · rfl
theorem restIn_cons {l : List Nat} (h : l.head? = some 114) : restIn l = match Sx62.longOf (l.drop 1) with
    | some (k, d, false) => some (k, d)
    | _ => none := by
  cases l with
  | nil => cases h
  | cons c r =>
    have : c = 114 := by simpa using h
    subst this
    rfl
theorem ok_rest_in (T : Txt K mg A) : FnOk P w K mg base CX0 4 A.a_rest_in A.d_rest_in ["word"] (sp_rest_in K A) := by
  have G_length_in := ok_length_in (P := P) (w := w) (base := base) T
  refine T.F_rest_in.ok sc_rest_in (sp1_len) (fun cdv Ar outer s H vs Q E hr h => ?_)
  refine ⟨_, (pss_cons (ps_set (i := 1) sc_rest_in.nd rfl (Or.inl rfl) (pe_call G_length_in (hr.mono (by decide)) rfl T.g_length_in T.F_length_in.kp T.b_length_in .nil pass0 (pa_cons (pe_slice sl_str (pv 0) (po_some pe_int) po_none) pa_nil)))
      (pss_cons (ps_if (PW.pt (pw_or (pt_cmpR op_ne (pe_slice sl_str (pv 0) po_none (po_some pe_int)) pe_str (nomark _)) (pw_or (pt_cmpR op_isN (pv 1) pe_non (nomark _)) (pw_or1 (pt_val (pe_ix ix_tup (pv 1) pe_int (fun _ _ => rfl))))))) (pss_one (ps_ret pe_non)) pss_nil)
      (pss_one (ps_ret (pe_ix ix_tup (pv 1) pe_int (fun _ _ => rfl)))))), ?_⟩
  obtain ⟨x, rfl, l, rfl, hl, hq⟩ := h
  have lz : (S l).length ≤ sizeLine := by rw [S_len, sizeLine_eq]; omega
  refine ⟨_, rfl, _, rfl, S l, rfl, lz, _, rfl, l.drop 1, by rw [cut_one], by rw [List.length_drop]; omega, ?_⟩
  unfold restF at hq
  by_cases h114 : l.head? = some 114
  · rw [restIn_cons h114] at hq
    cases hlo : Sx62.longOf (l.drop 1) with
    | none =>
      rw [hlo] at hq
      intro H1 s1
      refine ⟨_, rfl, _, rfl, S l, rfl, lz, ?_⟩
      rw [cut_to]
      refine ⟨rfl, _, rfl, ?_⟩
      rw [rest_S, take1_eq]
      refine ite_f (by rw [decide_eq_true h114]; rfl) ⟨_, rfl, rfl, _, rfl, ite_t rfl (ite_t rfl (hq H1 s1))⟩
    | some y =>
      rw [hlo] at hq
      rintro v H1 s1 ⟨a, f, rfl, ha, hf⟩
      refine ⟨_, rfl, _, rfl, S l, rfl, lz, ?_⟩
      rw [cut_to]
      refine ⟨rfl, _, rfl, ?_⟩
      rw [rest_S, take1_eq]
      refine ite_f (by rw [decide_eq_true h114]; rfl) ⟨_, rfl, rfl, _, rfl, ite_f rfl ⟨_, rfl, a, _, 1, _, rfl, rfl, ha, at1 _ _ _, _, rfl, ?_⟩⟩
      obtain ⟨k, d, t⟩ := y
      cases t with
      | true => exact ite_t rfl (hq H1 s1)
      | false => exact ite_f rfl ⟨_, rfl, a, _, 0, _, rfl, rfl, ha, at0 _ _, hq f H1 s1 hf⟩
  · rw [restIn_head h114] at hq
    have any : ∀ (v : V) (H1 : Hp), Same H H1 → tSeq (tIfS (tOr (tTest (tOp rNe (tSl rSlS (tVar 0) tNoPart (tPart (tC (.int 1)))) (tC (.str (Str.ofString "r"))))) (tOr (tTest (tOp (fun x y H Q => y = .non ∧ Q (.bl (decide (x = .non))) H) (tVar 1) (tC .non))) (tB (tOp (rIxT K) (tVar 1) (tC (.int 1)))))) (tRet (tC .non)) tNext)
        (tRet (tOp (rIxT K) (tVar 1) (tC (.int 0)))) { nx := fun _ H' => Q .non H', rt := Q } [some (.str (S l)), some v] H1 := by
      intro v H1 s1
      refine ⟨_, rfl, _, rfl, S l, rfl, lz, ?_⟩
      rw [cut_to]
      refine ⟨rfl, _, rfl, ?_⟩
      rw [rest_S, take1_eq]
      exact ite_t (by rw [decide_eq_false h114]; rfl) (ite_t rfl (hq H1 s1))
    cases hlo : Sx62.longOf (l.drop 1) with
    | none => exact fun H1 s1 => any _ H1 s1
    | some y => exact fun v H1 s1 _ => any v H1 s1
theorem chordEnd_head {l : List Nat} : chordEnd l = if l.head? = some 93 then Sx62.longOf (l.drop 1) else none := by
  unfold chordEnd
  split
  · rfl
  · rename_i h
    rw [if_neg]
    cases l with
    | nil => simp
    | cons c r =>
      intro z
      have : c = 93 := by simpa using z
      subst this
      exact h r rfl
def sp_chord_end_in (K : PySem.W.Frag) (A : Ad) : Sp := sp1 fun x H Q _ => ∃ l : List Nat, x = .str (S l) ∧ l.length ≤ 2000 ∧ RetLnO K H (chordEnd l) Q
theorem ok_chord_end_in (T : Txt K mg A) : FnOk P w K mg base CX0 4 A.a_chord_end_in A.d_chord_end_in ["word"] (sp_chord_end_in K A) := by
  have G_length_in := ok_length_in (P := P) (w := w) (base := base) T
  refine T.F_chord_end_in.ok sc_chord_end_in (sp1_len) (fun cdv Ar outer s H vs Q E hr h => ?_)
  refine ⟨_, (pss_cons (ps_if (pt_cmpR op_ne (pe_slice sl_str (pv 0) po_none (po_some pe_int)) pe_str (nomark _)) (pss_one (ps_ret pe_non)) pss_nil)
      (pss_one (ps_ret (pe_call G_length_in (hr.mono (by decide)) rfl T.g_length_in T.F_length_in.kp T.b_length_in .nil pass0 (pa_cons (pe_slice sl_str (pv 0) (po_some pe_int) po_none) pa_nil))))), ?_⟩
  obtain ⟨x, rfl, l, rfl, hl, hq⟩ := h
  have lz : (S l).length ≤ sizeLine := by rw [S_len, sizeLine_eq]; omega
  rw [chordEnd_head] at hq
  refine ⟨_, rfl, _, rfl, S l, rfl, lz, ?_⟩
  rw [cut_to]
  refine ⟨rfl, _, rfl, ?_⟩
  rw [close_S, take1_eq]
  by_cases h93 : l.head? = some 93
  · rw [if_pos h93] at hq
    refine ite_f (by rw [decide_eq_true h93]; rfl) ?_
    exact ⟨_, rfl, _, rfl, S l, rfl, lz, _, rfl, l.drop 1, by rw [cut_one], by rw [List.length_drop]; omega, hq⟩
  · rw [if_neg h93] at hq
    exact ite_t (by rw [decide_eq_false h93]; rfl) (hq H (Same.refl _))
/-! ### tuplets -/
def tupF (l : List Nat) : Option (Nat × Nat) := if l.head? = some 123 then Sx62.ratioOf (l.drop 1) else none
def tupletF (l : List Nat) : Option Frac := (tupF l).map fun x => Sx62.lowest x.2 x.1
def sp_tuplet_in (K : PySem.W.Frag) (A : Ad) : Sp := sp1 fun x H Q _ => ∃ l : List Nat, x = .str (S l) ∧ l.length ≤ 2000 ∧ RetFrO K H (tupletF l) Q
theorem from_in {o : Option Nat} : inR o 2 9 = true ↔ ∃ n, o = some n ∧ 2 ≤ n ∧ n ≤ 9 := by
  cases o with
  | none => simp [inR]
  | some n => simp [inR]
theorem ok_tuplet_in (T : Txt K mg A) : FnOk P w K mg base CX0 3 A.a_tuplet_in A.d_tuplet_in ["word"] (sp_tuplet_in K A) := by
  have G_is_from := ok_is_from (P := P) (w := w) (base := base) T
  have G_lowest := ok_lowest (P := P) (w := w) (base := base) T
  have G_number_in := ok_number_in (P := P) (w := w) (base := base) T
  refine T.F_tuplet_in.ok sc_tuplet_in (sp1_len) (fun cdv Ar outer s H vs Q E hr h => ?_)
  refine ⟨_, (pss_cons (ps_set (i := 1) sc_tuplet_in.nd rfl (Or.inl rfl) (pe_split (pe_slice sl_str (pv 0) (po_some pe_int) po_none) pe_str))
      (pss_cons (ps_if (PW.pt (pw_or (pt_cmpR op_ne (pe_slice sl_str (pv 0) po_none (po_some pe_int)) pe_str (nomark _)) (pw_or1 (pt_cmpR op_ne (pe_callB call_len_seq (by rfl) T.z_len PySem.boot_len (pa_cons (pv 1) pa_nil)) pe_int (nomark _))))) (pss_one (ps_ret pe_non)) pss_nil)
      (pss_cons (ps_par (i := 2) (j := 3) rfl sc_tuplet_in.nd rfl rfl (by decide) rfl rfl (pa_cons (pe_call G_number_in (hr.mono (by decide)) rfl T.g_number_in T.F_number_in.kp T.b_number_in .nil pass0 (pa_cons (pe_ix ix_list (pv 1) pe_int (fun _ _ => rfl)) pa_nil)) (pa_cons (pe_call G_number_in (hr.mono (by decide)) rfl T.g_number_in T.F_number_in.kp T.b_number_in .nil pass0 (pa_cons (pe_ix ix_list (pv 1) pe_int (fun _ _ => rfl)) pa_nil)) pa_nil)) (by rfl))
      (pss_cons (ps_if (PW.pt (pw_or (pt_not (pt_val (pe_call G_is_from (hr.mono (by decide)) rfl T.g_is_from T.F_is_from.kp T.b_is_from .nil pass0 (pa_cons (pv 2) (pa_cons (pe_gI T.c_LEAST_TUPLET) (pa_cons (pe_gI T.c_MOST_TUPLET) pa_nil)))))) (pw_or (pt_not (pt_val (pe_call G_is_from (hr.mono (by decide)) rfl T.g_is_from T.F_is_from.kp T.b_is_from .nil pass0 (pa_cons (pv 3) (pa_cons (pe_gI T.c_LEAST_TUPLET) (pa_cons (pe_gI T.c_MOST_TUPLET) pa_nil)))))) (pw_or1 (pt_cmpR op_eq (pv 2) (pv 3) (nomark _)))))) (pss_one (ps_ret pe_non)) pss_nil)
      (pss_one (ps_ret (pe_call G_lowest (hr.mono (by decide)) rfl T.g_lowest T.F_lowest.kp T.b_lowest .nil pass0 (pa_cons (pv 3) (pa_cons (pv 2) pa_nil))))))))), ?_⟩
  obtain ⟨x, rfl, l, rfl, hl, hq⟩ := h
  have lz : (S l).length ≤ sizeLine := by rw [S_len, sizeLine_eq]; omega
  have l1 : (l.drop 1).length ≤ 2000 := by rw [List.length_drop]; omega
  refine ⟨_, rfl, _, rfl, S l, rfl, lz, ⟨_, rfl⟩, _, _, rfl, rfl, by decide, by rw [cut_one, S_len, sizeLine_eq]; omega, fun p np => ?_⟩
  have s1 : Same H (upd H p (.lst ((PySem.Txt.split (cutS (S l) (some 1) none) (Str.ofString ":")).map V.str))) := same_new np
  have hp : (upd H p (.lst ((PySem.Txt.split (cutS (S l) (some 1) none) (Str.ofString ":")).map V.str))) p = some (.lst ((splitL 58 (l.drop 1)).map fun z => V.str (S z))) := by
    rw [upd_same, cut_one, colon_S, split_S 58 (by decide), List.map_map]; rfl
  generalize upd H p (.lst ((PySem.Txt.split (cutS (S l) (some 1) none) (Str.ofString ":")).map V.str)) = H1 at s1 hp ⊢
  refine ⟨_, rfl, _, rfl, S l, rfl, lz, ?_⟩
  rw [cut_to]
  refine ⟨rfl, _, rfl, ?_⟩
  rw [brace_S, take1_eq]
  unfold tupletF tupF at hq
  by_cases h123 : l.head? = some 123
  rotate_left
  · rw [if_neg h123] at hq
    exact ite_t (by rw [decide_eq_false h123]; rfl) (ite_t rfl (hq H1 s1))
  rw [if_pos h123] at hq
  refine ite_f (by rw [decide_eq_true h123]; rfl) ?_
  refine ⟨_, rfl, p, _, rfl, .inl (SqL.of hp), rfl, _, rfl, ?_⟩
  rw [List.length_map, decN (j := 2) (k := 2) rfl]
  rcases split_two (s := 58) (l := l.drop 1) with ⟨a, b, h1, h2, h3⟩ | ⟨h1, h2⟩
  rotate_left
  · rw [ratio_none h2] at hq
    exact ite_t (by simpa using h1) (hq H1 s1)
  rw [h1] at hp
  rw [h1]
  have e1 := cutAt_some h2
  have la : a.length ≤ 2000 ∧ b.length ≤ 2000 := by
    have := congrArg List.length e1.1
    simp only [List.length_append, List.length_cons] at this
    omega
  rw [ratio_some h2] at hq
  refine ite_f rfl ?_
  refine ⟨_, rfl, p, _, 0, _, rfl, rfl, SqL.of hp, at0 _ _, _, rfl, a, rfl, la.1, fun H2 s2 => ?_⟩
  refine ⟨_, rfl, p, _, 1, _, rfl, rfl, SqL.of (s2 _ _ hp), at1 _ _ _, _, rfl, b, rfl, la.2, fun H3 s3 => ?_⟩
  refine ⟨_, _, rfl, ?_⟩
  have s4 := (s1.trans s2).trans s3
  -- no tuplet
  have none_of : (¬ ∃ n m, numIn a = some n ∧ numIn b = some m ∧ (2 ≤ n ∧ n ≤ 9) ∧ (2 ≤ m ∧ m ≤ 9) ∧ n ≠ m) → Q .non H3 := fun hno => by
    cases ea : numIn a with
    | none => rw [ea] at hq; exact hq H3 s4
    | some n =>
      cases eb : numIn b with
      | none => rw [ea, eb] at hq; exact hq H3 s4
      | some m =>
        rw [ea, eb] at hq
        simp only at hq
        rw [if_neg fun z => hno ⟨n, m, ea, eb, z⟩] at hq
        exact hq H3 s4
  refine ⟨_, rfl, _, _, _, rfl, numIn a, 2, 9, rfl, rfl, rfl, _, rfl, ?_⟩
  refine iteB (fun hb => ?_) (fun hb => ?_)
  · refine ite_t rfl (none_of fun ⟨n, m, z1, z2, z3, z4, z5⟩ => ?_)
    rw [from_in.mpr ⟨n, z1, z3.1, z3.2⟩] at hb
    cases hb
  have ha : ∃ n, numIn a = some n ∧ 2 ≤ n ∧ n ≤ 9 := from_in.mp (by simpa using hb)
  refine ⟨_, rfl, _, _, _, rfl, numIn b, 2, 9, rfl, rfl, rfl, _, rfl, ?_⟩
  refine iteB (fun hb2 => ?_) (fun hb2 => ?_)
  · refine ite_t rfl (none_of fun ⟨n, m, z1, z2, z3, z4, z5⟩ => ?_)
    rw [from_in.mpr ⟨m, z2, z4.1, z4.2⟩] at hb2
    cases hb2
  have hb3 : ∃ n, numIn b = some n ∧ 2 ≤ n ∧ n ≤ 9 := from_in.mp (by simpa using hb2)
  obtain ⟨n, ea, n2, n9⟩ := ha
  obtain ⟨m, eb, m2, m9⟩ := hb3
  rw [ea, eb] at hq
  rw [ea, eb]
  refine ⟨_, rfl, _, rfl, rfl, _, rfl, ?_⟩
  show (if decide (V.int (n : Int) = V.int (m : Int)) = true then _ else _)
  rw [decN (k := m) rfl]
  refine iteB (fun he => ?_) (fun he => ?_)
  · have : n = m := of_decide_eq_true he
    refine none_of fun ⟨n', m', z1, z2, z3, z4, z5⟩ => ?_
    rw [ea] at z1
    rw [eb] at z2
    cases z1; cases z2
    exact z5 this
  · have hne : n ≠ m := of_decide_eq_false he
    simp only at hq
    rw [if_pos ⟨⟨n2, n9⟩, ⟨m2, m9⟩, hne⟩] at hq
    exact ⟨_, rfl, _, rfl, _, _, rfl, m, n, rfl, rfl, by omega, Nat.lt_of_le_of_lt n9 (by decide), RetFr.back hq s4⟩
end
end Sc

set_option Elab.async false
set_option linter.all false
set_option maxRecDepth 100000
set_option maxHeartbeats 4000000
/-! # rules that the layer lacks; classes; the reader's small methods -/
namespace Sc
open PySem PySem.Spec PyProof.Rows L2 Pf
open Sx62 (Frac Pitch Word)
/-! ### fields -/
theorem lk_here {k : Str} {v : V} {r : List (Str × V)} : List.lookup k ((k, v) :: r) = some v := by
  have e : (k == k) = true := beq_self_eq_true k
  simp only [List.lookup, e]
theorem lk_past {k g : Str} {v : V} {r : List (Str × V)} (h : (k == g) = false) : List.lookup k ((g, v) :: r) = List.lookup k r := by
  simp only [List.lookup, h]
theorem put_here {f : Str} {v x : V} {r : List (Str × V)} : putF f v ((f, x) :: r) = (f, v) :: r := if_pos rfl
theorem put_past {f g : Str} {v x : V} {r : List (Str × V)} (h : ¬ g = f) : putF f v ((g, x) :: r) = (g, x) :: putF f v r := if_neg h
theorem putF_snoc {f : Str} {v : V} : ∀ {l : List (Str × V)} {ns : List Str}, l.map (·.1) = ns → f ∉ ns → putF f v l = l ++ [(f, v)]
  | [], _, _, _ => rfl
  | (g, x) :: r, ns, e, h => by
    subst e
    have h1 : ¬ g = f := fun z => h (by rw [z]; exact List.mem_cons_self)
    rw [put_past h1, putF_snoc rfl fun z => h (List.mem_cons_of_mem _ z)]
    rfl
def F_Event (x0 x1 x2 x3 : V) : List (Str × V) := [(("pitches" : Str), x0), (("long" : Str), x1), (("is_tied" : Str), x2), (("place" : Str), x3)]
section
variable {x0 x1 x2 x3 y : V}
theorem l_Event_pitches : (F_Event x0 x1 x2 x3).lookup ("pitches" : Str) = some x0 := lk_here
theorem u_Event_pitches : putF "pitches" y (F_Event x0 x1 x2 x3) = F_Event y x1 x2 x3 := put_here
theorem l_Event_long : (F_Event x0 x1 x2 x3).lookup ("long" : Str) = some x1 := (lk_past (by decide +kernel)).trans (lk_here)
theorem u_Event_long : putF "long" y (F_Event x0 x1 x2 x3) = F_Event x0 y x2 x3 := (put_past (by decide +kernel)).trans (congrArg _ (put_here))
theorem l_Event_is_tied : (F_Event x0 x1 x2 x3).lookup ("is_tied" : Str) = some x2 := (lk_past (by decide +kernel)).trans ((lk_past (by decide +kernel)).trans (lk_here))
theorem u_Event_is_tied : putF "is_tied" y (F_Event x0 x1 x2 x3) = F_Event x0 x1 y x3 := (put_past (by decide +kernel)).trans (congrArg _ ((put_past (by decide +kernel)).trans (congrArg _ (put_here))))
theorem l_Event_place : (F_Event x0 x1 x2 x3).lookup ("place" : Str) = some x3 := (lk_past (by decide +kernel)).trans ((lk_past (by decide +kernel)).trans ((lk_past (by decide +kernel)).trans (lk_here)))
theorem u_Event_place : putF "place" y (F_Event x0 x1 x2 x3) = F_Event x0 x1 x2 y := (put_past (by decide +kernel)).trans (congrArg _ ((put_past (by decide +kernel)).trans (congrArg _ ((put_past (by decide +kernel)).trans (congrArg _ (put_here))))))
theorem new_Event : putF "place" x3 (putF "is_tied" x2 (putF "long" x1 (putF "pitches" x0 ([])))) = F_Event x0 x1 x2 x3 := by
  have h1 : putF "long" x1 [(("pitches" : Str), x0)] = [(("pitches" : Str), x0), (("long" : Str), x1)] := putF_snoc (ns := ["pitches"]) rfl (by decide +kernel)
  have h2 : putF "is_tied" x2 [(("pitches" : Str), x0), (("long" : Str), x1)] = [(("pitches" : Str), x0), (("long" : Str), x1), (("is_tied" : Str), x2)] := putF_snoc (ns := ["pitches", "long"]) rfl (by decide +kernel)
  have h3 : putF "place" x3 [(("pitches" : Str), x0), (("long" : Str), x1), (("is_tied" : Str), x2)] = [(("pitches" : Str), x0), (("long" : Str), x1), (("is_tied" : Str), x2), (("place" : Str), x3)] := putF_snoc (ns := ["pitches", "long", "is_tied"]) rfl (by decide +kernel)
  have h0 : putF "pitches" x0 [] = [(("pitches" : Str), x0)] := rfl
  rw [h0, h1, h2, h3]
  rfl
end
def F_Bar (x0 x1 x2 x3 : V) : List (Str × V) := [(("words" : Str), x0), (("events" : Str), x1), (("is_short" : Str), x2), (("place" : Str), x3)]
section
variable {x0 x1 x2 x3 y : V}
theorem l_Bar_words : (F_Bar x0 x1 x2 x3).lookup ("words" : Str) = some x0 := lk_here
theorem u_Bar_words : putF "words" y (F_Bar x0 x1 x2 x3) = F_Bar y x1 x2 x3 := put_here
theorem l_Bar_events : (F_Bar x0 x1 x2 x3).lookup ("events" : Str) = some x1 := (lk_past (by decide +kernel)).trans (lk_here)
theorem u_Bar_events : putF "events" y (F_Bar x0 x1 x2 x3) = F_Bar x0 y x2 x3 := (put_past (by decide +kernel)).trans (congrArg _ (put_here))
theorem l_Bar_is_short : (F_Bar x0 x1 x2 x3).lookup ("is_short" : Str) = some x2 := (lk_past (by decide +kernel)).trans ((lk_past (by decide +kernel)).trans (lk_here))
theorem u_Bar_is_short : putF "is_short" y (F_Bar x0 x1 x2 x3) = F_Bar x0 x1 y x3 := (put_past (by decide +kernel)).trans (congrArg _ ((put_past (by decide +kernel)).trans (congrArg _ (put_here))))
theorem l_Bar_place : (F_Bar x0 x1 x2 x3).lookup ("place" : Str) = some x3 := (lk_past (by decide +kernel)).trans ((lk_past (by decide +kernel)).trans ((lk_past (by decide +kernel)).trans (lk_here)))
theorem u_Bar_place : putF "place" y (F_Bar x0 x1 x2 x3) = F_Bar x0 x1 x2 y := (put_past (by decide +kernel)).trans (congrArg _ ((put_past (by decide +kernel)).trans (congrArg _ ((put_past (by decide +kernel)).trans (congrArg _ (put_here))))))
theorem l_Bar_length : (F_Bar x0 x1 x2 x3).lookup ("length" : Str) = none := (lk_past (by decide +kernel)).trans ((lk_past (by decide +kernel)).trans ((lk_past (by decide +kernel)).trans ((lk_past (by decide +kernel)).trans (rfl))))
theorem new_Bar : putF "place" x3 (putF "is_short" x2 (putF "events" x1 (putF "words" x0 ([])))) = F_Bar x0 x1 x2 x3 := by
  have h1 : putF "events" x1 [(("words" : Str), x0)] = [(("words" : Str), x0), (("events" : Str), x1)] := putF_snoc (ns := ["words"]) rfl (by decide +kernel)
  have h2 : putF "is_short" x2 [(("words" : Str), x0), (("events" : Str), x1)] = [(("words" : Str), x0), (("events" : Str), x1), (("is_short" : Str), x2)] := putF_snoc (ns := ["words", "events"]) rfl (by decide +kernel)
  have h3 : putF "place" x3 [(("words" : Str), x0), (("events" : Str), x1), (("is_short" : Str), x2)] = [(("words" : Str), x0), (("events" : Str), x1), (("is_short" : Str), x2), (("place" : Str), x3)] := putF_snoc (ns := ["words", "events", "is_short"]) rfl (by decide +kernel)
  have h0 : putF "words" x0 [] = [(("words" : Str), x0)] := rfl
  rw [h0, h1, h2, h3]
  rfl
end
def F_Voice (x0 x1 x2 : V) : List (Str × V) := [(("name" : Str), x0), (("bars" : Str), x1), (("place" : Str), x2)]
section
variable {x0 x1 x2 y : V}
theorem l_Voice_name : (F_Voice x0 x1 x2).lookup ("name" : Str) = some x0 := lk_here
theorem u_Voice_name : putF "name" y (F_Voice x0 x1 x2) = F_Voice y x1 x2 := put_here
theorem l_Voice_bars : (F_Voice x0 x1 x2).lookup ("bars" : Str) = some x1 := (lk_past (by decide +kernel)).trans (lk_here)
theorem u_Voice_bars : putF "bars" y (F_Voice x0 x1 x2) = F_Voice x0 y x2 := (put_past (by decide +kernel)).trans (congrArg _ (put_here))
theorem l_Voice_place : (F_Voice x0 x1 x2).lookup ("place" : Str) = some x2 := (lk_past (by decide +kernel)).trans ((lk_past (by decide +kernel)).trans (lk_here))
theorem u_Voice_place : putF "place" y (F_Voice x0 x1 x2) = F_Voice x0 x1 y := (put_past (by decide +kernel)).trans (congrArg _ ((put_past (by decide +kernel)).trans (congrArg _ (put_here))))
theorem l_Voice_all_events : (F_Voice x0 x1 x2).lookup ("all_events" : Str) = none := (lk_past (by decide +kernel)).trans ((lk_past (by decide +kernel)).trans ((lk_past (by decide +kernel)).trans (rfl)))
theorem new_Voice : putF "place" x2 (putF "bars" x1 (putF "name" x0 ([]))) = F_Voice x0 x1 x2 := by
  have h1 : putF "bars" x1 [(("name" : Str), x0)] = [(("name" : Str), x0), (("bars" : Str), x1)] := putF_snoc (ns := ["name"]) rfl (by decide +kernel)
  have h2 : putF "place" x2 [(("name" : Str), x0), (("bars" : Str), x1)] = [(("name" : Str), x0), (("bars" : Str), x1), (("place" : Str), x2)] := putF_snoc (ns := ["name", "bars"]) rfl (by decide +kernel)
  have h0 : putF "name" x0 [] = [(("name" : Str), x0)] := rfl
  rw [h0, h1, h2]
  rfl
end
def F_Score (x0 x1 x2 x3 : V) : List (Str × V) := [(("metre" : Str), x0), (("whole" : Str), x1), (("key_word" : Str), x2), (("voices" : Str), x3)]
section
variable {x0 x1 x2 x3 y : V}
theorem l_Score_metre : (F_Score x0 x1 x2 x3).lookup ("metre" : Str) = some x0 := lk_here
theorem u_Score_metre : putF "metre" y (F_Score x0 x1 x2 x3) = F_Score y x1 x2 x3 := put_here
theorem l_Score_whole : (F_Score x0 x1 x2 x3).lookup ("whole" : Str) = some x1 := (lk_past (by decide +kernel)).trans (lk_here)
theorem u_Score_whole : putF "whole" y (F_Score x0 x1 x2 x3) = F_Score x0 y x2 x3 := (put_past (by decide +kernel)).trans (congrArg _ (put_here))
theorem l_Score_key_word : (F_Score x0 x1 x2 x3).lookup ("key_word" : Str) = some x2 := (lk_past (by decide +kernel)).trans ((lk_past (by decide +kernel)).trans (lk_here))
theorem u_Score_key_word : putF "key_word" y (F_Score x0 x1 x2 x3) = F_Score x0 x1 y x3 := (put_past (by decide +kernel)).trans (congrArg _ ((put_past (by decide +kernel)).trans (congrArg _ (put_here))))
theorem l_Score_voices : (F_Score x0 x1 x2 x3).lookup ("voices" : Str) = some x3 := (lk_past (by decide +kernel)).trans ((lk_past (by decide +kernel)).trans ((lk_past (by decide +kernel)).trans (lk_here)))
theorem u_Score_voices : putF "voices" y (F_Score x0 x1 x2 x3) = F_Score x0 x1 x2 y := (put_past (by decide +kernel)).trans (congrArg _ ((put_past (by decide +kernel)).trans (congrArg _ ((put_past (by decide +kernel)).trans (congrArg _ (put_here))))))
theorem new_Score : putF "voices" x3 (putF "key_word" x2 (putF "whole" x1 (putF "metre" x0 ([])))) = F_Score x0 x1 x2 x3 := by
  have h1 : putF "whole" x1 [(("metre" : Str), x0)] = [(("metre" : Str), x0), (("whole" : Str), x1)] := putF_snoc (ns := ["metre"]) rfl (by decide +kernel)
  have h2 : putF "key_word" x2 [(("metre" : Str), x0), (("whole" : Str), x1)] = [(("metre" : Str), x0), (("whole" : Str), x1), (("key_word" : Str), x2)] := putF_snoc (ns := ["metre", "whole"]) rfl (by decide +kernel)
  have h3 : putF "voices" x3 [(("metre" : Str), x0), (("whole" : Str), x1), (("key_word" : Str), x2)] = [(("metre" : Str), x0), (("whole" : Str), x1), (("key_word" : Str), x2), (("voices" : Str), x3)] := putF_snoc (ns := ["metre", "whole", "key_word"]) rfl (by decide +kernel)
  have h0 : putF "metre" x0 [] = [(("metre" : Str), x0)] := rfl
  rw [h0, h1, h2, h3]
  rfl
end
def F_Reader (x0 x1 x2 x3 x4 x5 x6 : V) : List (Str × V) := [(("words" : Str), x0), (("at" : Str), x1), (("end" : Str), x2), (("bar_words" : Str), x3), (("events" : Str), x4), (("many" : Str), x5), (("by" : Str), x6)]
section
variable {x0 x1 x2 x3 x4 x5 x6 y : V}
theorem l_Reader_words : (F_Reader x0 x1 x2 x3 x4 x5 x6).lookup ("words" : Str) = some x0 := lk_here
theorem u_Reader_words : putF "words" y (F_Reader x0 x1 x2 x3 x4 x5 x6) = F_Reader y x1 x2 x3 x4 x5 x6 := put_here
theorem l_Reader_at : (F_Reader x0 x1 x2 x3 x4 x5 x6).lookup ("at" : Str) = some x1 := (lk_past (by decide +kernel)).trans (lk_here)
theorem u_Reader_at : putF "at" y (F_Reader x0 x1 x2 x3 x4 x5 x6) = F_Reader x0 y x2 x3 x4 x5 x6 := (put_past (by decide +kernel)).trans (congrArg _ (put_here))
theorem l_Reader_end : (F_Reader x0 x1 x2 x3 x4 x5 x6).lookup ("end" : Str) = some x2 := (lk_past (by decide +kernel)).trans ((lk_past (by decide +kernel)).trans (lk_here))
theorem u_Reader_end : putF "end" y (F_Reader x0 x1 x2 x3 x4 x5 x6) = F_Reader x0 x1 y x3 x4 x5 x6 := (put_past (by decide +kernel)).trans (congrArg _ ((put_past (by decide +kernel)).trans (congrArg _ (put_here))))
theorem l_Reader_bar_words : (F_Reader x0 x1 x2 x3 x4 x5 x6).lookup ("bar_words" : Str) = some x3 := (lk_past (by decide +kernel)).trans ((lk_past (by decide +kernel)).trans ((lk_past (by decide +kernel)).trans (lk_here)))
theorem u_Reader_bar_words : putF "bar_words" y (F_Reader x0 x1 x2 x3 x4 x5 x6) = F_Reader x0 x1 x2 y x4 x5 x6 := (put_past (by decide +kernel)).trans (congrArg _ ((put_past (by decide +kernel)).trans (congrArg _ ((put_past (by decide +kernel)).trans (congrArg _ (put_here))))))
theorem l_Reader_events : (F_Reader x0 x1 x2 x3 x4 x5 x6).lookup ("events" : Str) = some x4 := (lk_past (by decide +kernel)).trans ((lk_past (by decide +kernel)).trans ((lk_past (by decide +kernel)).trans ((lk_past (by decide +kernel)).trans (lk_here))))
theorem u_Reader_events : putF "events" y (F_Reader x0 x1 x2 x3 x4 x5 x6) = F_Reader x0 x1 x2 x3 y x5 x6 := (put_past (by decide +kernel)).trans (congrArg _ ((put_past (by decide +kernel)).trans (congrArg _ ((put_past (by decide +kernel)).trans (congrArg _ ((put_past (by decide +kernel)).trans (congrArg _ (put_here))))))))
theorem l_Reader_many : (F_Reader x0 x1 x2 x3 x4 x5 x6).lookup ("many" : Str) = some x5 := (lk_past (by decide +kernel)).trans ((lk_past (by decide +kernel)).trans ((lk_past (by decide +kernel)).trans ((lk_past (by decide +kernel)).trans ((lk_past (by decide +kernel)).trans (lk_here)))))
theorem u_Reader_many : putF "many" y (F_Reader x0 x1 x2 x3 x4 x5 x6) = F_Reader x0 x1 x2 x3 x4 y x6 := (put_past (by decide +kernel)).trans (congrArg _ ((put_past (by decide +kernel)).trans (congrArg _ ((put_past (by decide +kernel)).trans (congrArg _ ((put_past (by decide +kernel)).trans (congrArg _ ((put_past (by decide +kernel)).trans (congrArg _ (put_here))))))))))
theorem l_Reader_by : (F_Reader x0 x1 x2 x3 x4 x5 x6).lookup ("by" : Str) = some x6 := (lk_past (by decide +kernel)).trans ((lk_past (by decide +kernel)).trans ((lk_past (by decide +kernel)).trans ((lk_past (by decide +kernel)).trans ((lk_past (by decide +kernel)).trans ((lk_past (by decide +kernel)).trans (lk_here))))))
theorem u_Reader_by : putF "by" y (F_Reader x0 x1 x2 x3 x4 x5 x6) = F_Reader x0 x1 x2 x3 x4 x5 y := (put_past (by decide +kernel)).trans (congrArg _ ((put_past (by decide +kernel)).trans (congrArg _ ((put_past (by decide +kernel)).trans (congrArg _ ((put_past (by decide +kernel)).trans (congrArg _ ((put_past (by decide +kernel)).trans (congrArg _ ((put_past (by decide +kernel)).trans (congrArg _ (put_here))))))))))))
theorem l_Reader_look : (F_Reader x0 x1 x2 x3 x4 x5 x6).lookup ("look" : Str) = none := (lk_past (by decide +kernel)).trans ((lk_past (by decide +kernel)).trans ((lk_past (by decide +kernel)).trans ((lk_past (by decide +kernel)).trans ((lk_past (by decide +kernel)).trans ((lk_past (by decide +kernel)).trans ((lk_past (by decide +kernel)).trans (rfl)))))))
theorem l_Reader_here : (F_Reader x0 x1 x2 x3 x4 x5 x6).lookup ("here" : Str) = none := (lk_past (by decide +kernel)).trans ((lk_past (by decide +kernel)).trans ((lk_past (by decide +kernel)).trans ((lk_past (by decide +kernel)).trans ((lk_past (by decide +kernel)).trans ((lk_past (by decide +kernel)).trans ((lk_past (by decide +kernel)).trans (rfl)))))))
theorem l_Reader_want : (F_Reader x0 x1 x2 x3 x4 x5 x6).lookup ("want" : Str) = none := (lk_past (by decide +kernel)).trans ((lk_past (by decide +kernel)).trans ((lk_past (by decide +kernel)).trans ((lk_past (by decide +kernel)).trans ((lk_past (by decide +kernel)).trans ((lk_past (by decide +kernel)).trans ((lk_past (by decide +kernel)).trans (rfl)))))))
theorem l_Reader_take : (F_Reader x0 x1 x2 x3 x4 x5 x6).lookup ("take" : Str) = none := (lk_past (by decide +kernel)).trans ((lk_past (by decide +kernel)).trans ((lk_past (by decide +kernel)).trans ((lk_past (by decide +kernel)).trans ((lk_past (by decide +kernel)).trans ((lk_past (by decide +kernel)).trans ((lk_past (by decide +kernel)).trans (rfl)))))))
theorem l_Reader_take_word : (F_Reader x0 x1 x2 x3 x4 x5 x6).lookup ("take_word" : Str) = none := (lk_past (by decide +kernel)).trans ((lk_past (by decide +kernel)).trans ((lk_past (by decide +kernel)).trans ((lk_past (by decide +kernel)).trans ((lk_past (by decide +kernel)).trans ((lk_past (by decide +kernel)).trans ((lk_past (by decide +kernel)).trans (rfl)))))))
theorem l_Reader_score : (F_Reader x0 x1 x2 x3 x4 x5 x6).lookup ("score" : Str) = none := (lk_past (by decide +kernel)).trans ((lk_past (by decide +kernel)).trans ((lk_past (by decide +kernel)).trans ((lk_past (by decide +kernel)).trans ((lk_past (by decide +kernel)).trans ((lk_past (by decide +kernel)).trans ((lk_past (by decide +kernel)).trans (rfl)))))))
theorem l_Reader_voice : (F_Reader x0 x1 x2 x3 x4 x5 x6).lookup ("voice" : Str) = none := (lk_past (by decide +kernel)).trans ((lk_past (by decide +kernel)).trans ((lk_past (by decide +kernel)).trans ((lk_past (by decide +kernel)).trans ((lk_past (by decide +kernel)).trans ((lk_past (by decide +kernel)).trans ((lk_past (by decide +kernel)).trans (rfl)))))))
theorem l_Reader_bar : (F_Reader x0 x1 x2 x3 x4 x5 x6).lookup ("bar" : Str) = none := (lk_past (by decide +kernel)).trans ((lk_past (by decide +kernel)).trans ((lk_past (by decide +kernel)).trans ((lk_past (by decide +kernel)).trans ((lk_past (by decide +kernel)).trans ((lk_past (by decide +kernel)).trans ((lk_past (by decide +kernel)).trans (rfl)))))))
theorem l_Reader_piece_word : (F_Reader x0 x1 x2 x3 x4 x5 x6).lookup ("piece_word" : Str) = none := (lk_past (by decide +kernel)).trans ((lk_past (by decide +kernel)).trans ((lk_past (by decide +kernel)).trans ((lk_past (by decide +kernel)).trans ((lk_past (by decide +kernel)).trans ((lk_past (by decide +kernel)).trans ((lk_past (by decide +kernel)).trans (rfl)))))))
theorem l_Reader_one_more : (F_Reader x0 x1 x2 x3 x4 x5 x6).lookup ("one_more" : Str) = none := (lk_past (by decide +kernel)).trans ((lk_past (by decide +kernel)).trans ((lk_past (by decide +kernel)).trans ((lk_past (by decide +kernel)).trans ((lk_past (by decide +kernel)).trans ((lk_past (by decide +kernel)).trans ((lk_past (by decide +kernel)).trans (rfl)))))))
theorem l_Reader_put : (F_Reader x0 x1 x2 x3 x4 x5 x6).lookup ("put" : Str) = none := (lk_past (by decide +kernel)).trans ((lk_past (by decide +kernel)).trans ((lk_past (by decide +kernel)).trans ((lk_past (by decide +kernel)).trans ((lk_past (by decide +kernel)).trans ((lk_past (by decide +kernel)).trans ((lk_past (by decide +kernel)).trans (rfl)))))))
theorem l_Reader_single : (F_Reader x0 x1 x2 x3 x4 x5 x6).lookup ("single" : Str) = none := (lk_past (by decide +kernel)).trans ((lk_past (by decide +kernel)).trans ((lk_past (by decide +kernel)).trans ((lk_past (by decide +kernel)).trans ((lk_past (by decide +kernel)).trans ((lk_past (by decide +kernel)).trans ((lk_past (by decide +kernel)).trans (rfl)))))))
theorem l_Reader_chord : (F_Reader x0 x1 x2 x3 x4 x5 x6).lookup ("chord" : Str) = none := (lk_past (by decide +kernel)).trans ((lk_past (by decide +kernel)).trans ((lk_past (by decide +kernel)).trans ((lk_past (by decide +kernel)).trans ((lk_past (by decide +kernel)).trans ((lk_past (by decide +kernel)).trans ((lk_past (by decide +kernel)).trans (rfl)))))))
theorem new_Reader : putF "by" x6 (putF "many" x5 (putF "events" x4 (putF "bar_words" x3 (putF "end" x2 (putF "at" x1 (putF "words" x0 ([]))))))) = F_Reader x0 x1 x2 x3 x4 x5 x6 := by
  have h1 : putF "at" x1 [(("words" : Str), x0)] = [(("words" : Str), x0), (("at" : Str), x1)] := putF_snoc (ns := ["words"]) rfl (by decide +kernel)
  have h2 : putF "end" x2 [(("words" : Str), x0), (("at" : Str), x1)] = [(("words" : Str), x0), (("at" : Str), x1), (("end" : Str), x2)] := putF_snoc (ns := ["words", "at"]) rfl (by decide +kernel)
  have h3 : putF "bar_words" x3 [(("words" : Str), x0), (("at" : Str), x1), (("end" : Str), x2)] = [(("words" : Str), x0), (("at" : Str), x1), (("end" : Str), x2), (("bar_words" : Str), x3)] := putF_snoc (ns := ["words", "at", "end"]) rfl (by decide +kernel)
  have h4 : putF "events" x4 [(("words" : Str), x0), (("at" : Str), x1), (("end" : Str), x2), (("bar_words" : Str), x3)] = [(("words" : Str), x0), (("at" : Str), x1), (("end" : Str), x2), (("bar_words" : Str), x3), (("events" : Str), x4)] := putF_snoc (ns := ["words", "at", "end", "bar_words"]) rfl (by decide +kernel)
  have h5 : putF "many" x5 [(("words" : Str), x0), (("at" : Str), x1), (("end" : Str), x2), (("bar_words" : Str), x3), (("events" : Str), x4)] = [(("words" : Str), x0), (("at" : Str), x1), (("end" : Str), x2), (("bar_words" : Str), x3), (("events" : Str), x4), (("many" : Str), x5)] := putF_snoc (ns := ["words", "at", "end", "bar_words", "events"]) rfl (by decide +kernel)
  have h6 : putF "by" x6 [(("words" : Str), x0), (("at" : Str), x1), (("end" : Str), x2), (("bar_words" : Str), x3), (("events" : Str), x4), (("many" : Str), x5)] = [(("words" : Str), x0), (("at" : Str), x1), (("end" : Str), x2), (("bar_words" : Str), x3), (("events" : Str), x4), (("many" : Str), x5), (("by" : Str), x6)] := putF_snoc (ns := ["words", "at", "end", "bar_words", "events", "many"]) rfl (by decide +kernel)
  have h0 : putF "words" x0 [] = [(("words" : Str), x0)] := rfl
  rw [h0, h1, h2, h3, h4, h5, h6]
  rfl
end
def F_Holder (x0 : V) : List (Str × V) := [(("held" : Str), x0)]
section
variable {x0 y : V}
theorem l_Holder_held : (F_Holder x0).lookup ("held" : Str) = some x0 := lk_here
theorem u_Holder_held : putF "held" y (F_Holder x0) = F_Holder y := put_here
theorem l_Holder_score : (F_Holder x0).lookup ("score" : Str) = none := (lk_past (by decide +kernel)).trans (rfl)
theorem l_Holder_read : (F_Holder x0).lookup ("read" : Str) = none := (lk_past (by decide +kernel)).trans (rfl)
theorem l_Holder_form : (F_Holder x0).lookup ("form" : Str) = none := (lk_past (by decide +kernel)).trans (rfl)
theorem l_Holder_sounds : (F_Holder x0).lookup ("sounds" : Str) = none := (lk_past (by decide +kernel)).trans (rfl)
theorem l_Holder_bars_told : (F_Holder x0).lookup ("bars_told" : Str) = none := (lk_past (by decide +kernel)).trans (rfl)
theorem l_Holder_same : (F_Holder x0).lookup ("same" : Str) = none := (lk_past (by decide +kernel)).trans (rfl)
theorem l_Holder_place_told : (F_Holder x0).lookup ("place_told" : Str) = none := (lk_past (by decide +kernel)).trans (rfl)
theorem l_Holder_called : (F_Holder x0).lookup ("called" : Str) = none := (lk_past (by decide +kernel)).trans (rfl)
theorem l_Holder_answer : (F_Holder x0).lookup ("answer" : Str) = none := (lk_past (by decide +kernel)).trans (rfl)
theorem new_Holder : putF "held" x0 ([]) = F_Holder x0 := by
  have h0 : putF "held" x0 [] = [(("held" : Str), x0)] := rfl
  rw [h0]
  rfl
end

/-! ### rules -/
section
variable {X : Cx}
/-- C(e, ..), C's own __init__ keeping sp; the exception has no context -/
theorem pmk_oexN {CX : CXT} {x : Str} {e : Expr} {es : List Expr} {ta : TA} {p pos : Pos} {C fI : Addr} {k : Nat} {fd : FuncData} {ps : List Str} {sp : Sp} (T : OexC X.K C) (iC : PySem.W.findIn X.K (.ref C) "__init__" = some (some (.ref fI))) (tI : PySem.W.typeIn X.K (.ref fI) = some (.type "function"))
    (F1 : FnOk X.prog X.w X.K X.mg X.base CX k fI fd ps sp) (hr : Room (k + 1) X.A) (hb : Binds X.K fd ps []) (hx : Passes CX X (fun _ _ _ => False)) (hg : Gl X x) (hm : X.mg x = some (.ref C)) (ha : PA X (e :: es) ta)
    (hdb : (x == ("__debug__" : Str)) = false := by decide) (he : starEach (e :: es) X.env = (false, eval e X.env) :: starEach es X.env := by rfl) (hpl : (backTo pos (starEach es X.env)).any (·.1) = false := by rfl) :
    L2N.PMk X (.Call (.Name x p) (e :: es) [] pos) (tMkO C sp [] ta) := by
  intro pins s σ H Q I h
  obtain ⟨nm, q, N, bs, bm, sn, sub, ab, col, dd, k0, k1, k2, k3, k5, hC, hbm⟩ := T.cls
  refine wpAny_Call_Name_kw (ld_glob I hg hm ?_ hdb)
  refine PySem.W.callWith_K (h₀ := X.base) I.ok.mod.kin T.kC (thn (ha.run pos pins s σ H _ I h) fun us s1 ⟨vs, H1, I1, r1, hz, q1⟩ => ⟨I1.kIn, ?_⟩) he hpl
  show wpAny _ _ (call (.ref C) us) _ _ _
  obtain ⟨hp, g, dr, tk, os⟩ := s1
  have hsz : hp.objs.size ≤ hp.objs.size + 1 := Nat.le_succ _
  have hn : H1 (hp.objs.size + 1) = none := I1.hok.fresh hsz
  have hq := q1 (hp.objs.size + 1) hn
  rw [List.append_nil] at hq
  have kk : ∀ b o, hp.get? b = some o → ((hp.push (PySem.W.kdv_tup us)).push (PySem.HandSPX.excO C hp.objs.size)).get? b = some o := fun b o e => Heap.get?_push_of_some _ (Heap.get?_push_of_some _ e)
  have hget : ((hp.push (PySem.W.kdv_tup us)).push (PySem.HandSPX.excO C hp.objs.size)).get? (hp.objs.size + 1) = some (PySem.HandSPX.excO C hp.objs.size) := by heap_get
  have I2 : Inv X pins σ (upd H1 (hp.objs.size + 1) (exo (hp.objs.size + 1) C none)) ⟨(hp.push (PySem.W.kdv_tup us)).push (PySem.HandSPX.excO C hp.objs.size), g, dr, tk, os⟩ :=
    I1.laid (t' := tk) (a := hp.objs.size + 1) (o := exo (hp.objs.size + 1) C none) (h' := (hp.push (PySem.W.kdv_tup us)).push (PySem.HandSPX.excO C hp.objs.size)) kk hsz (exo_ok hget)
  have r2 : Vals (V.ref (hp.objs.size + 1) :: vs) (Value.ref (hp.objs.size + 1) :: us) := .cons rfl r1
  have hl : (Value.ref (hp.objs.size + 1) :: us ++ []).length = ps.length := by
    have e := r2.length
    rw [F1.len _ _ _ _ hq] at e
    rw [List.append_nil]
    exact e.symm
  have hus : us.length ≤ sizeLine := by
    rw [← Paired.length r1, sizeLine_eq]
    omega
  have b2 := hb _ (Value.ref (hp.objs.size + 1) :: us) I2.kIn hl
  rw [List.append_nil] at b2
  refine wpAny_call (PySem.HandSPX.call_own F.excBase_ValueError (fun Y => PySem.HandSPX.refsVE_contains Y bm hbm) (I1.kIn _ _ hC) (PySem.W.looks_findIn I1.kIn iC) (fun self => PySem.W.bind_fn I1.kIn self tI) hus
    (codeAny_mono (F1.run _ X.stack _ _ ⟨Value.ref (hp.objs.size + 1) :: us, []⟩ (Value.ref (hp.objs.size + 1) :: us) _ _ (fun _ _ _ => False) (hr.make C us []) (I2.env0.make C us []) b2 r2 hq) fun r s' hq' => ?_))
  cases r with
  | error er => exact hx pins σ _ _ er s' I2 hq'
  | ok fl =>
    cases fl with
    | ret u =>
      obtain ⟨v, H2, os2, bare2, un2, hok2, rv, ev, d, fs, ea, ed, hd1, q2⟩ := hq'
      subst ev
      obtain ⟨h2, g2, d2, t2, os'⟩ := s'
      obtain ⟨t0, G, J, kG, ge, hoe, na⟩ := mk_end0 (d2 := d2) (t2 := t2) I1 hsz kk un2 hok2 os2 bare2 ea ed hd1
      refine ⟨rv, hp.objs.size + 1, _, _, ⟨G, g2, d2, t2, os'⟩, _, .ref C, some d, rfl, J, kG, ge, hoe, ⟨rfl, rfl, fun vs hv => ?_⟩, rfl, rfl, na, rfl, bare2, raises_own T.exC T.tyC, q2⟩
      cases hv
      rfl
    | next => exact False.elim hq'
    | brk => exact False.elim hq'
    | cont => exact False.elim hq'
/-- a list against [] -/
def rEqNil (K : PySem.W.Frag) : R2 := fun x y H Q => ∃ (a b : Addr) (xs : List V), x = .ref a ∧ y = .ref b ∧ SqL K H a xs ∧ SqL K H b [] ∧ Q (.bl xs.isEmpty) H
def rNeNil (K : PySem.W.Frag) : R2 := fun x y H Q => ∃ (a b : Addr) (xs : List V), x = .ref a ∧ y = .ref b ∧ SqL K H a xs ∧ SqL K H b [] ∧ Q (.bl (!xs.isEmpty)) H
theorem op_eqNil (hu : X.A.units < cLine) : OpR X (compareOp .Eq) (rEqNil X.K) := by
  intro pins s σ H x y v u Q I rx ry h
  obtain ⟨a, b, xs, rfl, rfl, ha, hb, q⟩ := h
  cases rx
  cases ry
  obtain ⟨its, r, pl, hz⟩ := I.list ha
  obtain ⟨its2, r2, pl2, hz2⟩ := I.list hb
  cases r2
  cases r with
  | nil => exact SeqAt.eq_listAt (e := fun _ => true) pl.isList pl2.isList rfl hu (fun j h1 _ => absurd h1 (Nat.not_lt_zero _)) ⟨.bl _, H, I, rfl, q⟩
  | cons r1 r3 => exact SeqAt.eq_list_lengthsAt pl.isList pl2.isList (by simp) hu ⟨.bl _, H, I, rfl, q⟩
theorem op_neNil (hu : X.A.units < cLine) : OpR X (compareOp .NotEq) (rNeNil X.K) := by
  intro pins s σ H x y v u Q I rx ry h
  obtain ⟨a, b, xs, rfl, rfl, ha, hb, q⟩ := h
  cases rx
  cases ry
  obtain ⟨its, r, pl, hz⟩ := I.list ha
  obtain ⟨its2, r2, pl2, hz2⟩ := I.list hb
  cases r2
  cases r with
  | nil => exact SeqAt.RcNeAt.lists pl.isList pl2.isList rfl hu (e := fun _ => true) (fun j h1 _ => absurd h1 (Nat.not_lt_zero _)) X.prog X.w _ _ ⟨.bl _, H, I, rfl, q⟩
  | cons r1 r3 => exact SeqAt.RcNeAt.lists_lengths pl.isList pl2.isList (by simp) hu X.prog X.w _ _ ⟨.bl _, H, I, rfl, q⟩
theorem hU {k : Nat} {A : Around} (hr : Room k A) : A.units < cLine := by have := hr.un; omega
/-- an item of a list, for o[i] op= e -/
theorem get_list : PGet X (rIxL X.K) := by
  intro pins s σ H o i ov iv Q I ro ri h
  obtain ⟨p, xs, k, z, rfl, rfl, hq, he, q⟩ := h
  cases ro
  obtain ⟨t, rfl⟩ := ri
  obtain ⟨its, r, pl, hz⟩ := I.list hq
  obtain ⟨j, h1, h2, h3, h4, h5⟩ := atI_get he
  obtain ⟨w, ew, rw'⟩ := r.get h2
  have hl := r.length
  have hn := line63
  have fin : EP X pins σ Q w s := ⟨z, H, I, rw', q⟩
  by_cases h0 : 0 ≤ k
  · have hj : k.toNat = j := by
      rw [seqIndex_of h0 h5] at h1
      exact Option.some.inj h1
    exact wpAny_getItem_list (Q := fun v s => EP X pins σ Q v s) pl.isList h0 (by omega) (by rw [hj]; simpa using ew) fin
  · have hj : (k + (its.toArray.size : Int)).toNat = j := by
      rw [seqIndex_neg (by omega) h4] at h1
      rw [List.size_toArray, ← hl]
      exact Option.some.inj h1
    exact wpAny_getItem_list_neg (Q := fun v s => EP X pins σ Q v s) pl.isList (by omega) (by rw [List.size_toArray, ← hl]; exact h4) (by omega) (by rw [hj]; simpa using ew) fin
end
end Sc

set_option Elab.async false
set_option linter.all false
set_option maxRecDepth 100000
set_option maxHeartbeats 4000000
/-! # classes' beginnings; the reader's small methods -/
namespace Sc
open PySem PySem.Spec PyProof.Rows L2 Pf
open Sx62 (Frac Pitch Word)
/-! ### heaps that change at some places -/
def Chg : HO → Prop
  | .lst _ => True
  | .ins _ _ _ => True
  | _ => False
/-- all stands but, maybe, the lists and instances at M, which stay such -/
structure SB (M : List Addr) (H H' : Hp) : Prop where
  keep : ∀ b o, H b = some o → (b ∉ M ∨ ¬ Chg o) → H' b = some o
  kind : ∀ b o, H b = some o → Chg o → ∃ o', H' b = some o' ∧ Chg o'
theorem SB.of {M : List Addr} {H H' : Hp} (s : Same H H') : SB M H H' := ⟨fun b o e _ => s b o e, fun b o e c => ⟨o, s b o e, c⟩⟩
theorem SB.same {H H' : Hp} (s : SB [] H H') : Same H H' := fun b o e => s.keep b o e (.inl (by simp))
theorem SB.refl (M : List Addr) (H : Hp) : SB M H H := ⟨fun _ _ e _ => e, fun b o e c => ⟨o, e, c⟩⟩
theorem SB.trans {M : List Addr} {H H1 H2 : Hp} (a : SB M H H1) (b : SB M H1 H2) : SB M H H2 := ⟨fun c o e h => b.keep c o (a.keep c o e h) h, fun c o e h => by
  obtain ⟨o1, e1, h1⟩ := a.kind c o e h
  exact b.kind c o1 e1 h1⟩
theorem SB.mono {M M' : List Addr} {H H' : Hp} (s : SB M H H') (h : ∀ b ∈ M, b ∈ M') : SB M' H H' := ⟨fun b o e hb => s.keep b o e (hb.imp (fun z z2 => z (h b z2)) id), s.kind⟩
theorem SB.upd {M : List Addr} {H : Hp} {x : Addr} {o o' : HO} (h : H x = some o) (c : Chg o) (c' : Chg o') (hm : x ∈ M) : SB M H (upd H x o') := ⟨fun b u e hb => by
  by_cases hx : b = x
  · subst hx
    rw [h] at e
    cases e
    rcases hb with hb | hb
    · exact absurd hm hb
    · exact absurd c hb
  · rw [upd_ne hx]; exact e, fun b u e hb => by
  by_cases hx : b = x
  · subst hx; exact ⟨o', upd_same, c'⟩
  · exact ⟨u, by rw [upd_ne hx]; exact e, hb⟩⟩
/-- an object that isn't of H may change -/
theorem SB.fresh {M : List Addr} {H H' : Hp} {x : Addr} {o : HO} (s : SB M H H') (h : H x = none) : SB M H (L2.upd H' x o) := ⟨fun b u e hb => by
  rw [upd_ne (ne_of_none e h)]; exact s.keep b u e hb, fun b u e hb => by
  rw [upd_ne (ne_of_none e h)]; exact s.kind b u e hb⟩
theorem SB.tup {M : List Addr} {H H' : Hp} {a : Addr} {xs : List V} (s : SB M H H') (h : H a = some (.tup xs)) : H' a = some (.tup xs) := s.keep a _ h (.inr id)
theorem SB.sqT {K : PySem.W.Frag} {M : List Addr} {H H' : Hp} {a : Addr} {xs : List V} (s : SB M H H') (h : SqT K H a xs) : SqT K H' a xs := by
  rcases h with (h | ⟨o, h⟩) | h
  · exact .inl (.inl (s.keep _ _ h (.inr id)))
  · exact .inl (.inr ⟨o, s.keep _ _ h (.inr id)⟩)
  · exact .inr h
theorem SB.at {M : List Addr} {H H' : Hp} {a : Addr} {o : HO} (s : SB M H H') (h : H a = some o) (hm : a ∉ M) : H' a = some o := s.keep a o h (.inl hm)
/-- a fresh place was fresh before -/
theorem SB.free {M : List Addr} {H H' : Hp} (s : SB M H H') {l : Addr} (h : H' l = none) : H l = none := by
  cases q : H l with
  | none => rfl
  | some o =>
    by_cases c : Chg o
    · obtain ⟨o', e, _⟩ := s.kind l o q c
      rw [e] at h; cases h
    · rw [s.keep l o q (.inr c)] at h
      cases h
/-- what may change is hidden -/
def hid (M : List Addr) (H : Hp) : Hp := fun b => if b ∈ M then none else H b
theorem hid_in {M : List Addr} {H : Hp} {b : Addr} (h : b ∈ M) : hid M H b = none := if_pos h
theorem hid_out {M : List Addr} {H : Hp} {b : Addr} (h : b ∉ M) : hid M H b = H b := if_neg h
def MOk (M : List Addr) (H : Hp) : Prop := ∀ b ∈ M, ∃ o, H b = some o ∧ Chg o
theorem MOk.sb {M M' : List Addr} {H H' : Hp} (h : MOk M H) (s : SB M' H H') : MOk M H' := fun b hb => by
  obtain ⟨o, e, c⟩ := h b hb
  exact s.kind b o e c
theorem MOk.new {M : List Addr} {H : Hp} (h : MOk M H) {p : Addr} (hp : H p = none) : p ∉ M := fun hm => by
  obtain ⟨o, e, _⟩ := h p hm
  rw [hp] at e; cases e
theorem hid_same {M : List Addr} {H H' : Hp} (s : SB M H H') : Same (hid M H) (hid M H') := fun b o e => by
  by_cases hb : b ∈ M
  · rw [hid_in hb] at e; cases e
  · rw [hid_out hb] at e ⊢
    exact s.at e hb
theorem hid_less {M M' : List Addr} {H : Hp} (h : ∀ b ∈ M', b ∈ M) : Same (hid M H) (hid M' H) := fun b o e => by
  by_cases hb : b ∈ M
  · rw [hid_in hb] at e; cases e
  · rw [hid_out hb] at e
    rw [hid_out fun z => hb (h b z)]
    exact e
theorem hid_sub {M : List Addr} {H : Hp} : Same (hid M H) H := fun b o e => by
  by_cases hb : b ∈ M
  · rw [hid_in hb] at e; cases e
  · rw [hid_out hb] at e; exact e
theorem hid_sqT {K : PySem.W.Frag} {M : List Addr} {H : Hp} {a : Addr} {xs : List V} (m : MOk M H) (h : SqT K H a xs) : SqT K (hid M H) a xs := by
  have out : ∀ o, H a = some o → ¬ Chg o → a ∉ M := fun o e c hm => by
    obtain ⟨o', e', c'⟩ := m a hm
    rw [e] at e'; cases e'
    exact c c'
  rcases h with (h | ⟨o, h⟩) | h
  · exact .inl (.inl (by rw [hid_out (out _ h id)]; exact h))
  · exact .inl (.inr ⟨o, by rw [hid_out (out _ h id)]; exact h⟩)
  · exact .inr h
theorem FrA.sb {K : PySem.W.Frag} {M : List Addr} {H H' : Hp} {v : V} {f : Frac} (s : SB M H H') (h : FrA K H v f) : FrA K H' v f := by
  obtain ⟨a, rfl, h⟩ := h
  exact ⟨a, rfl, s.sqT h⟩
theorem PiA.sb {K : PySem.W.Frag} {M : List Addr} {H H' : Hp} {v : V} {p : Pitch} (s : SB M H H') (h : PiA K H v p) : PiA K H' v p := by
  obtain ⟨a, rfl, h⟩ := h
  exact ⟨a, rfl, s.sqT h⟩
theorem WdA.sb {K : PySem.W.Frag} {M : List Addr} {H H' : Hp} {v : V} {x : Word} (s : SB M H H') (h : WdA K H v x) : WdA K H' v x := by
  obtain ⟨a, rfl, h⟩ := h
  exact ⟨a, rfl, s.sqT h⟩
section
variable {P : Program} {w : World} {K : PySem.W.Frag} {mg : Str → Option Value} {base : Heap} {A : Ad}
theorem sc_Faulty_init : FnScope ["self", "kind", "place"] ["self", "kind", "place"] (defScope s_Faulty_init) := ⟨rfl, rfl, rfl, by decide +kernel, rfl, by decide +kernel, by decide +kernel⟩
theorem sc_Refused_init : FnScope ["self", "code"] ["self", "code"] (defScope s_Refused_init) := ⟨rfl, rfl, rfl, by decide +kernel, rfl, by decide +kernel, by decide +kernel⟩
theorem sc_Event_init : FnScope ["self", "pitches", "long", "is_tied", "place"] ["self", "pitches", "long", "is_tied", "place"] (defScope s_Event_init) := ⟨rfl, rfl, rfl, by decide +kernel, rfl, by decide +kernel, by decide +kernel⟩
theorem sc_Bar_init : FnScope ["self", "words", "events", "is_short", "place"] ["self", "words", "events", "is_short", "place"] (defScope s_Bar_init) := ⟨rfl, rfl, rfl, by decide +kernel, rfl, by decide +kernel, by decide +kernel⟩
theorem sc_Voice_init : FnScope ["self", "name", "bars", "place"] ["self", "name", "bars", "place"] (defScope s_Voice_init) := ⟨rfl, rfl, rfl, by decide +kernel, rfl, by decide +kernel, by decide +kernel⟩
theorem sc_Score_init : FnScope ["self", "metre", "whole", "key", "voices"] ["self", "metre", "whole", "key", "voices"] (defScope s_Score_init) := ⟨rfl, rfl, rfl, by decide +kernel, rfl, by decide +kernel, by decide +kernel⟩
theorem sc_Reader_init : FnScope ["self", "text"] ["self", "text"] (defScope s_Reader_init) := ⟨rfl, rfl, rfl, by decide +kernel, rfl, by decide +kernel, by decide +kernel⟩
theorem sc_Holder_init : FnScope ["self"] ["self"] (defScope s_Holder_init) := ⟨rfl, rfl, rfl, by decide +kernel, rfl, by decide +kernel, by decide +kernel⟩
theorem sc_Reader_look : FnScope ["self"] ["self"] (defScope s_Reader_look) := ⟨rfl, rfl, rfl, by decide +kernel, rfl, by decide +kernel, by decide +kernel⟩
theorem sc_Reader_here : FnScope ["self"] ["self"] (defScope s_Reader_here) := ⟨rfl, rfl, rfl, by decide +kernel, rfl, by decide +kernel, by decide +kernel⟩
theorem sc_Reader_want : FnScope ["self", "truth", "kind"] ["self", "truth", "kind"] (defScope s_Reader_want) := ⟨rfl, rfl, rfl, by decide +kernel, rfl, by decide +kernel, by decide +kernel⟩
theorem sc_Reader_take : FnScope ["self", "found"] ["self"] (defScope s_Reader_take) := ⟨rfl, rfl, rfl, by decide +kernel, rfl, by decide +kernel, by decide +kernel⟩
theorem sc_Reader_take_word : FnScope ["self", "word"] ["self", "word"] (defScope s_Reader_take_word) := ⟨rfl, rfl, rfl, by decide +kernel, rfl, by decide +kernel, by decide +kernel⟩
theorem sc_want : FnScope ["truth", "code"] ["truth", "code"] (defScope s_want) := ⟨rfl, rfl, rfl, by decide +kernel, rfl, by decide +kernel, by decide +kernel⟩
/-! ### exceptions -/
def sp_Faulty_init (K : PySem.W.Frag) (A : Ad) : Sp := sp3 fun x y z H Q _ => ∃ a : Addr, x = .ref a ∧ H a = some (exo a A.C_Faulty none) ∧
  ∀ dx H', H dx = none → dx ≠ a → H' a = some (exo a A.C_Faulty (some dx)) → H' dx = some (exd dx [(("place" : Str), z), (("kind" : Str), y)]) → (∀ b, b ≠ a → b ≠ dx → H' b = H b) → Q .non H'
theorem ok_Faulty_init (T : Txt K mg A) : FnOk P w K mg base CX0 1 A.a_Faulty_init A.d_Faulty_init ["self", "kind", "place"] (sp_Faulty_init K A) := by
  refine T.F_Faulty_init.ok sc_Faulty_init (sp3_len) (fun cdv Ar outer s H vs Q E hr h => ?_)
  refine ⟨_, (pss_cons (ps_expr (pe_veinit (by rfl) T.z_ValueError T.vV (pa_cons (pv 0) (pa_cons pe_str pa_nil))))
      (pss_cons (ps_ost (pv 0) (pv 1))
      (pss_one (ps_ost (pv 0) (pv 2))))), ?_⟩
  obtain ⟨x, y, z, rfl, a, rfl, ha, hq⟩ := h
  refine ⟨_, rfl, a, A.C_Faulty, _, rfl, by show 1 ≤ 1000; decide, T.X_Faulty, ha, ?_⟩
  refine ⟨_, rfl, _, rfl, a, A.C_Faulty, rfl, T.X_Faulty, T.n_Faulty_kind, .inl ⟨ha, fun dx nd ne => ?_⟩⟩
  refine ⟨_, rfl, _, rfl, a, A.C_Faulty, rfl, T.X_Faulty, T.n_Faulty_place, .inr ⟨dx, _, upd_same, by rw [upd_ne ne]; exact upd_same, by show 1 ≤ 900; decide, ?_⟩⟩
  exact hq dx _ nd ne (by rw [upd_ne (Ne.symm ne)]; exact upd_same) upd_same fun b h1 h2 => by rw [upd_ne h2, upd_ne h1, upd_ne h2]
def sp_Refused_init (K : PySem.W.Frag) (A : Ad) : Sp := sp2 fun x y H Q _ => ∃ a : Addr, x = .ref a ∧ H a = some (exo a A.C_Refused none) ∧
  ∀ dx H', H dx = none → dx ≠ a → H' a = some (exo a A.C_Refused (some dx)) → H' dx = some (exd dx [(("code" : Str), y)]) → (∀ b, b ≠ a → b ≠ dx → H' b = H b) → Q .non H'
theorem ok_Refused_init (T : Txt K mg A) : FnOk P w K mg base CX0 1 A.a_Refused_init A.d_Refused_init ["self", "code"] (sp_Refused_init K A) := by
  refine T.F_Refused_init.ok sc_Refused_init (sp2_len) (fun cdv Ar outer s H vs Q E hr h => ?_)
  refine ⟨_, (pss_cons (ps_expr (pe_veinit (by rfl) T.z_ValueError T.vV (pa_cons (pv 0) (pa_cons pe_str pa_nil))))
      (pss_one (ps_ost (pv 0) (pv 1)))), ?_⟩
  obtain ⟨x, y, rfl, a, rfl, ha, hq⟩ := h
  refine ⟨_, rfl, a, A.C_Refused, _, rfl, by show 1 ≤ 1000; decide, T.X_Refused, ha, ?_⟩
  refine ⟨_, rfl, _, rfl, a, A.C_Refused, rfl, T.X_Refused, T.n_Refused_code, .inl ⟨ha, fun dx nd ne => ?_⟩⟩
  exact hq dx _ nd ne upd_same (by rw [upd_ne ne]; exact upd_same) fun b h1 h2 => by rw [upd_ne h1, upd_ne h2]
/-- Faulty leaves -/
def RaiseF (A : Ad) (E : XK) (M : List Addr) (H : Hp) (k p : Nat) : Prop := ∀ d H', SB M H H' → H' d = some (.xd [(("place" : Str), .int (p : Int)), (("kind" : Str), .int (k : Int))]) → E (.ref A.C_Faulty) (some d) H'
def RaiseR (A : Ad) (E : XK) (M : List Addr) (H : Hp) (c : Int) : Prop := ∀ d H', SB M H H' → H' d = some (.xd [(("code" : Str), .int c)]) → E (.ref A.C_Refused) (some d) H'
theorem RaiseF.back {E : XK} {M M' : List Addr} {H H' : Hp} {k p : Nat} (h : RaiseF A E M H k p) (s : SB M H H') (hm : ∀ b ∈ M', b ∈ M) : RaiseF A E M' H' k p := fun d H2 s2 hd => h d H2 (s.trans (s2.mono hm)) hd
theorem faulty_end {E : XK} {H H2 : Hp} {a d : Addr} {k p : Nat} (h : RaiseF A E [] H k p) (ha : H a = none) (hd : H d = none) (hda : d ≠ a) (k2 : ∀ b, b ≠ a → b ≠ d → H2 b = (upd H a (exo a A.C_Faulty none)) b) :
    E (.ref A.C_Faulty) (some d) (upd (del H2 a) d (.xd [(("place" : Str), .int (p : Int)), (("kind" : Str), .int (k : Int))])) :=
  h d _ (SB.of fun b o e => by
    have h1 := ne_of_none e ha
    have h2 := ne_of_none e hd
    rw [upd_ne h2, del_ne h1, k2 b h1 h2, upd_ne h1]
    exact e) upd_same
theorem refused_end {E : XK} {H H2 : Hp} {a d : Addr} {c : Int} (h : RaiseR A E [] H c) (ha : H a = none) (hd : H d = none) (hda : d ≠ a) (k2 : ∀ b, b ≠ a → b ≠ d → H2 b = (upd H a (exo a A.C_Refused none)) b) :
    E (.ref A.C_Refused) (some d) (upd (del H2 a) d (.xd [(("code" : Str), .int c)])) :=
  h d _ (SB.of fun b o e => by
    have h1 := ne_of_none e ha
    have h2 := ne_of_none e hd
    rw [upd_ne h2, del_ne h1, k2 b h1 h2, upd_ne h1]
    exact e) upd_same
/-! ### records -/
def sp_Event_init (K : PySem.W.Frag) (A : Ad) : Sp := sp5 fun x y0 y1 y2 y3 H Q _ => ∃ a dx : Addr, x = .ref a ∧ H a = some (.ins A.C_Event dx []) ∧ ∀ H', H' a = some (.ins A.C_Event dx (F_Event y0 y1 y2 y3)) → (∀ b, b ≠ a → H' b = H b) → Q .non H'
theorem ok_Event_init (T : Txt K mg A) : FnOk P w K mg base CX0 1 A.a_Event_init A.d_Event_init ["self", "pitches", "long", "is_tied", "place"] (sp_Event_init K A) := by
  refine T.F_Event_init.ok sc_Event_init (sp5_len) (fun cdv Ar outer s H vs Q E hr h => ?_)
  refine ⟨_, (pss_cons (ps_fld (pv 0) (pv 1) rfl)
      (pss_cons (ps_fld (pv 0) (pv 2) rfl)
      (pss_cons (ps_fld (pv 0) (pv 3) rfl)
      (pss_one (ps_fld (pv 0) (pv 4) rfl))))), ?_⟩
  obtain ⟨x, y0, y1, y2, y3, rfl, a, dx, rfl, ha, hq⟩ := h
  refine ⟨_, rfl, _, rfl, a, _, dx, [], rfl, ha, T.cl_Event, T.n_Event_pitches, by show 0 < 1000; decide, ?_⟩
  refine ⟨_, rfl, _, rfl, a, _, dx, _, rfl, upd_same, T.cl_Event, T.n_Event_long, by show 1 < 1000; decide, ?_⟩
  refine ⟨_, rfl, _, rfl, a, _, dx, _, rfl, upd_same, T.cl_Event, T.n_Event_is_tied, by show 2 < 1000; decide, ?_⟩
  refine ⟨_, rfl, _, rfl, a, _, dx, _, rfl, upd_same, T.cl_Event, T.n_Event_place, by show 3 < 1000; decide, ?_⟩
  exact hq _ (by rw [upd_same, new_Event]) fun b hb => by rw [upd_ne hb, upd_ne hb, upd_ne hb, upd_ne hb]
def sp_Bar_init (K : PySem.W.Frag) (A : Ad) : Sp := sp5 fun x y0 y1 y2 y3 H Q _ => ∃ a dx : Addr, x = .ref a ∧ H a = some (.ins A.C_Bar dx []) ∧ ∀ H', H' a = some (.ins A.C_Bar dx (F_Bar y0 y1 y2 y3)) → (∀ b, b ≠ a → H' b = H b) → Q .non H'
theorem ok_Bar_init (T : Txt K mg A) : FnOk P w K mg base CX0 1 A.a_Bar_init A.d_Bar_init ["self", "words", "events", "is_short", "place"] (sp_Bar_init K A) := by
  refine T.F_Bar_init.ok sc_Bar_init (sp5_len) (fun cdv Ar outer s H vs Q E hr h => ?_)
  refine ⟨_, (pss_cons (ps_fld (pv 0) (pv 1) rfl)
      (pss_cons (ps_fld (pv 0) (pv 2) rfl)
      (pss_cons (ps_fld (pv 0) (pv 3) rfl)
      (pss_one (ps_fld (pv 0) (pv 4) rfl))))), ?_⟩
  obtain ⟨x, y0, y1, y2, y3, rfl, a, dx, rfl, ha, hq⟩ := h
  refine ⟨_, rfl, _, rfl, a, _, dx, [], rfl, ha, T.cl_Bar, T.n_Bar_words, by show 0 < 1000; decide, ?_⟩
  refine ⟨_, rfl, _, rfl, a, _, dx, _, rfl, upd_same, T.cl_Bar, T.n_Bar_events, by show 1 < 1000; decide, ?_⟩
  refine ⟨_, rfl, _, rfl, a, _, dx, _, rfl, upd_same, T.cl_Bar, T.n_Bar_is_short, by show 2 < 1000; decide, ?_⟩
  refine ⟨_, rfl, _, rfl, a, _, dx, _, rfl, upd_same, T.cl_Bar, T.n_Bar_place, by show 3 < 1000; decide, ?_⟩
  exact hq _ (by rw [upd_same, new_Bar]) fun b hb => by rw [upd_ne hb, upd_ne hb, upd_ne hb, upd_ne hb]
def sp_Voice_init (K : PySem.W.Frag) (A : Ad) : Sp := sp4 fun x y0 y1 y2 H Q _ => ∃ a dx : Addr, x = .ref a ∧ H a = some (.ins A.C_Voice dx []) ∧ ∀ H', H' a = some (.ins A.C_Voice dx (F_Voice y0 y1 y2)) → (∀ b, b ≠ a → H' b = H b) → Q .non H'
theorem ok_Voice_init (T : Txt K mg A) : FnOk P w K mg base CX0 1 A.a_Voice_init A.d_Voice_init ["self", "name", "bars", "place"] (sp_Voice_init K A) := by
  refine T.F_Voice_init.ok sc_Voice_init (sp4_len) (fun cdv Ar outer s H vs Q E hr h => ?_)
  refine ⟨_, (pss_cons (ps_fld (pv 0) (pv 1) rfl)
      (pss_cons (ps_fld (pv 0) (pv 2) rfl)
      (pss_one (ps_fld (pv 0) (pv 3) rfl)))), ?_⟩
  obtain ⟨x, y0, y1, y2, rfl, a, dx, rfl, ha, hq⟩ := h
  refine ⟨_, rfl, _, rfl, a, _, dx, [], rfl, ha, T.cl_Voice, T.n_Voice_name, by show 0 < 1000; decide, ?_⟩
  refine ⟨_, rfl, _, rfl, a, _, dx, _, rfl, upd_same, T.cl_Voice, T.n_Voice_bars, by show 1 < 1000; decide, ?_⟩
  refine ⟨_, rfl, _, rfl, a, _, dx, _, rfl, upd_same, T.cl_Voice, T.n_Voice_place, by show 2 < 1000; decide, ?_⟩
  exact hq _ (by rw [upd_same, new_Voice]) fun b hb => by rw [upd_ne hb, upd_ne hb, upd_ne hb]
def sp_Score_init (K : PySem.W.Frag) (A : Ad) : Sp := sp5 fun x y0 y1 y2 y3 H Q _ => ∃ a dx : Addr, x = .ref a ∧ H a = some (.ins A.C_Score dx []) ∧ ∀ H', H' a = some (.ins A.C_Score dx (F_Score y0 y1 y2 y3)) → (∀ b, b ≠ a → H' b = H b) → Q .non H'
theorem ok_Score_init (T : Txt K mg A) : FnOk P w K mg base CX0 1 A.a_Score_init A.d_Score_init ["self", "metre", "whole", "key", "voices"] (sp_Score_init K A) := by
  refine T.F_Score_init.ok sc_Score_init (sp5_len) (fun cdv Ar outer s H vs Q E hr h => ?_)
  refine ⟨_, (pss_cons (ps_fld (pv 0) (pv 1) rfl)
      (pss_cons (ps_fld (pv 0) (pv 2) rfl)
      (pss_cons (ps_fld (pv 0) (pv 3) rfl)
      (pss_one (ps_fld (pv 0) (pv 4) rfl))))), ?_⟩
  obtain ⟨x, y0, y1, y2, y3, rfl, a, dx, rfl, ha, hq⟩ := h
  refine ⟨_, rfl, _, rfl, a, _, dx, [], rfl, ha, T.cl_Score, T.n_Score_metre, by show 0 < 1000; decide, ?_⟩
  refine ⟨_, rfl, _, rfl, a, _, dx, _, rfl, upd_same, T.cl_Score, T.n_Score_whole, by show 1 < 1000; decide, ?_⟩
  refine ⟨_, rfl, _, rfl, a, _, dx, _, rfl, upd_same, T.cl_Score, T.n_Score_key_word, by show 2 < 1000; decide, ?_⟩
  refine ⟨_, rfl, _, rfl, a, _, dx, _, rfl, upd_same, T.cl_Score, T.n_Score_voices, by show 3 < 1000; decide, ?_⟩
  exact hq _ (by rw [upd_same, new_Score]) fun b hb => by rw [upd_ne hb, upd_ne hb, upd_ne hb, upd_ne hb]
/-! ### the reader -/
structure RdA (K : PySem.W.Frag) (A : Ad) (H : Hp) (a aw : Addr) (ws : List Word) (i e : Nat) (x1 x2 x3 x4 : V) : Prop where
  at_ : ∃ dx vs, H a = some (.ins A.C_Reader dx (F_Reader (.ref aw) (.int (i : Int)) (.int (e : Int)) x1 x2 x3 x4)) ∧ H aw = some (.lst vs) ∧ WdsA K H vs ws
structure WsOk (ws : List Word) : Prop where
  len : ws.length ≤ 2000
  ne : ∀ x ∈ ws, x.text ≠ []
  txt : ∀ x ∈ ws, x.text.length ≤ 2000
def lookT : List Word → List Nat
  | [] => []
  | x :: _ => x.text
def hereP (e : Nat) : List Word → Nat
  | [] => e
  | x :: _ => x.place
theorem drop_lt {ws : List Word} {i : Nat} {x : Word} (h : ws[i]? = some x) : ws.drop i = x :: ws.drop (i + 1) := by
  obtain ⟨hl, hg⟩ := List.getElem?_eq_some_iff.mp h
  rw [List.drop_eq_getElem_cons hl, hg]
def sp_Reader_look (K : PySem.W.Frag) (A : Ad) : Sp := sp1 fun x H Q _ => ∃ (a aw : Addr) (ws : List Word) (i e : Nat) (x1 x2 x3 x4 : V), x = .ref a ∧ RdA K A H a aw ws i e x1 x2 x3 x4 ∧ i ≤ ws.length ∧ Q (.str (S (lookT (ws.drop i)))) H
def sp_Reader_here (K : PySem.W.Frag) (A : Ad) : Sp := sp1 fun x H Q _ => ∃ (a aw : Addr) (ws : List Word) (i e : Nat) (x1 x2 x3 x4 : V), x = .ref a ∧ RdA K A H a aw ws i e x1 x2 x3 x4 ∧ i ≤ ws.length ∧ Q (.int (hereP e (ws.drop i) : Nat)) H
theorem dec_len {i n : Nat} : decide (V.int (i : Int) = V.int (n : Int)) = decide (i = n) := decN rfl
theorem ok_Reader_look (T : Txt K mg A) : FnOk P w K mg base CX0 1 A.a_Reader_look A.d_Reader_look ["self"] (sp_Reader_look K A) := by
  refine T.F_Reader_look.ok sc_Reader_look (sp1_len) (fun cdv Ar outer s H vs Q E hr h => ?_)
  refine ⟨_, (pss_cons (ps_if (pt_cmpR op_eq (pe_fld (pv 0) rfl) (pe_callB call_len_seq (by rfl) T.z_len PySem.boot_len (pa_cons (pe_fld (pv 0) rfl) pa_nil)) (nomark _)) (pss_one (ps_ret pe_str)) pss_nil)
      (pss_one (ps_ret (pe_ix ix_tup (pe_ix ix_list (pe_fld (pv 0) rfl) (pe_fld (pv 0) rfl) (fun _ _ => rfl)) pe_int (fun _ _ => rfl))))), ?_⟩
  obtain ⟨x, rfl, a, aw, ws, i, e, x1, x2, x3, x4, rfl, ⟨dx, vs, ha, hw, hws⟩, hi, hq⟩ := h
  refine ⟨_, rfl, a, _, dx, _, _, rfl, ha, T.cl_Reader, T.n_Reader_at, l_Reader_at, _, rfl, a, _, dx, _, _, rfl, ha, T.cl_Reader, T.n_Reader_words, l_Reader_words, aw, _, rfl, .inl (SqL.of hw), rfl, _, rfl, ?_⟩
  rw [hws.length, dec_len]
  refine iteB (fun he => ?_) (fun he => ?_)
  · have e1 : i = ws.length := of_decide_eq_true he
    rw [e1, List.drop_length] at hq
    show Q (.str (Str.ofString "")) H
    rw [empty_S]
    exact hq
  · have e1 : i ≠ ws.length := of_decide_eq_false he
    have hlt : i < ws.length := by omega
    have hlt2 : i < vs.length := by rw [hws.length]; exact hlt
    have hv : vs[i]? = some vs[i] := List.getElem?_eq_getElem hlt2
    obtain ⟨y, hy, q, eq, hq2⟩ := paired_get hws hv
    rw [drop_lt hy] at hq
    refine ⟨_, rfl, a, _, dx, _, _, rfl, ha, T.cl_Reader, T.n_Reader_words, l_Reader_words, _, rfl, a, _, dx, _, _, rfl, ha, T.cl_Reader, T.n_Reader_at, l_Reader_at, ?_⟩
    exact ⟨aw, _, _, _, rfl, rfl, SqL.of hw, atI_nat hv, q, _, _, _, eq, rfl, hq2, at0 _ _, hq⟩
theorem ok_Reader_here (T : Txt K mg A) : FnOk P w K mg base CX0 1 A.a_Reader_here A.d_Reader_here ["self"] (sp_Reader_here K A) := by
  refine T.F_Reader_here.ok sc_Reader_here (sp1_len) (fun cdv Ar outer s H vs Q E hr h => ?_)
  refine ⟨_, (pss_cons (ps_if (pt_cmpR op_eq (pe_fld (pv 0) rfl) (pe_callB call_len_seq (by rfl) T.z_len PySem.boot_len (pa_cons (pe_fld (pv 0) rfl) pa_nil)) (nomark _)) (pss_one (ps_ret (pe_fld (pv 0) rfl))) pss_nil)
      (pss_one (ps_ret (pe_ix ix_tup (pe_ix ix_list (pe_fld (pv 0) rfl) (pe_fld (pv 0) rfl) (fun _ _ => rfl)) pe_int (fun _ _ => rfl))))), ?_⟩
  obtain ⟨x, rfl, a, aw, ws, i, e, x1, x2, x3, x4, rfl, ⟨dx, vs, ha, hw, hws⟩, hi, hq⟩ := h
  refine ⟨_, rfl, a, _, dx, _, _, rfl, ha, T.cl_Reader, T.n_Reader_at, l_Reader_at, _, rfl, a, _, dx, _, _, rfl, ha, T.cl_Reader, T.n_Reader_words, l_Reader_words, aw, _, rfl, .inl (SqL.of hw), rfl, _, rfl, ?_⟩
  rw [hws.length, dec_len]
  refine iteB (fun he => ?_) (fun he => ?_)
  · have e1 : i = ws.length := of_decide_eq_true he
    rw [e1, List.drop_length] at hq
    exact ⟨_, rfl, a, _, dx, _, _, rfl, ha, T.cl_Reader, T.n_Reader_end, l_Reader_end, hq⟩
  · have e1 : i ≠ ws.length := of_decide_eq_false he
    have hlt : i < ws.length := by omega
    have hlt2 : i < vs.length := by rw [hws.length]; exact hlt
    have hv : vs[i]? = some vs[i] := List.getElem?_eq_getElem hlt2
    obtain ⟨y, hy, q, eq, hq2⟩ := paired_get hws hv
    rw [drop_lt hy] at hq
    refine ⟨_, rfl, a, _, dx, _, _, rfl, ha, T.cl_Reader, T.n_Reader_words, l_Reader_words, _, rfl, a, _, dx, _, _, rfl, ha, T.cl_Reader, T.n_Reader_at, l_Reader_at, ?_⟩
    exact ⟨aw, _, _, _, rfl, rfl, SqL.of hw, atI_nat hv, q, _, _, _, eq, rfl, hq2, at1 _ _ _, hq⟩
def sp_Reader_want (K : PySem.W.Frag) (A : Ad) : Sp := sp3 fun x y z H Q E => ∃ (a aw : Addr) (ws : List Word) (i e : Nat) (x1 x2 x3 x4 : V) (b : Bool) (k : Nat), x = .ref a ∧ y = .bl b ∧ z = .int (k : Int) ∧ RdA K A H a aw ws i e x1 x2 x3 x4 ∧ i ≤ ws.length ∧
  (b = true → Q .non H) ∧ (b = false → RaiseF A E [] H k (hereP e (ws.drop i)))
theorem ok_Reader_want (T : Txt K mg A) : FnOk P w K mg base (L2N.CX P w) 3 A.a_Reader_want A.d_Reader_want ["self", "truth", "kind"] (sp_Reader_want K A) := by
  have G_Faulty_init := ok_Faulty_init (P := P) (w := w) (base := base) T
  have G_Reader_here := ok_Reader_here (P := P) (w := w) (base := base) T
  refine okN T.F_Reader_want sc_Reader_want (sp3_len) (fun cdv Ar outer s H vs Q E hr h tk => ?_)
  refine ⟨_, (pss_one (ps_if (pt_not (pt_val (pv 1))) (pss_one (L2N.ps_raise rfl tk (pmk_oexN T.X_Faulty T.i_Faulty T.t_Faulty G_Faulty_init (hr.mono (by decide)) T.b_Faulty_init pass0 rfl T.g_Faulty (pa_cons (pv 2) (pa_cons (pe_meth0 (pv 0) T.cl_Reader T.m_Reader_here G_Reader_here (hr.mono (by decide)) T.b_Reader_here .nil pass0) pa_nil))))) pss_nil)), ?_⟩
  obtain ⟨x, y, z, rfl, a, aw, ws, i, e, x1, x2, x3, x4, b, k, rfl, rfl, rfl, hR, hi, hq, hE⟩ := h
  refine ⟨_, rfl, b, rfl, ?_⟩
  cases b with
  | true => exact ite_f rfl (hq rfl)
  | false =>
    refine ite_t rfl ?_
    obtain ⟨dx, vs, ha, hw, hws⟩ := id hR.at_
    refine ⟨_, rfl, _, rfl, a, dx, _, rfl, ha, l_Reader_here, _, rfl, a, aw, ws, i, e, x1, x2, x3, x4, rfl, hR, hi, by show 2 ≤ 1000; decide, fun q nq => ?_⟩
    refine ⟨_, _, _, rfl, q, rfl, upd_same, fun d H2 nd ne h1 h2 h3 => ⟨rfl, d, _, h1, h2, ?_, ?_⟩⟩
    · rw [upd_ne ne] at nd; exact nd
    · rw [upd_ne ne] at nd
      exact faulty_end (hE rfl) nq nd ne h3
def sp_Reader_take (K : PySem.W.Frag) (A : Ad) : Sp := sp1 fun x H Q _ => ∃ (a aw : Addr) (ws : List Word) (i e : Nat) (x1 x2 x3 x4 : V), x = .ref a ∧ RdA K A H a aw ws i e x1 x2 x3 x4 ∧ i ≤ ws.length ∧
  ∀ H', SB [a] H H' → (∀ b, b ≠ a → H' b = H b) → RdA K A H' a aw ws (i + 1) e x1 x2 x3 x4 → Q (.str (S (lookT (ws.drop i)))) H'
theorem rd_step {H : Hp} {a dx aw : Addr} {vs : List V} {ws : List Word} {i j e : Nat} {x1 x2 x3 x4 : V} (ha : H a = some (.ins A.C_Reader dx (F_Reader (.ref aw) (.int (i : Int)) (.int (e : Int)) x1 x2 x3 x4))) (hw : H aw = some (.lst vs)) (hws : WdsA K H vs ws) {y1 y2 y3 y4 : V} {fs : List (Str × V)} (hf : fs = F_Reader (.ref aw) (.int (j : Int)) (.int (e : Int)) y1 y2 y3 y4) :
    SB [a] H (upd H a (.ins A.C_Reader dx fs)) ∧ RdA K A (upd H a (.ins A.C_Reader dx fs)) a aw ws j e y1 y2 y3 y4 := by
  have s : SB [a] H (upd H a (.ins A.C_Reader dx fs)) := SB.upd ha trivial trivial (by simp)
  refine ⟨s, dx, vs, by rw [upd_same, hf], ?_, pairedMono (fun _ _ h => h.sb s) hws⟩
  rw [upd_ne (ne_of hw ha (by intro z; cases z))]
  exact hw
theorem ok_Reader_take (T : Txt K mg A) : FnOk P w K mg base CX0 2 A.a_Reader_take A.d_Reader_take ["self"] (sp_Reader_take K A) := by
  have G_Reader_look := ok_Reader_look (P := P) (w := w) (base := base) T
  refine T.F_Reader_take.ok sc_Reader_take (sp1_len) (fun cdv Ar outer s H vs Q E hr h => ?_)
  refine ⟨_, (pss_cons (ps_set (i := 1) sc_Reader_take.nd rfl (Or.inl rfl) (pe_meth0 (pv 0) T.cl_Reader T.m_Reader_look G_Reader_look (hr.mono (by decide)) T.b_Reader_look .nil pass0))
      (pss_cons (ps_fldaug (pv 0) pe_int in_add)
      (pss_one (ps_ret (pv 1))))), ?_⟩
  obtain ⟨x, rfl, a, aw, ws, i, e, x1, x2, x3, x4, rfl, hR, hi, hq⟩ := h
  obtain ⟨dx, vs, ha, hw, hws⟩ := id hR.at_
  refine ⟨_, rfl, a, dx, _, rfl, ha, l_Reader_look, _, rfl, a, aw, ws, i, e, x1, x2, x3, x4, rfl, hR, hi, ?_⟩
  refine ⟨_, rfl, a, _, dx, _, _, rfl, ha, T.cl_Reader, T.n_Reader_at, l_Reader_at, _, _, rfl, rfl, dx, _, ha, by show 7 < 1000; decide, ?_⟩
  obtain ⟨s, hR'⟩ := rd_step (K := K) ha hw hws (j := i + 1) (y1 := x1) (y2 := x2) (y3 := x3) (y4 := x4) (u_Reader_at (y := .int ((i : Int) + 1)))
  exact ⟨_, rfl, hq _ s (fun b hb => upd_ne hb) hR'⟩
def sp_Reader_take_word (K : PySem.W.Frag) (A : Ad) : Sp := sp2 fun x y H Q E => ∃ (a aw : Addr) (ws : List Word) (i e : Nat) (x1 x2 x3 x4 : V) (l : List Nat), x = .ref a ∧ y = .str (S l) ∧ RdA K A H a aw ws i e x1 x2 x3 x4 ∧ i ≤ ws.length ∧
  (lookT (ws.drop i) = l → ∀ H', SB [a] H H' → (∀ b, b ≠ a → H' b = H b) → RdA K A H' a aw ws (i + 1) e x1 x2 x3 x4 → Q .non H') ∧ (lookT (ws.drop i) ≠ l → RaiseF A E [] H 2 (hereP e (ws.drop i)))
theorem ok_Reader_take_word (T : Txt K mg A) : FnOk P w K mg base (L2N.CX P w) 4 A.a_Reader_take_word A.d_Reader_take_word ["self", "word"] (sp_Reader_take_word K A) := by
  have G_Reader_look := ok_Reader_look (P := P) (w := w) (base := base) T
  have G_Reader_want := ok_Reader_want (P := P) (w := w) (base := base) T
  refine okN T.F_Reader_take_word sc_Reader_take_word (sp2_len) (fun cdv Ar outer s H vs Q E hr h tk => ?_)
  refine ⟨_, (pss_cons (ps_expr (pe_meth (pv 0) T.cl_Reader T.m_Reader_want G_Reader_want (hr.mono (by decide)) T.b_Reader_want .nil (L2N.passes_call tk fun _ _ _ _ h => h) (pa_cons (pe_cmpR op_eq (pe_meth0 (pv 0) T.cl_Reader T.m_Reader_look G_Reader_look (hr.mono (by decide)) T.b_Reader_look .nil pass0) (pv 1) (nomark _)) (pa_cons (pe_gI T.c_BAD_WORD) pa_nil))))
      (pss_one (ps_fldaug (pv 0) pe_int in_add))), ?_⟩
  obtain ⟨x, y, rfl, a, aw, ws, i, e, x1, x2, x3, x4, l, rfl, rfl, hR, hi, hq, hE⟩ := h
  obtain ⟨dx, vs, ha, hw, hws⟩ := id hR.at_
  refine ⟨_, rfl, a, dx, _, rfl, ha, l_Reader_want, _, rfl, a, dx, _, rfl, ha, l_Reader_look, _, rfl, a, aw, ws, i, e, x1, x2, x3, x4, rfl, hR, hi, _, rfl, rfl, ?_⟩
  refine ⟨_, _, _, rfl, a, aw, ws, i, e, x1, x2, x3, x4, _, 2, rfl, rfl, rfl, hR, hi, fun hb => ?_, fun hb => ?_⟩
  · rw [decS] at hb
    refine ⟨_, rfl, a, _, dx, _, _, rfl, ha, T.cl_Reader, T.n_Reader_at, l_Reader_at, _, _, rfl, rfl, dx, _, ha, by show 7 < 1000; decide, ?_⟩
    obtain ⟨s, hR'⟩ := rd_step (K := K) ha hw hws (j := i + 1) (y1 := x1) (y2 := x2) (y3 := x3) (y4 := x4) (u_Reader_at (y := .int ((i : Int) + 1)))
    exact hq (of_decide_eq_true hb) _ s (fun b hb => upd_ne hb) hR'
  · rw [decS] at hb
    exact hE (of_decide_eq_false hb)
end
end Sc

set_option Elab.async false
set_option linter.all false
set_option maxRecDepth 100000
set_option maxHeartbeats 4000000
/-! # a bar's pieces -/
namespace Sc
open PySem PySem.Spec PyProof.Rows L2 Pf
open Sx62 (Frac Pitch Word Timed Piece)
def strV (l : List Nat) : V := .str (S l)
def natV (n : Nat) : V := .int (n : Int)
theorem SB.out {M M' : List Addr} {H H1 H2 : Hp} (a : SB M H H1) (b : SB M' H1 H2) (h : ∀ x ∈ M', x ∈ M ∨ H x = none) : SB M H H2 := ⟨fun c o e hc => by
  refine b.keep c o (a.keep c o e hc) ?_
  by_cases hm : c ∈ M'
  · rcases h c hm with h1 | h1
    · rcases hc with hc | hc
      · exact absurd h1 hc
      · exact .inr hc
    · rw [e] at h1; cases h1
  · exact .inl hm, fun c o e hc => by
  obtain ⟨o1, e1, c1⟩ := a.kind c o e hc
  exact b.kind c o1 e1 c1⟩
section
variable {P : Program} {w : World} {K : PySem.W.Frag} {mg : Str → Option Value} {base : Heap} {A : Ad}
theorem sc_Reader_one_more : FnScope ["self"] ["self"] (defScope s_Reader_one_more) := ⟨rfl, rfl, rfl, by decide +kernel, rfl, by decide +kernel, by decide +kernel⟩
theorem sc_Reader_put : FnScope ["self", "pitches", "long", "is_tied", "place"] ["self", "pitches", "long", "is_tied", "place"] (defScope s_Reader_put) := ⟨rfl, rfl, rfl, by decide +kernel, rfl, by decide +kernel, by decide +kernel⟩
theorem sc_Reader_single : FnScope ["self", "word", "note", "rest"] ["self"] (defScope s_Reader_single) := ⟨rfl, rfl, rfl, by decide +kernel, rfl, by decide +kernel, by decide +kernel⟩
theorem sc_Reader_chord : FnScope ["self", "place", "opening", "pitches", "pitch", "long", "is_tied"] ["self"] (defScope s_Reader_chord) := ⟨rfl, rfl, rfl, by decide +kernel, rfl, by decide +kernel, by decide +kernel⟩
theorem sc_Reader_piece_word : FnScope ["self", "word", "by"] ["self"] (defScope s_Reader_piece_word) := ⟨rfl, rfl, rfl, by decide +kernel, rfl, by decide +kernel, by decide +kernel⟩
def EvA (K : PySem.W.Frag) (A : Ad) (G : Hp) (v : V) (t : Timed) : Prop := ∃ x dx l f vs, v = .ref x ∧ G x = some (.ins A.C_Event dx (F_Event (.ref l) f (.bl t.tie) (.int (t.place : Int)))) ∧ G l = some (.lst vs) ∧ Paired (PiA K G) vs t.ps ∧ FrA K G f t.long
theorem EvA.mono {G G' : Hp} {v : V} {t : Timed} (s : Same G G') (h : EvA K A G v t) : EvA K A G' v t := by
  obtain ⟨x, dx, l, f, vs, rfl, h1, h2, h3, h4⟩ := h
  exact ⟨x, dx, l, f, vs, rfl, s _ _ h1, s _ _ h2, pairedMono (fun _ _ h => h.mono s) h3, h4.mono s⟩
/-- where a bar's reading keeps what it has; the words; the end's place; what may change -/
structure Pl where
  (a aw ab ae am ay : Addr)
  ws : List Word
  e : Nat
  M : List Addr
def Pl.mp (p : Pl) : List Addr := [p.a, p.ab, p.ae, p.am, p.ay]
structure PlOk (p : Pl) : Prop where
  n1 : p.aw ≠ p.ab
  n2 : p.aw ≠ p.ae
  n3 : p.aw ≠ p.am
  n4 : p.aw ≠ p.ay
  n5 : p.ab ≠ p.ae
  n6 : p.ab ≠ p.am
  n7 : p.ab ≠ p.ay
  n8 : p.ae ≠ p.am
  n9 : p.ae ≠ p.ay
  n10 : p.am ≠ p.ay
  sub : ∀ b ∈ p.mp, b ∈ p.M
  wo : WsOk p.ws
structure PcA (K : PySem.W.Frag) (A : Ad) (p : Pl) (H : Hp) (i : Nat) (s : BSt) : Prop where
  ok : PlOk p
  rd : RdA K A H p.a p.aw p.ws i p.e (.ref p.ab) (.ref p.ae) (.ref p.am) (.ref p.ay)
  hb : H p.ab = some (.lst (s.bw.map strV))
  he : ∃ vs, H p.ae = some (.lst vs) ∧ Paired (EvA K A (hid p.M H)) vs s.evs
  hm : H p.am = some (.lst (s.mr.reverse.map natV))
  hy : ∃ vs, H p.ay = some (.lst vs) ∧ Paired (FrA K H) vs (byTails s.st).reverse
  mo : MOk p.M H
  il : i ≤ p.ws.length
theorem RdA.same {H H' : Hp} {a aw : Addr} {ws : List Word} {i e : Nat} {x1 x2 x3 x4 : V} (s : Same H H') (h : RdA K A H a aw ws i e x1 x2 x3 x4) : RdA K A H' a aw ws i e x1 x2 x3 x4 := by
  obtain ⟨dx, vs, h1, h2, h3⟩ := h.at_
  exact ⟨dx, vs, s _ _ h1, s _ _ h2, pairedMono (fun _ _ h => h.mono s) h3⟩
theorem RdA.updL {H : Hp} {a aw x : Addr} {ws : List Word} {i e : Nat} {x1 x2 x3 x4 : V} {xs ys : List V} (h : RdA K A H a aw ws i e x1 x2 x3 x4) (hx : H x = some (.lst xs)) (n : aw ≠ x) : RdA K A (upd H x (.lst ys)) a aw ws i e x1 x2 x3 x4 := by
  obtain ⟨dx, vs, h1, h2, h3⟩ := h.at_
  have s : SB [x] H (upd H x (.lst ys)) := SB.upd hx trivial trivial (by simp)
  exact ⟨dx, vs, by rw [upd_ne (ne_of h1 hx (by intro z; cases z))]; exact h1, by rw [upd_ne n]; exact h2, pairedMono (fun _ _ h => h.sb s) h3⟩
theorem PcA.same {p : Pl} {H H' : Hp} {i : Nat} {s : BSt} (z : Same H H') (h : PcA K A p H i s) : PcA K A p H' i s := by
  obtain ⟨ok, rd, hb, ⟨vs, he, he2⟩, hm, ⟨us, hy, hy2⟩, mo, il⟩ := h
  exact ⟨ok, rd.same z, z _ _ hb, ⟨vs, z _ _ he, pairedMono (fun _ _ h => h.mono (hid_same (SB.of z))) he2⟩, z _ _ hm, ⟨us, z _ _ hy, pairedMono (fun _ _ h => h.mono z) hy2⟩, mo.sb (M' := []) (SB.of z), il⟩
theorem PlOk.ma {p : Pl} (h : PlOk p) : p.a ∈ p.M := h.sub _ (by simp [Pl.mp])
theorem PlOk.mb {p : Pl} (h : PlOk p) : p.ab ∈ p.M := h.sub _ (by simp [Pl.mp])
theorem PlOk.me {p : Pl} (h : PlOk p) : p.ae ∈ p.M := h.sub _ (by simp [Pl.mp])
theorem PlOk.mm {p : Pl} (h : PlOk p) : p.am ∈ p.M := h.sub _ (by simp [Pl.mp])
theorem PlOk.my {p : Pl} (h : PlOk p) : p.ay ∈ p.M := h.sub _ (by simp [Pl.mp])
section
variable {p : Pl} {H : Hp} {i : Nat} {s : BSt}
theorem PcA.setM (h : PcA K A p H i s) (mr : List Nat) : PcA K A p (upd H p.am (.lst (mr.reverse.map natV))) i { s with mr := mr } ∧ SB p.mp H (upd H p.am (.lst (mr.reverse.map natV))) := by
  obtain ⟨ok, rd, hb, ⟨vs, he, he2⟩, hm, ⟨us, hy, hy2⟩, mo, il⟩ := h
  have z : SB p.mp H (upd H p.am (.lst (mr.reverse.map natV))) := SB.upd hm trivial trivial (by simp [Pl.mp])
  exact ⟨⟨ok, rd.updL hm ok.n3, by rw [upd_ne ok.n6]; exact hb, ⟨vs, by rw [upd_ne ok.n8]; exact he, pairedMono (fun _ _ h => h.mono (hid_same (z.mono ok.sub))) he2⟩, upd_same,
    ⟨us, by rw [upd_ne (Ne.symm ok.n10)]; exact hy, pairedMono (fun _ _ h => h.sb z) hy2⟩, mo.sb z, il⟩, z⟩
theorem PcA.setB (h : PcA K A p H i s) (bw : List (List Nat)) {xs : List V} (e : xs = bw.map strV) : PcA K A p (upd H p.ab (.lst xs)) i { s with bw := bw } ∧ SB p.mp H (upd H p.ab (.lst xs)) := by
  subst e
  obtain ⟨ok, rd, hb, ⟨vs, he, he2⟩, hm, ⟨us, hy, hy2⟩, mo, il⟩ := h
  have z : SB p.mp H (upd H p.ab (.lst (bw.map strV))) := SB.upd hb trivial trivial (by simp [Pl.mp])
  exact ⟨⟨ok, rd.updL hb ok.n1, upd_same, ⟨vs, by rw [upd_ne (Ne.symm ok.n5)]; exact he, pairedMono (fun _ _ h => h.mono (hid_same (z.mono ok.sub))) he2⟩, by rw [upd_ne (Ne.symm ok.n6)]; exact hm,
    ⟨us, by rw [upd_ne (Ne.symm ok.n7)]; exact hy, pairedMono (fun _ _ h => h.sb z) hy2⟩, mo.sb z, il⟩, z⟩
theorem PcA.setE (h : PcA K A p H i s) {xs : List V} {ts : List Timed} (hx : Paired (EvA K A (hid p.M H)) xs ts) : PcA K A p (upd H p.ae (.lst xs)) i { s with evs := ts } ∧ SB p.mp H (upd H p.ae (.lst xs)) := by
  obtain ⟨ok, rd, hb, ⟨vs, he, he2⟩, hm, ⟨us, hy, hy2⟩, mo, il⟩ := h
  have z : SB p.mp H (upd H p.ae (.lst xs)) := SB.upd he trivial trivial (by simp [Pl.mp])
  exact ⟨⟨ok, rd.updL he ok.n2, by rw [upd_ne ok.n5]; exact hb, ⟨xs, upd_same, pairedMono (fun _ _ h => h.mono (hid_same (z.mono ok.sub))) hx⟩, by rw [upd_ne (Ne.symm ok.n8)]; exact hm,
    ⟨us, by rw [upd_ne (Ne.symm ok.n9)]; exact hy, pairedMono (fun _ _ h => h.sb z) hy2⟩, mo.sb z, il⟩, z⟩
theorem PcA.setY (h : PcA K A p H i s) {xs : List V} {st : List (Nat × Nat)} (hx : Paired (FrA K H) xs (byTails st).reverse) : PcA K A p (upd H p.ay (.lst xs)) i { s with st := st } ∧ SB p.mp H (upd H p.ay (.lst xs)) := by
  obtain ⟨ok, rd, hb, ⟨vs, he, he2⟩, hm, ⟨us, hy, hy2⟩, mo, il⟩ := h
  have z : SB p.mp H (upd H p.ay (.lst xs)) := SB.upd hy trivial trivial (by simp [Pl.mp])
  exact ⟨⟨ok, rd.updL hy ok.n4, by rw [upd_ne ok.n7]; exact hb, ⟨vs, by rw [upd_ne ok.n9]; exact he, pairedMono (fun _ _ h => h.mono (hid_same (z.mono ok.sub))) he2⟩, by rw [upd_ne ok.n10]; exact hm,
    ⟨xs, upd_same, pairedMono (fun _ _ h => h.sb z) hx⟩, mo.sb z, il⟩, z⟩
/-- a word is taken -/
theorem PcA.took (h : PcA K A p H i s) {H' : Hp} (z : SB [p.a] H H') (k : ∀ b, b ≠ p.a → H' b = H b) (rd' : RdA K A H' p.a p.aw p.ws (i + 1) p.e (.ref p.ab) (.ref p.ae) (.ref p.am) (.ref p.ay)) (hi : i < p.ws.length) : PcA K A p H' (i + 1) s ∧ SB p.mp H H' := by
  obtain ⟨ok, rd, hb, ⟨vs, he, he2⟩, hm, ⟨us, hy, hy2⟩, mo, il⟩ := h
  obtain ⟨dx, ws, ha, _⟩ := rd.at_
  have z' : SB p.mp H H' := z.mono fun b hb => by
    rw [List.mem_singleton] at hb
    rw [hb]
    simp [Pl.mp]
  have n : ∀ {x : Addr} {xs : List V}, H x = some (.lst xs) → H' x = some (.lst xs) := fun {x xs} e => by
    rw [k x (ne_of e ha (by intro z; cases z))]
    exact e
  exact ⟨⟨ok, rd', n hb, ⟨vs, n he, pairedMono (fun _ _ h => h.mono (hid_same (z'.mono ok.sub))) he2⟩, n hm, ⟨us, n hy, pairedMono (fun _ _ h => h.sb z) hy2⟩, mo.sb z, hi⟩, z'⟩
end
/-! ### one piece more; an event -/
def sp_Reader_one_more (K : PySem.W.Frag) (A : Ad) : Sp := sp1 fun x H Q _ => ∃ (p : Pl) (i : Nat) (s : BSt), x = .ref p.a ∧ PcA K A p H i s ∧ s.mr ≠ [] ∧ ∀ H', SB p.mp H H' → PcA K A p H' i { s with mr := incr s.mr } → Q .non H'
theorem ok_Reader_one_more (T : Txt K mg A) : FnOk P w K mg base CX0 1 A.a_Reader_one_more A.d_Reader_one_more ["self"] (sp_Reader_one_more K A) := by
  refine T.F_Reader_one_more.ok sc_Reader_one_more (sp1_len) (fun cdv Ar outer s H vs Q E hr h => ?_)
  refine ⟨_, (pss_one (ps_augS (pe_fld (pv 0) rfl) (pe_un un_neg pe_int) get_list pe_int ip_add set_list)), ?_⟩
  obtain ⟨x, rfl, p, i, s, rfl, hp, hne, hq⟩ := h
  obtain ⟨dx, vs, ha, hw, hws⟩ := hp.rd.at_
  cases hmr : s.mr with
  | nil => exact absurd hmr hne
  | cons n r =>
  have hm := hp.hm
  rw [hmr] at hm
  have e1 : (n :: r).reverse.map natV = r.reverse.map natV ++ [natV n] := by simp
  rw [e1] at hm
  refine ⟨_, rfl, p.a, _, dx, _, _, rfl, ha, T.cl_Reader, T.n_Reader_many, l_Reader_many, _, rfl, ?_⟩
  refine ⟨p.am, _, _, _, rfl, rfl, SqL.of hm, atI_last _ _, _, _, rfl, rfl, ?_⟩
  refine ⟨p.am, _, _, (r.reverse.map natV).length, rfl, rfl, hm, ?_, ?_⟩
  · unfold ixN
    rw [if_neg (by omega), if_pos (by rw [List.length_append]; simp; omega)]
    rw [List.length_append, List.length_cons, List.length_nil]
    congr 1
    omega
  · have e2 : (r.reverse.map natV ++ [natV n]).set (r.reverse.map natV).length (V.int ((n : Int) + 1)) = (incr s.mr).reverse.map natV := by
      rw [List.set_append_right _ _ (Nat.le_refl _), Nat.sub_self, hmr]
      show r.reverse.map natV ++ [V.int ((n : Int) + 1)] = ((n + 1) :: r).reverse.map natV
      simp [natV]
    rw [e2]
    obtain ⟨h1, h2⟩ := hp.setM (incr s.mr)
    exact hq _ h2 h1
def sp_Reader_put (K : PySem.W.Frag) (A : Ad) : Sp := sp5 fun x y0 y1 y2 y3 H Q _ => ∃ (p : Pl) (i : Nat) (s : BSt) (l : Addr) (vs : List V) (ps : List Pitch) (k d : Nat) (t : Bool) (place : Nat), x = .ref p.a ∧ y0 = .ref l ∧ y2 = .bl t ∧ y3 = .int (place : Int) ∧ PcA K A p H i s ∧ l ∉ p.M ∧ H l = some (.lst vs) ∧ Paired (PiA K H) vs ps ∧ FrA K H y1 (signF k d) ∧ Sx62.KINDS.contains k = true ∧ d ≤ 2 ∧ StOk s.st ∧ s.st.length ≤ 3 ∧ s.mr ≠ [] ∧ s.evs.length ≤ 3000 ∧
  ∀ H', SB p.mp H H' → PcA K A p H' i ⟨incr s.mr, s.st, s.evs ++ [⟨place, ps, Sx62.signLong k d s.st, t⟩], s.bw⟩ → Q .non H'
theorem made {H H2 : Hp} {x dx : Addr} {o : HO} (nq : H x = none) (nd : H dx = none) (ne : dx ≠ x) (h2 : ∀ b, b ≠ x → H2 b = upd (upd H dx (.own x)) x o b) : Same H H2 ∧ H2 dx = some (.own x) := ⟨fun b u e => by
  rw [h2 b (ne_of_none e nq), upd_ne (ne_of_none e nq), upd_ne (ne_of_none e nd)]
  exact e, by rw [h2 dx ne, upd_ne ne, upd_same]⟩
theorem PiA.hid {M : List Addr} {H : Hp} {v : V} {p : Pitch} (m : MOk M H) (h : PiA K H v p) : PiA K (hid M H) v p := by
  obtain ⟨a, rfl, h⟩ := h
  exact ⟨a, rfl, hid_sqT m h⟩
theorem FrA.hid {M : List Addr} {H : Hp} {v : V} {f : Frac} (m : MOk M H) (h : FrA K H v f) : FrA K (hid M H) v f := by
  obtain ⟨a, rfl, h⟩ := h
  exact ⟨a, rfl, hid_sqT m h⟩
theorem ok_Reader_put (T : Txt K mg A) : FnOk P w K mg base CX0 4 A.a_Reader_put A.d_Reader_put ["self", "pitches", "long", "is_tied", "place"] (sp_Reader_put K A) := by
  have G_Event_init := ok_Event_init (P := P) (w := w) (base := base) T
  have G_Reader_one_more := ok_Reader_one_more (P := P) (w := w) (base := base) T
  have G_times := ok_times (P := P) (w := w) (base := base) T
  refine T.F_Reader_put.ok sc_Reader_put (sp5_len) (fun cdv Ar outer s H vs Q E hr h => ?_)
  refine ⟨_, (pss_cons (ps_expr (pe_bm PySem.F.plainAttrs_list PySem.F.slot_list_append PySem.F.type_list_append mt_append (pe_fld (pv 0) rfl) (pa_cons (pe_make T.M_Event G_Event_init (hr.mono (by decide)) rfl T.g_Event T.b_Event_init .nil pass0 (pa_cons (pv 1) (pa_cons (pe_call G_times (hr.mono (by decide)) rfl T.g_times T.F_times.kp T.b_times .nil pass0 (pa_cons (pv 2) (pa_cons (pe_ix ix_list (pe_fld (pv 0) rfl) (pe_un un_neg pe_int) (fun _ _ => rfl)) pa_nil))) (pa_cons (pv 3) (pa_cons (pv 4) pa_nil))))) pa_nil)))
      (pss_one (ps_expr (pe_meth0 (pv 0) T.cl_Reader T.m_Reader_one_more G_Reader_one_more (hr.mono (by decide)) T.b_Reader_one_more .nil pass0)))), ?_⟩
  obtain ⟨x, y0, y1, y2, y3, rfl, p, i, s, l, vs, ps, k, d, t, place, rfl, rfl, rfl, rfl, hp, hl, hlv, hps, hF, hk, hd, hst, hdeep, hne, hlen, hq⟩ := h
  obtain ⟨dx, _, ha, _⟩ := hp.rd.at_
  obtain ⟨es, he, hes⟩ := hp.he
  obtain ⟨bs, hy, hbs⟩ := hp.hy
  obtain ⟨rt, hrt⟩ := byTails_head s.st
  rw [hrt, List.reverse_cons] at hbs
  obtain ⟨b0, bl, rfl, hb0, hbl⟩ : ∃ b0 bl, bs = b0 ++ [bl] ∧ True ∧ FrA K H bl (byOf s.st) := by
    have hlb := Paired.length hbs
    have hnb : bs ≠ [] := fun z => by rw [z] at hlb; simp at hlb
    refine ⟨bs.dropLast, bs.getLast hnb, (List.dropLast_concat_getLast hnb).symm, trivial, ?_⟩
    obtain ⟨y, hy, hR⟩ := paired_get hbs (show bs[bs.length - 1]? = some (bs.getLast hnb) by rw [List.getLast_eq_getElem]; exact List.getElem?_eq_getElem _)
    rw [hlb, List.length_append, List.length_cons, List.length_nil, Nat.add_sub_cancel, List.getElem?_append_right (Nat.le_refl _), Nat.sub_self] at hy
    cases hy
    exact hR
  refine ⟨_, rfl, p.a, _, dx, _, _, rfl, ha, T.cl_Reader, T.n_Reader_events, l_Reader_events, .inl ⟨rfl, _, SqL.of he⟩, _, rfl, _, rfl, ?_⟩
  refine ⟨_, rfl, p.a, _, dx, _, _, rfl, ha, T.cl_Reader, T.n_Reader_by, l_Reader_by, _, rfl, p.ay, _, _, _, rfl, rfl, SqL.of hy, atI_last _ _, ?_⟩
  refine ⟨_, _, rfl, signF k d, byOf s.st, hF, hbl, fg_sig hk hd, fg_by hst hdeep, fun v H1 s1 hv => ?_⟩
  have hp1 := hp.same s1
  refine ⟨_, rfl, _, rfl, fun q dq nq nd ne => ?_⟩
  refine ⟨_, _, _, _, _, rfl, q, dq, rfl, upd_same, fun H2 h1 h2 => ⟨rfl, ?_⟩⟩
  obtain ⟨s2, h2'⟩ := made nq nd ne h2
  have hp2 := hp1.same s2
  obtain ⟨es2, he2, hes2⟩ := hp2.he
  have e1 : es2 = es := by
    have := (s1.trans s2) _ _ he
    rw [he2] at this
    cases this
    rfl
  subst e1
  have hq1 : q ∉ p.M := hp1.mo.new nq
  have hR : EvA K A (hid p.M H2) (.ref q) ⟨place, ps, Sx62.signLong k d s.st, t⟩ := by
    refine ⟨q, dq, l, v, vs, rfl, by rw [hid_out hq1]; exact h1, by rw [hid_out hl]; exact (s1.trans s2) _ _ hlv, pairedMono (fun _ _ h => (h.mono (s1.trans s2)).hid hp2.mo) hps, ?_⟩
    have : FrA K H2 v (mul (signF k d) (byOf s.st)) := hv.mono s2
    rw [show (Timed.mk place ps (Sx62.signLong k d s.st) t).long = mul (signF k d) (byOf s.st) from signLong_eq (kinds_dvd hk).1 hst]
    exact this.hid hp2.mo
  refine ⟨p.ae, _, _, rfl, rfl, he2, by rw [Paired.length hes2, sizeLine_eq]; omega, ?_⟩
  obtain ⟨hp3, s3⟩ := hp2.setE (pairedApp hes2 (.cons hR .nil))
  obtain ⟨dx3, _, ha3, _⟩ := hp3.rd.at_
  refine ⟨_, rfl, p.a, dx3, _, rfl, ha3, l_Reader_one_more, _, rfl, p, i, _, rfl, hp3, hne, fun H4 s4 hp4 => ?_⟩
  exact hq H4 (((SB.of (s1.trans s2)).trans s3).trans s4) hp4
theorem look_len {ws : List Word} (h : WsOk ws) (i : Nat) : (lookT (ws.drop i)).length ≤ 2000 := by
  cases e : ws.drop i with
  | nil => exact Nat.zero_le _
  | cons x l => exact h.txt x (List.mem_of_mem_drop (by rw [e]; exact List.mem_cons_self))
theorem look_lt {ws : List Word} {i : Nat} (h : lookT (ws.drop i) ≠ []) : i < ws.length := by
  rcases Nat.lt_or_ge i ws.length with h1 | h1
  · exact h1
  · rw [List.drop_eq_nil_of_le h1] at h
    exact absurd rfl h
/-- what a sign alone says: pitches, kind, dots, tie -/
inductive SgIs (tx : List Nat) : List Pitch → Nat → Nat → Bool → Prop
  | note {q : Pitch} {k d : Nat} {t : Bool} (h : noteIn tx = some (q, k, d, t)) : SgIs tx [q] k d t
  | rest {k d : Nat} (h : noteIn tx = none) (h2 : restIn tx = some (k, d)) : SgIs tx [] k d false
theorem noteIn_long {l : List Nat} {x : Pitch × Nat × Nat × Bool} (h : noteIn l = some x) : Sx62.KINDS.contains x.2.1 = true ∧ x.2.2.1 ≤ 2 := by
  unfold noteIn at h
  split at h
  · cases h
  · rename_i y e
    cases e2 : Sx62.longOf y.2 with
    | none => rw [e2] at h; cases h
    | some z =>
      rw [e2] at h
      cases h
      obtain ⟨_, _, _, h1, h2⟩ := longOf_some e2
      exact ⟨h1, h2⟩
theorem restIn_long {l : List Nat} {x : Nat × Nat} (h : restIn l = some x) : Sx62.KINDS.contains x.1 = true ∧ x.2 ≤ 2 := by
  unfold restIn at h
  split at h
  · split at h
    · rename_i e
      cases h
      obtain ⟨_, _, _, h1, h2⟩ := longOf_some e
      exact ⟨h1, h2⟩
    · cases h
  · cases h
def sp_Reader_single (K : PySem.W.Frag) (A : Ad) : Sp := sp1 fun x H Q E => ∃ (p : Pl) (i : Nat) (s : BSt), x = .ref p.a ∧ PcA K A p H i s ∧ StOk s.st ∧ s.st.length ≤ 3 ∧ s.mr ≠ [] ∧ s.evs.length ≤ 3000 ∧ s.bw.length ≤ 3000 ∧
  (noteIn (lookT (p.ws.drop i)) = none → restIn (lookT (p.ws.drop i)) = none → RaiseF A E p.mp H 2 (hereP p.e (p.ws.drop i))) ∧
  ∀ ps k d t, SgIs (lookT (p.ws.drop i)) ps k d t → ∀ H', SB p.mp H H' → PcA K A p H' (i + 1) ⟨incr s.mr, s.st, s.evs ++ [⟨hereP p.e (p.ws.drop i), ps, Sx62.signLong k d s.st, t⟩], s.bw ++ [lookT (p.ws.drop i)]⟩ → Q .non H'
theorem RaiseF.less {E : XK} {M M' : List Addr} {H H' : Hp} {k p : Nat} (h : RaiseF A E M H k p) (s : SB M' H H') (hm : ∀ b ∈ M', b ∈ M) : RaiseF A E [] H' k p := fun d H2 s2 hd => h d H2 ((s.mono hm).trans (s2.mono (by simp))) hd
theorem app_take (T : Txt K mg A) {p : Pl} {H : Hp} {i : Nat} {s : BSt} {σ : L2.St} {Q : VK} {r : List (Option V)} (e : σ = some (.ref p.a) :: r) (hp : PcA K A p H i s) (hi : i < p.ws.length) (hbl : s.bw.length ≤ 3000)
    (hq : ∀ H', SB p.mp H H' → PcA K A p H' (i + 1) ⟨s.mr, s.st, s.evs, s.bw ++ [lookT (p.ws.drop i)]⟩ → Q .non H') :
    tBM K "list" rAppend (tFld K (tVar 0) (Str.ofString "bar_words")) (tCons (tMeth A.C_Reader (Str.ofString "take") (sp_Reader_take K A) [] E0 (tVar 0) tNil) tNil) σ H Q := by
  subst e
  obtain ⟨dx, _, ha, _⟩ := hp.rd.at_
  refine ⟨_, rfl, p.a, _, dx, _, _, rfl, ha, T.cl_Reader, T.n_Reader_bar_words, l_Reader_bar_words, .inl ⟨rfl, _, SqL.of hp.hb⟩, _, rfl, p.a, dx, _, rfl, ha, l_Reader_take, ?_⟩
  refine ⟨_, rfl, p.a, p.aw, p.ws, i, p.e, _, _, _, _, rfl, hp.rd, hp.il, fun H1 s1 k1 rd1 => ?_⟩
  obtain ⟨hp1, z1⟩ := hp.took s1 k1 rd1 hi
  refine ⟨p.ab, _, _, rfl, rfl, hp1.hb, by rw [List.length_map, sizeLine_eq]; omega, ?_⟩
  obtain ⟨hp2, z2⟩ := hp1.setB (s.bw ++ [lookT (p.ws.drop i)]) (xs := s.bw.map strV ++ [V.str (S (lookT (p.ws.drop i)))]) (by rw [List.map_append]; rfl)
  exact hq _ (z1.trans z2) hp2
theorem ok_Reader_single (T : Txt K mg A) : FnOk P w K mg base (L2N.CX P w) 5 A.a_Reader_single A.d_Reader_single ["self"] (sp_Reader_single K A) := by
  have G_Reader_here := ok_Reader_here (P := P) (w := w) (base := base) T
  have G_Reader_look := ok_Reader_look (P := P) (w := w) (base := base) T
  have G_Reader_put := ok_Reader_put (P := P) (w := w) (base := base) T
  have G_Reader_take := ok_Reader_take (P := P) (w := w) (base := base) T
  have G_Reader_want := ok_Reader_want (P := P) (w := w) (base := base) T
  have G_note_in := ok_note_in (P := P) (w := w) (base := base) T
  have G_rest_in := ok_rest_in (P := P) (w := w) (base := base) T
  refine okN T.F_Reader_single sc_Reader_single (sp1_len) (fun cdv Ar outer s H vs Q E hr h tk => ?_)
  refine ⟨_, (pss_cons (ps_set (i := 1) sc_Reader_single.nd rfl (Or.inl rfl) (pe_meth0 (pv 0) T.cl_Reader T.m_Reader_look G_Reader_look (hr.mono (by decide)) T.b_Reader_look .nil pass0))
      (pss_cons (ps_set (i := 2) sc_Reader_single.nd rfl (Or.inl rfl) (pe_call G_note_in (hr.mono (by decide)) rfl T.g_note_in T.F_note_in.kp T.b_note_in .nil pass0 (pa_cons (pv 1) pa_nil)))
      (pss_cons (ps_set (i := 3) sc_Reader_single.nd rfl (Or.inl rfl) (pe_call G_rest_in (hr.mono (by decide)) rfl T.g_rest_in T.F_rest_in.kp T.b_rest_in .nil pass0 (pa_cons (pv 1) pa_nil)))
      (pss_cons (ps_expr (pe_meth (pv 0) T.cl_Reader T.m_Reader_want G_Reader_want (hr.mono (by decide)) T.b_Reader_want .nil (L2N.passes_call tk fun _ _ _ _ h => h) (pa_cons (pe_or (pe_cmpR op_notN (pv 2) pe_non (nomark _)) (pe_one (pe_cmpR op_notN (pv 3) pe_non (nomark _)))) (pa_cons (pe_gI T.c_BAD_WORD) pa_nil))))
      (pss_cons (ps_if (pt_cmpR op_notN (pv 2) pe_non (nomark _)) (pss_one (ps_expr (pe_meth (pv 0) T.cl_Reader T.m_Reader_put G_Reader_put (hr.mono (by decide)) T.b_Reader_put .nil pass0 (pa_cons (pe_lst (pa_cons (pe_ix ix_tup (pv 2) pe_int (fun _ _ => rfl)) pa_nil)) (pa_cons (pe_ix ix_tup (pv 2) pe_int (fun _ _ => rfl)) (pa_cons (pe_ix ix_tup (pv 2) pe_int (fun _ _ => rfl)) (pa_cons (pe_meth0 (pv 0) T.cl_Reader T.m_Reader_here G_Reader_here (hr.mono (by decide)) T.b_Reader_here .nil pass0) pa_nil))))))) (pss_one (ps_expr (pe_meth (pv 0) T.cl_Reader T.m_Reader_put G_Reader_put (hr.mono (by decide)) T.b_Reader_put .nil pass0 (pa_cons (pe_lst pa_nil) (pa_cons (pv 3) (pa_cons pe_bl (pa_cons (pe_meth0 (pv 0) T.cl_Reader T.m_Reader_here G_Reader_here (hr.mono (by decide)) T.b_Reader_here .nil pass0) pa_nil))))))))
      (pss_one (ps_expr (pe_bm PySem.F.plainAttrs_list PySem.F.slot_list_append PySem.F.type_list_append mt_append (pe_fld (pv 0) rfl) (pa_cons (pe_meth0 (pv 0) T.cl_Reader T.m_Reader_take G_Reader_take (hr.mono (by decide)) T.b_Reader_take .nil pass0) pa_nil))))))))), ?_⟩
  obtain ⟨x, rfl, p, i, s, rfl, hp, hst, hdeep, hne, hel, hbl, hE, hq⟩ := h
  obtain ⟨dx, _, ha, _⟩ := hp.rd.at_
  have tl := look_len hp.ok.wo i
  have tz := fun h => look_lt (ws := p.ws) (i := i) h
  obtain ⟨tx, etx⟩ : ∃ tx, lookT (p.ws.drop i) = tx := ⟨_, rfl⟩
  rw [etx] at tl tz hE hq
  refine ⟨_, rfl, p.a, dx, _, rfl, ha, l_Reader_look, _, rfl, p.a, p.aw, p.ws, i, p.e, _, _, _, _, rfl, hp.rd, hp.il, ?_⟩
  rw [etx]
  refine ⟨_, rfl, _, rfl, tx, rfl, tl, ?_⟩
  cases hn : noteIn tx with
  | some y =>
    obtain ⟨q, k, d, t⟩ := y
    have hr0 := note_rest hn
    obtain ⟨hk, hd⟩ := noteIn_long hn
    rintro v H1 s1 ⟨na, u, f, rfl, hna, hu, hf⟩
    refine ⟨_, rfl, _, rfl, tx, rfl, tl, ?_⟩
    unfold restF
    rw [hr0]
    intro H2 s2
    have hp2 := hp.same (s1.trans s2)
    have ha2 := (s1.trans s2) _ _ ha
    have hna2 := sameT s2 hna
    refine ⟨_, rfl, p.a, dx, _, rfl, ha2, l_Reader_want, _, rfl, rfl, true, rfl, ?_⟩
    refine ⟨_, _, _, rfl, p.a, p.aw, p.ws, i, p.e, _, _, _, _, true, 2, rfl, rfl, rfl, hp2.rd, hp.il, fun _ => ?_, fun z => nomatch z⟩
    refine ⟨_, rfl, rfl, _, rfl, ite_t rfl ?_⟩
    refine ⟨_, rfl, p.a, dx, _, rfl, ha2, l_Reader_put, _, rfl, na, _, 0, _, rfl, rfl, hna2, at0 _ _, by show 1 ≤ sizeLine; decide, fun l nl => ?_⟩
    have s3 := same_new (o := .lst [u]) nl
    have hp3 := hp2.same s3
    refine ⟨_, rfl, na, _, 1, _, rfl, rfl, sameT s3 hna2, at1 _ _ _, _, rfl, na, _, 2, _, rfl, rfl, sameT s3 hna2, atI_nat (j := 2) rfl, ?_⟩
    refine ⟨_, rfl, p.a, dx, _, rfl, s3 _ _ ha2, l_Reader_here, _, rfl, p.a, p.aw, p.ws, i, p.e, _, _, _, _, rfl, hp3.rd, hp.il, ?_⟩
    refine ⟨_, _, _, _, _, rfl, p, i, s, l, _, [q], k, d, t, _, rfl, rfl, rfl, rfl, hp3, hp2.mo.new nl, upd_same, .cons (hu.mono (s2.trans s3)) .nil, hf.mono (s2.trans s3), hk, hd, hst, hdeep, hne, hel, fun H4 s4 hp4 => ?_⟩
    refine app_take T rfl hp4 (tz fun z => by rw [z] at hn; cases hn) hbl fun H5 s5 hp5 => ?_
    rw [etx] at hp5
    exact hq _ _ _ _ (.note hn) H5 (((SB.of ((s1.trans s2).trans s3)).trans s4).trans s5) hp5
  | none =>
    intro H1 s1
    refine ⟨_, rfl, _, rfl, tx, rfl, tl, ?_⟩
    unfold restF
    cases hr0 : restIn tx with
    | none =>
      intro H2 s2
      have hp2 := hp.same (s1.trans s2)
      have ha2 := (s1.trans s2) _ _ ha
      refine ⟨_, rfl, p.a, dx, _, rfl, ha2, l_Reader_want, _, rfl, rfl, false, rfl, _, rfl, rfl, ?_⟩
      exact ⟨_, _, _, rfl, p.a, p.aw, p.ws, i, p.e, _, _, _, _, false, 2, rfl, rfl, rfl, hp2.rd, hp.il, (fun z => nomatch z), fun _ => (hE hn hr0).less (SB.of (M := []) (s1.trans s2)) (by simp)⟩
    | some y =>
      obtain ⟨k, d⟩ := y
      obtain ⟨hk, hd⟩ := restIn_long hr0
      rintro v H2 s2 hf
      have nv : decide (v = .non) = false := by
        obtain ⟨q, rfl, _⟩ := hf
        exact decide_eq_false (fun z => by cases z)
      have hp2 := hp.same (s1.trans s2)
      have ha2 := (s1.trans s2) _ _ ha
      refine ⟨_, rfl, p.a, dx, _, rfl, ha2, l_Reader_want, _, rfl, rfl, false, rfl, _, rfl, rfl, ?_⟩
      refine ⟨_, _, _, rfl, p.a, p.aw, p.ws, i, p.e, _, _, _, _, true, 2, rfl, by rw [nv]; rfl, rfl, hp2.rd, hp.il, fun _ => ?_, fun z => nomatch z⟩
      refine ⟨_, rfl, rfl, _, rfl, ite_f rfl ?_⟩
      refine ⟨_, rfl, p.a, dx, _, rfl, ha2, l_Reader_put, by show 0 ≤ sizeLine; decide, fun l nl => ?_⟩
      have s3 := same_new (o := .lst []) nl
      have hp3 := hp2.same s3
      refine ⟨_, rfl, _, rfl, p.a, dx, _, rfl, s3 _ _ ha2, l_Reader_here, _, rfl, p.a, p.aw, p.ws, i, p.e, _, _, _, _, rfl, hp3.rd, hp.il, ?_⟩
      refine ⟨_, _, _, _, _, rfl, p, i, s, l, _, [], k, d, false, _, rfl, rfl, rfl, rfl, hp3, hp2.mo.new nl, upd_same, .nil, hf.mono s3, hk, hd, hst, hdeep, hne, hel, fun H4 s4 hp4 => ?_⟩
      refine app_take T rfl hp4 (tz fun z => by rw [z] at hr0; cases hr0) hbl fun H5 s5 hp5 => ?_
      rw [etx] at hp5
      exact hq _ _ _ _ (.rest hn hr0) H5 (((SB.of ((s1.trans s2).trans s3)).trans s4).trans s5) hp5
end
end Sc

set_option Elab.async false
set_option linter.all false
set_option maxRecDepth 100000
set_option maxHeartbeats 4000000
/-! # a chord -/
namespace Sc
open PySem PySem.Spec PyProof.Rows L2 Pf
open Sx62 (Frac Pitch Word Timed Piece)
/-! ### pitches as data -/
def pd (p : Pitch) : PyData := .tuple [.int (p.octave : Int), .int (p.letter : Int), .int (p.sign : Int)]
theorem pd_eqv (p q : Pitch) : PyData.eqv (pd p) (pd q) = decide (p = q) := by
  obtain ⟨a, b, c⟩ := p
  obtain ⟨d, e, f⟩ := q
  rw [Bool.eq_iff_iff]
  simp [pd, PyData.eqv, PyData.eqvAll]
  omega
theorem pd_lay (p : Pitch) : (pd p).canLay0 = true := by simp [pd, PyData.canLay0, PyData.canLayAll0]
theorem pd_depth (p : Pitch) : (pd p).depth = 1 := by simp [pd, PyData.depth, PyData.depthAll]
theorem pd_shaped (p : Pitch) : SeqAt.shaped (pd p) = true := by simp [SeqAt.shaped, pd_lay, pd_depth]
theorem pds_lay : ∀ ps : List Pitch, PyData.canLayAll0 (ps.map pd) = true
  | [] => rfl
  | p :: ps => by simp [PyData.canLayAll0, pd_lay, pds_lay ps]
theorem pds_depth : ∀ ps : List Pitch, PyData.depthAll (ps.map pd) ≤ 1
  | [] => Nat.zero_le _
  | p :: ps => by
    have := pds_depth ps
    simp only [List.map_cons, PyData.depthAll, pd_depth]
    omega
theorem pds_shaped (ps : List Pitch) : SeqAt.shaped (.list (ps.map pd)) = true := by
  have := pds_depth ps
  simp only [SeqAt.shaped, PyData.canLay0, PyData.depth, pds_lay, Bool.true_and, decide_eq_true_eq]
  exact decide_eq_true (Nat.le_trans (Nat.succ_le_succ this) (by decide))
theorem pds_any (ps : List Pitch) (p : Pitch) : ((ps.map pd).any fun z => PyData.eqv z (pd p)) = ps.contains p := by
  rw [List.any_map, Bool.eq_iff_iff]
  simp only [List.any_eq_true, Function.comp_apply, pd_eqv, decide_eq_true_eq, List.contains_eq_mem]
  exact ⟨fun ⟨x, h, e⟩ => e ▸ h, fun h => ⟨p, h, rfl⟩⟩
theorem PiA.dp {K : PySem.W.Frag} {H : Hp} {v : V} {p : Pitch} (h : PiA K H v p) : Dp K H v (pd p) := by
  obtain ⟨a, rfl, h⟩ := h
  exact .tup h (.cons (.int _) (.cons (.int _) (.cons (.int _) .nil)))
theorem pis_dp {K : PySem.W.Frag} {H : Hp} : ∀ {vs : List V} {ps : List Pitch}, Paired (PiA K H) vs ps → DpAll K H vs (ps.map pd)
  | _, _, .nil => .nil
  | _, _, .cons h r => .cons h.dp (pis_dp r)
theorem paired_perm {α β : Type} {R : α → β → Prop} {xs ys : List α} (h : ys.Perm xs) : ∀ {bs : List β}, Paired R xs bs → ∃ cs, Paired R ys cs ∧ cs.Perm bs := by
  induction h with
  | nil =>
    intro bs r
    cases r
    exact ⟨[], .nil, .refl _⟩
  | cons a _ ih =>
    intro bs r
    cases r with
    | cons h1 r1 =>
      obtain ⟨cs, h2, h3⟩ := ih r1
      exact ⟨_ :: cs, .cons h1 h2, h3.cons _⟩
  | swap a b l =>
    intro bs r
    cases r with
    | cons h1 r1 =>
      cases r1 with
      | cons h2 r2 => exact ⟨_ :: _ :: _, .cons h2 (.cons h1 r2), .swap _ _ _⟩
  | trans _ _ ih1 ih2 =>
    intro bs r
    obtain ⟨cs, h1, h2⟩ := ih2 r
    obtain ⟨ds, h3, h4⟩ := ih1 h1
    exact ⟨ds, h3, h4.trans h2⟩
theorem paired_mem {α β : Type} {R : α → β → Prop} : ∀ {xs : List α} {bs : List β}, Paired R xs bs → ∀ b ∈ bs, ∃ x ∈ xs, R x b
  | _, _, .nil, b, h => by cases h
  | _, _, .cons h1 r, b, h => by
    rcases List.mem_cons.mp h with h | h
    · subst h; exact ⟨_, List.mem_cons_self, h1⟩
    · obtain ⟨x, hx, hR⟩ := paired_mem r b h
      exact ⟨x, List.mem_cons_of_mem _ hx, hR⟩
theorem paired_memL {α β : Type} {R : α → β → Prop} : ∀ {xs : List α} {bs : List β}, Paired R xs bs → ∀ x ∈ xs, ∃ b ∈ bs, R x b
  | _, _, .nil, b, h => by cases h
  | _, _, .cons h1 r, b, h => by
    rcases List.mem_cons.mp h with h | h
    · subst h; exact ⟨_, List.mem_cons_self, h1⟩
    · obtain ⟨x, hx, hR⟩ := paired_memL r b h
      exact ⟨x, List.mem_cons_of_mem _ hx, hR⟩
theorem paired_pw {α β : Type} {R : α → β → Prop} {P : α → α → Prop} {P' : β → β → Prop} (hp : ∀ x y a b, R x a → R y b → P x y → P' a b) : ∀ {xs : List α} {bs : List β}, Paired R xs bs → xs.Pairwise P → bs.Pairwise P'
  | _, _, .nil, _ => .nil
  | _, _, .cons h1 r, h => by
    obtain ⟨p1, p2⟩ := List.pairwise_cons.mp h
    refine List.pairwise_cons.mpr ⟨fun b hb => ?_, paired_pw hp r p2⟩
    obtain ⟨x, hx, hR⟩ := paired_mem r b hb
    exact hp _ _ _ _ h1 hR (p1 x hx)
theorem pi_code (p : Pitch) : TS.code 10 [(p.octave : Int), (p.letter : Int), (p.sign : Int)] = (pcode p : Int) := by
  show (p.octave : Int) * 10 ^ 2 + ((p.letter : Int) * 10 ^ 1 + ((p.sign : Int) * 10 ^ 0 + 0)) = ((p.octave * 100 + p.letter * 10 + p.sign : Nat) : Int)
  omega
theorem ans_orS {t u : TT} {σ : L2.St} {H : Hp} {b1 b2 : Bool} {Q : Bool → Hp → Prop} (h1 : ∀ Q : Bool → Hp → Prop, (∀ H', Same H H' → Q b1 H') → t σ H Q) (h2 : ∀ (H' : Hp) (Q : Bool → Hp → Prop), Same H H' → Q b2 H' → u σ H' Q) (q : ∀ H', Same H H' → Q (b1 || b2) H') : tOr t u σ H Q := by
  refine h1 _ fun H' z => ?_
  cases b1 with
  | true => exact q H' z
  | false => exact h2 H' _ z (q H' z)
/-! ### the turns of a chord -/
theorem chord_bad {e pl : Nat} {ps : List Pitch} {r : List Word} (h : pit (lookT r) = none) (h2 : ∀ y, chordEnd (lookT r) = some y → ps.length < 2) : Sx62.chordFrom e pl ps r = Sx62.bad (hereP e r) := by
  cases r with
  | nil => rfl
  | cons w l =>
    rw [chord_cons]
    have h : pit w.text = none := h
    have h2 : ∀ y, chordEnd w.text = some y → ps.length < 2 := h2
    cases e1 : chordEnd w.text with
    | some y =>
      simp only
      rw [if_pos (h2 y e1)]
      rfl
    | none =>
      simp only
      rw [h]
      rfl
theorem chordEnd_pit {l : List Nat} {y : Nat × Nat × Bool} (h : chordEnd l = some y) : pit l = none := by
  unfold chordEnd at h
  split at h
  · exact pit_93 _
  · cases h
theorem chord_turn {e pl : Nat} {ps : List Pitch} {r : List Word} {q : Pitch} (h : pit (lookT r) = some q) : Sx62.chordFrom e pl ps r = if ps.contains q = true ∨ 6 ≤ ps.length then Sx62.bad (hereP e r) else Sx62.chordFrom e pl (Sx62.putPitch q ps) (r.drop 1) := by
  cases r with
  | nil => cases h
  | cons w l =>
    have h : pit w.text = some q := h
    rw [chord_cons]
    cases e1 : chordEnd w.text with
    | some y => rw [chordEnd_pit e1] at h; cases h
    | none =>
      simp only
      rw [h]
      rfl
theorem chord_stop {e pl : Nat} {ps : List Pitch} {r : List Word} {y : Nat × Nat × Bool} (h : chordEnd (lookT r) = some y) (h2 : ¬ ps.length < 2) : Sx62.chordFrom e pl ps r = .ok (.note pl ps y.1 y.2.1 y.2.2, r.drop 1) := by
  cases r with
  | nil => cases h
  | cons w l =>
    have h : chordEnd w.text = some y := h
    rw [chord_cons, h]
    simp only
    rw [if_neg h2]
    rfl
theorem pieceWords_chord {pl k d : Nat} {ps : List Pitch} {t : Bool} (h : 2 ≤ ps.length) : pieceWords (.note pl ps k d t) = [[91]] ++ ps.map Sx62.pitchText ++ [93 :: Sx62.longText k d t] := by
  match ps, h with
  | _ :: _ :: _, _ => rfl
/-! ### one more list of one's own -/
abbrev Pl.wide (p : Pl) (x : Addr) : Pl := ⟨p.a, p.aw, p.ab, p.ae, p.am, p.ay, p.ws, p.e, x :: p.M⟩
section
variable {K : PySem.W.Frag} {A : Ad} {p : Pl} {H : Hp} {i : Nat} {s : BSt} {x : Addr}
theorem PcA.more (h : PcA K A p H i s) (hx : H x = none) {xs : List V} : PcA K A (p.wide x) (upd H x (.lst xs)) i s := by
  have z : Same H (upd H x (.lst xs)) := same_new hx
  obtain ⟨ok, rd, hb, ⟨vs, he, he2⟩, hm, ⟨us, hy, hy2⟩, mo, il⟩ := h.same z
  refine ⟨⟨ok.n1, ok.n2, ok.n3, ok.n4, ok.n5, ok.n6, ok.n7, ok.n8, ok.n9, ok.n10, fun b hb => List.mem_cons_of_mem _ (ok.sub b hb), ok.wo⟩, rd, hb, ⟨vs, he, ?_⟩, hm, ⟨us, hy, hy2⟩, fun b hb => ?_, il⟩
  · obtain ⟨vs0, he0, he02⟩ := h.he
    have : vs0 = vs := by
      have := z _ _ he0
      rw [he] at this
      cases this
      rfl
    subst this
    refine pairedMono (fun _ _ h => h.mono fun b o e => ?_) he02
    by_cases hM : b ∈ p.M
    · rw [hid_in hM] at e; cases e
    · rw [hid_out hM] at e
      have hne := ne_of_none e hx
      rw [hid_out (by
        intro z
        rcases List.mem_cons.mp z with z | z
        · exact hne z
        · exact hM z), upd_ne hne]
      exact e
  · rcases List.mem_cons.mp hb with hb | hb
    · subst hb; exact ⟨_, upd_same, trivial⟩
    · exact mo b hb
theorem PcA.fewer (h : PcA K A (p.wide x) H i s) (ok0 : PlOk p) : PcA K A p H i s := by
  obtain ⟨ok, rd, hb, ⟨vs, he, he2⟩, hm, ⟨us, hy, hy2⟩, mo, il⟩ := h
  exact ⟨ok0, rd, hb, ⟨vs, he, pairedMono (fun _ _ h => h.mono (hid_less fun b hb => List.mem_cons_of_mem _ hb)) he2⟩, hm, ⟨us, hy, hy2⟩, (fun b hb => mo b (List.mem_cons_of_mem _ hb)), il⟩
theorem PcA.updX (h : PcA K A p H i s) {xs ys : List V} (hx : H x = some (.lst xs)) (hM : x ∈ p.M) (hn : x ∉ p.mp) (hw : p.aw ≠ x) : PcA K A p (upd H x (.lst ys)) i s := by
  obtain ⟨ok, rd, hb, ⟨vs, he, he2⟩, hm, ⟨us, hy, hy2⟩, mo, il⟩ := h
  have z : SB [x] H (upd H x (.lst ys)) := SB.upd hx trivial trivial (by simp)
  have n : ∀ y ∈ p.mp, y ≠ x := fun y hy e => hn (e ▸ hy)
  exact ⟨ok, rd.updL hx hw, by rw [upd_ne (n _ (by simp [Pl.mp]))]; exact hb, ⟨vs, by rw [upd_ne (n _ (by simp [Pl.mp]))]; exact he, pairedMono (fun _ _ h => h.mono (hid_same (z.mono fun b hb => by rw [List.mem_singleton] at hb; rw [hb]; exact hM))) he2⟩,
    by rw [upd_ne (n _ (by simp [Pl.mp]))]; exact hm, ⟨us, by rw [upd_ne (n _ (by simp [Pl.mp]))]; exact hy, pairedMono (fun _ _ h => h.sb z) hy2⟩, mo.sb z, il⟩
end
section
variable {P : Program} {w : World} {K : PySem.W.Frag} {mg : Str → Option Value} {base : Heap} {A : Ad}
def sp_Reader_chord (K : PySem.W.Frag) (A : Ad) : Sp := sp1 fun x H Q E => ∃ (p : Pl) (i : Nat) (s : BSt) (w : Word) (l : List Word), x = .ref p.a ∧ PcA K A p H i s ∧ p.ws.drop i = w :: l ∧ w.text = [91] ∧ StOk s.st ∧ s.st.length ≤ 3 ∧ s.mr ≠ [] ∧ s.evs.length ≤ 2000 ∧ s.bw.length ≤ 2000 ∧
  (∀ x, Sx62.chordFrom p.e w.place [] l = .error x → RaiseF A E p.mp H x.kind x.place) ∧
  (∀ j ps k d t, Sx62.chordFrom p.e w.place [] l = .ok (.note w.place ps k d t, p.ws.drop j) → j ≤ p.ws.length → i + ps.length + 2 = j → PcOk (.note w.place ps k d t) → 2 ≤ ps.length →
    ∀ H', SB p.mp H H' → PcA K A p H' j ⟨incr s.mr, s.st, s.evs ++ [⟨w.place, ps, Sx62.signLong k d s.st, t⟩], s.bw ++ pieceWords (.note w.place ps k d t)⟩ → Q .non H')
/-- within a chord -/
def ChW (K : PySem.W.Frag) (A : Ad) (p : Pl) (s : BSt) (lp : Addr) (pl : Nat) (l : List Word) (i : Nat) (H0 : Hp) (m : Nat) (σ : L2.St) (H : Hp) : Prop := ∃ (j : Nat) (qs : List Pitch) (vs : List V) (u : Option V),
  m = p.ws.length - j ∧ σ = [some (.ref p.a), some (.int (pl : Int)), some (.str (S [91])), some (.ref lp), u, none, none] ∧ PcA K A (p.wide lp) H j s ∧ SB p.mp H0 H ∧ H lp = some (.lst vs) ∧ Paired (PiA K H) vs qs ∧ (∀ q ∈ qs, PiecOk q) ∧
  i + qs.length + 1 = j ∧ qs.length ≤ 6 ∧ Sx62.chordFrom p.e pl [] l = Sx62.chordFrom p.e pl (sortP qs) (p.ws.drop j)
theorem ok_Reader_chord (T : Txt K mg A) : FnOk P w K mg base (L2N.CX P w) 5 A.a_Reader_chord A.d_Reader_chord ["self"] (sp_Reader_chord K A) := by
  have G_Reader_here := ok_Reader_here (P := P) (w := w) (base := base) T
  have G_Reader_look := ok_Reader_look (P := P) (w := w) (base := base) T
  have G_Reader_put := ok_Reader_put (P := P) (w := w) (base := base) T
  have G_Reader_take := ok_Reader_take (P := P) (w := w) (base := base) T
  have G_Reader_want := ok_Reader_want (P := P) (w := w) (base := base) T
  have G_chord_end_in := ok_chord_end_in (P := P) (w := w) (base := base) T
  have G_pitch_in := ok_pitch_in (P := P) (w := w) (base := base) T
  have G_pitch_word := ok_pitch_word (P := P) (w := w) (base := base) T
  refine okN T.F_Reader_chord sc_Reader_chord (sp1_len) (fun cdv Ar outer s H vs Q E hr h tk => ?_)
  refine ⟨_, (pss_cons (ps_set (i := 1) sc_Reader_chord.nd rfl (Or.inl rfl) (pe_meth0 (pv 0) T.cl_Reader T.m_Reader_here G_Reader_here (hr.mono (by decide)) T.b_Reader_here .nil pass0))
      (pss_cons (ps_set (i := 2) sc_Reader_chord.nd rfl (Or.inl rfl) (pe_meth0 (pv 0) T.cl_Reader T.m_Reader_take G_Reader_take (hr.mono (by decide)) T.b_Reader_take .nil pass0))
      (pss_cons (ps_set (i := 3) sc_Reader_chord.nd rfl (Or.inl rfl) (pe_lst pa_nil))
      (pss_cons (ps_while (passes_of rfl) (PW.pt (pw_or (pt_cmpR op_isN (pe_call G_chord_end_in (hr.mono (by decide)) rfl T.g_chord_end_in T.F_chord_end_in.kp T.b_chord_end_in .nil pass0 (pa_cons (pe_meth0 (pv 0) T.cl_Reader T.m_Reader_look G_Reader_look (hr.mono (by decide)) T.b_Reader_look .nil pass0) pa_nil)) pe_non (nomark _)) (pw_or1 (pt_cmpR op_lt (pe_callB call_len_seq (by rfl) T.z_len PySem.boot_len (pa_cons (pv 3) pa_nil)) (pe_gI T.c_LEAST_CHORD) (nomark _))))) (pss_cons (ps_set (i := 4) sc_Reader_chord.nd rfl (Or.inl rfl) (pe_call G_pitch_in (hr.mono (by decide)) rfl T.g_pitch_in T.F_pitch_in.kp T.b_pitch_in .nil pass0 (pa_cons (pe_meth0 (pv 0) T.cl_Reader T.m_Reader_look G_Reader_look (hr.mono (by decide)) T.b_Reader_look .nil pass0) pa_nil)))
      (pss_cons (ps_expr (pe_meth (pv 0) T.cl_Reader T.m_Reader_want G_Reader_want (hr.mono (by decide)) T.b_Reader_want .nil (L2N.passes_call tk fun _ _ _ _ h => h) (pa_cons (pe_and (pe_cmpR op_notN (pv 4) pe_non (nomark _)) (pe_and (pe_cmpR (op_notInD (hD2 hr)) (pv 4) (pv 3) rfl) (pe_one (pe_cmpR op_lt (pe_callB call_len_seq (by rfl) T.z_len PySem.boot_len (pa_cons (pv 3) pa_nil)) (pe_gI T.c_MOST_CHORD) (nomark _))))) (pa_cons (pe_gI T.c_BAD_WORD) pa_nil))))
      (pss_cons (ps_expr (pe_bm PySem.F.plainAttrs_list PySem.F.slot_list_append PySem.F.type_list_append mt_append (pv 3) (pa_cons (pv 4) pa_nil)))
      (pss_one (ps_expr (pe_meth0 (pv 0) T.cl_Reader T.m_Reader_take G_Reader_take (hr.mono (by decide)) T.b_Reader_take .nil pass0)))))))
      (pss_cons (ps_asg (pe_call G_chord_end_in (hr.mono (by decide)) rfl T.g_chord_end_in T.F_chord_end_in.kp T.b_chord_end_in .nil pass0 (pa_cons (pe_meth0 (pv 0) T.cl_Reader T.m_Reader_look G_Reader_look (hr.mono (by decide)) T.b_Reader_look .nil pass0) pa_nil)) (pg_tup (n := 2) rfl (pgs_cons (pg_name (i := 5) sc_Reader_chord.nd rfl (Or.inl rfl)) (pgs_cons (pg_name (i := 6) sc_Reader_chord.nd rfl (Or.inl rfl)) pgs_nil))))
      (pss_cons (ps_set (i := 3) sc_Reader_chord.nd rfl (Or.inl rfl) (pe_callB (cr_sortT (d := 3) (B := 10) (by decide)) (by rfl) T.z_sorted (by decide +kernel) (pa_cons (pv 3) pa_nil)))
      (pss_cons (ps_expr (pe_bm PySem.F.plainAttrs_list PySem.F.slot_list_extend PySem.F.type_list_extend mt_extend (pe_fld (pv 0) rfl) (pa_cons (pe_op op_cat (pe_op op_cat (pe_lst (pa_cons (pv 2) pa_nil)) (pe_lc (own := [("pitch", 4)]) (g := gName 4) (tt := tYes) rfl sc_Reader_chord.nd (pi_list (pv 3)) (blkOk_by (N := ["self", "place", "opening", "pitches", "pitch", "long", "is_tied"]) (sc := defScope s_Reader_chord) (by decide +kernel)) (fun _ _ _ _ _ => (pg_name (i := 4) sc_Reader_chord.nd rfl (Or.inl rfl))) (fun _ _ _ _ _ => pts_nil) (fun _ _ _ _ _ => (pe_call G_pitch_word (hr.mono (by decide)) rfl T.g_pitch_word T.F_pitch_word.kp T.b_pitch_word .nil pass0 (pa_cons (pv 4) pa_nil))))) (pe_lst (pa_cons (pe_meth0 (pv 0) T.cl_Reader T.m_Reader_take G_Reader_take (hr.mono (by decide)) T.b_Reader_take .nil pass0) pa_nil))) pa_nil)))
      (pss_one (ps_expr (pe_meth (pv 0) T.cl_Reader T.m_Reader_put G_Reader_put (hr.mono (by decide)) T.b_Reader_put .nil pass0 (pa_cons (pv 3) (pa_cons (pv 5) (pa_cons (pv 6) (pa_cons (pv 1) pa_nil)))))))))))))), ?_⟩
  obtain ⟨x, rfl, p, i, s, w0, l, rfl, hp, hdr, hw91, hst, hdeep, hne, hel, hbl, hE, hq⟩ := h
  obtain ⟨dx, _, ha, _⟩ := hp.rd.at_
  have hil : i < p.ws.length := look_lt (by rw [hdr]; show w0.text ≠ []; rw [hw91]; simp)
  refine ⟨_, rfl, p.a, dx, _, rfl, ha, l_Reader_here, _, rfl, p.a, p.aw, p.ws, i, p.e, _, _, _, _, rfl, hp.rd, hp.il, ?_⟩
  refine ⟨_, rfl, p.a, dx, _, rfl, ha, l_Reader_take, _, rfl, p.a, p.aw, p.ws, i, p.e, _, _, _, _, rfl, hp.rd, hp.il, fun H1 s1 k1 rd1 => ?_⟩
  obtain ⟨hp1, z1⟩ := hp.took s1 k1 rd1 hil
  rw [hdr]
  show tSeq _ _ _ [some (V.ref p.a), some (.int (w0.place : Int)), some (.str (S w0.text)), none, none, none, none] H1
  rw [hw91]
  refine ⟨by show 0 ≤ sizeLine; decide, fun lp nlp => ?_⟩
  have hd1 : l = p.ws.drop (i + 1) := by
    have := drop_lt (ws := p.ws) (i := i) (x := w0) (by rw [← List.head?_drop, hdr]; rfl)
    rw [hdr] at this
    exact (List.cons.inj this).2
  refine ⟨ChW K A p s lp w0.place l i H, ⟨_, i + 1, [], [], none, rfl, rfl, hp1.more nlp, z1.fresh (z1.free nlp), upd_same, .nil, (fun _ h => by cases h), rfl, by decide, by rw [hd1]; rfl⟩, ?_⟩
  rintro m σ H2 ⟨j, qs, vs, u, rfl, rfl, hp2, z2, hlp, hqs, hqok, hj, h6, hch⟩
  have s2 := hp2.rd
  obtain ⟨dx2, _, ha2, _⟩ := hp2.rd.at_
  have tl := look_len hp.ok.wo j
  have tz := fun h => look_lt (ws := p.ws) (i := j) h
  obtain ⟨tx, etx⟩ : ∃ tx, lookT (p.ws.drop j) = tx := ⟨_, rfl⟩
  rw [etx] at tl tz
  have lvs : vs.length = qs.length := Paired.length hqs
  refine ans_orS (b1 := (chordEnd tx).isNone) (b2 := decide (qs.length < 2)) (fun Q q => ?_) (fun H' Q z q => ?_) (fun H3 s3 => iteB (fun hb => ?_) (fun hb => ?_))
  · refine ⟨_, rfl, p.a, dx2, _, rfl, ha2, l_Reader_look, _, rfl, p.a, p.aw, p.ws, j, p.e, _, _, _, _, rfl, hp2.rd, hp2.il, ?_⟩
    rw [etx]
    refine ⟨_, rfl, tx, rfl, tl, ?_⟩
    cases hce : chordEnd tx with
    | none =>
      rw [hce] at q
      exact fun H' z => ⟨rfl, _, rfl, q H' z⟩
    | some y =>
      rw [hce] at q
      rintro v H' z ⟨va, u, rfl, _⟩
      exact ⟨rfl, _, rfl, q H' z⟩
  · refine ⟨_, rfl, lp, _, rfl, .inl (SqL.of (z _ _ hlp)), _, _, rfl, rfl, _, rfl, ?_⟩
    rw [lvs]
    have e : decide ((qs.length : Int) < 2) = decide (qs.length < 2) := by
      rw [Bool.eq_iff_iff, decide_eq_true_eq, decide_eq_true_eq]; omega
    rw [e]
    exact q
  · -- one more
    have hnot : ∀ y, chordEnd tx = some y → qs.length < 2 := fun y hy => by
      rw [hy] at hb
      simpa using hb
    have hp3 := hp2.same s3
    have ha3 := s3 _ _ ha2
    refine ⟨fun σ' H' => ∃ m', m' < p.ws.length - j ∧ ChW K A p s lp w0.place l i H m' σ' H', fun _ _ h => h, ?_⟩
    refine ⟨_, rfl, p.a, dx2, _, rfl, ha3, l_Reader_look, _, rfl, p.a, p.aw, p.ws, j, p.e, _, _, _, _, rfl, hp3.rd, hp3.il, ?_⟩
    rw [etx]
    refine ⟨_, rfl, tx, rfl, tl, ?_⟩
    cases hpit : pit tx with
    | none =>
      intro H4 s4
      have hp4 := hp3.same s4
      have ha4 := s4 _ _ ha3
      refine ⟨_, rfl, p.a, dx2, _, rfl, ha4, l_Reader_want, _, rfl, rfl, false, rfl, ?_⟩
      refine ⟨_, _, _, rfl, p.a, p.aw, p.ws, j, p.e, _, _, _, _, false, 2, rfl, rfl, rfl, hp4.rd, hp4.il, (fun z => nomatch z), fun _ => ?_⟩
      have hc := chord_bad (e := p.e) (pl := w0.place) (ps := sortP qs) (r := p.ws.drop j) (by rw [etx]; exact hpit) (fun y hy => by rw [sortP_len]; rw [etx] at hy; exact hnot y hy)
      exact (hE ⟨2, hereP p.e (p.ws.drop j)⟩ (hch.trans hc)).less (z2.trans (SB.of (s3.trans s4))) (fun _ h => h)
    | some q =>
      have hqok2 := pit_pok hpit
      rintro v H4 s4 hv
      have nv : decide (v = .non) = false := by
        obtain ⟨q, rfl, _⟩ := hv
        exact decide_eq_false (fun z => by cases z)
      have hp4 := hp3.same s4
      have ha4 := s4 _ _ ha3
      have s34 := s3.trans s4
      have hlp4 := s34 _ _ hlp
      have hqs4 : Paired (PiA K H4) vs qs := pairedMono (fun _ _ h => h.mono s34) hqs
      have hct := chord_turn (e := p.e) (pl := w0.place) (ps := sortP qs) (r := p.ws.drop j) (q := q) (by rw [etx]; exact hpit)
      rw [sortP_contains, sortP_len] at hct
      have badR : (qs.contains q = true ∨ 6 ≤ qs.length) → RaiseF A E [] H4 2 (hereP p.e (p.ws.drop j)) := fun h => by
        rw [if_pos h] at hct
        exact (hE ⟨2, hereP p.e (p.ws.drop j)⟩ (hch.trans hct)).less (z2.trans (SB.of s34)) (fun _ h => h)
      have wanted : ∀ b : Bool, (b = true → qs.contains q = false ∧ qs.length < 6) → (b = false → qs.contains q = true ∨ 6 ≤ qs.length) → True := fun _ _ _ => trivial
      refine ⟨_, rfl, p.a, dx2, _, rfl, ha4, l_Reader_want, _, rfl, rfl, true, by rw [nv]; rfl, ?_⟩
      refine ⟨_, rfl, _, rfl, pd q, qs.map pd, hv.dp, .lst (SqL.of hlp4) (pis_dp hqs4), pd_shaped q, pds_shaped qs, !qs.contains q, by rw [pds_any], ?_⟩
      cases hcq : qs.contains q with
      | true =>
        refine ite_f rfl ?_
        exact ⟨_, _, _, rfl, p.a, p.aw, p.ws, j, p.e, _, _, _, _, false, 2, rfl, rfl, rfl, hp4.rd, hp4.il, (fun z => nomatch z), fun _ => badR (.inl hcq)⟩
      | false =>
        refine ite_t rfl ?_
        refine ⟨_, rfl, lp, _, rfl, .inl (SqL.of hlp4), _, _, rfl, rfl, ?_⟩
        refine ⟨_, _, _, rfl, p.a, p.aw, p.ws, j, p.e, _, _, _, _, decide (qs.length < 6), 2, rfl, ?_, rfl, hp4.rd, hp4.il, fun hb6 => ?_, fun hb6 => ?_⟩
        · rw [lvs]
          show V.bl (decide ((qs.length : Int) < 6)) = _
          congr 1
          rw [Bool.eq_iff_iff, decide_eq_true_eq, decide_eq_true_eq]; omega
        · have h6' : qs.length < 6 := of_decide_eq_true hb6
          have jlt : j < p.ws.length := tz fun z => by rw [z] at hpit; cases hpit
          rw [if_neg (by rw [hcq]; simp; omega), List.drop_drop, ← sortP_snoc] at hct
          refine ⟨_, rfl, .inl ⟨rfl, _, SqL.of hlp4⟩, _, rfl, lp, _, _, rfl, rfl, hlp4, by rw [lvs, sizeLine_eq]; omega, ?_⟩
          have nmp : lp ∉ p.mp := fun z => by
            obtain ⟨o, e, _⟩ := hp1.mo lp (hp.ok.sub _ z)
            rw [nlp] at e; cases e
          have naw : p.aw ≠ lp := by
            obtain ⟨_, _, _, h, _⟩ := rd1.at_
            exact ne_of_none h nlp
          have hp5 := hp4.updX (ys := vs ++ [v]) hlp4 List.mem_cons_self nmp naw
          have z5 : SB [lp] H4 (upd H4 lp (.lst (vs ++ [v]))) := SB.upd hlp4 trivial trivial (by simp)
          have nlp0 : H lp = none := z1.free nlp
          have z6 : SB p.mp H (upd H4 lp (.lst (vs ++ [v]))) := (z2.trans (SB.of s34)).fresh nlp0
          obtain ⟨dx5, _, ha5, _⟩ := hp5.rd.at_
          refine ⟨_, rfl, p.a, dx5, _, rfl, ha5, l_Reader_take, _, rfl, p.a, p.aw, p.ws, j, p.e, _, _, _, _, rfl, hp5.rd, hp5.il, fun H7 s7 k7 rd7 => ?_⟩
          obtain ⟨hp7, z7⟩ := hp5.took s7 k7 rd7 jlt
          refine ⟨p.ws.length - (j + 1), by omega, j + 1, qs ++ [q], vs ++ [v], _, rfl, rfl, hp7, z6.trans z7, ?_, ?_, ?_, by rw [List.length_append, List.length_cons, List.length_nil]; omega, by rw [List.length_append, List.length_cons, List.length_nil]; omega, hch.trans hct⟩
          · exact z7.at upd_same nmp
          · exact pairedMono (fun _ _ h => h.sb z7) (pairedApp (pairedMono (fun _ _ h => h.sb z5) hqs4) (.cons (hv.sb z5) .nil))
          · intro x hx
            rcases List.mem_append.mp hx with hx | hx
            · exact hqok x hx
            · rw [List.mem_singleton] at hx; rw [hx]; exact hqok2
        · exact badR (.inr (Nat.le_of_not_lt (of_decide_eq_false hb6)))
  · -- its end
    have hcs : ∃ y, chordEnd tx = some y := by
      cases hce : chordEnd tx with
      | none => rw [hce] at hb; simp at hb
      | some y => exact ⟨y, rfl⟩
    obtain ⟨y, hce⟩ := hcs
    have h2 : ¬ qs.length < 2 := by
      rw [hce] at hb
      simpa using hb
    have jlt : j < p.ws.length := tz fun z => by rw [z] at hce; cases hce
    have hst2 := chord_stop (e := p.e) (pl := w0.place) (ps := sortP qs) (r := p.ws.drop j) (y := y) (by rw [etx]; exact hce) (by rw [sortP_len]; exact h2)
    rw [List.drop_drop] at hst2
    have htx := chord_text hce
    obtain ⟨k, d, t⟩ := y
    have hlong : Sx62.KINDS.contains k = true ∧ d ≤ 2 := by
      unfold chordEnd at hce
      split at hce
      · obtain ⟨_, _, _, h1, h2⟩ := longOf_some hce
        exact ⟨h1, h2⟩
      · cases hce
    have hp3 := hp2.same s3
    have ha3 := s3 _ _ ha2
    refine ⟨_, rfl, p.a, dx2, _, rfl, ha3, l_Reader_look, _, rfl, p.a, p.aw, p.ws, j, p.e, _, _, _, _, rfl, hp3.rd, hp3.il, ?_⟩
    rw [etx]
    refine ⟨_, rfl, tx, rfl, tl, ?_⟩
    rw [hce]
    rintro v H4 s4 ⟨va, lf, rfl, hva, hlf⟩
    have s34 := s3.trans s4
    have hlp4 := s34 _ _ hlp
    have hqs4 : Paired (PiA K H4) vs qs := pairedMono (fun _ _ h => h.mono s34) hqs
    refine ⟨va, _, rfl, hva, rfl, _, _, rfl, _, _, rfl, rfl, ?_⟩
    refine ⟨_, rfl, lp, vs, rfl, SqL.of hlp4, by omega, fun x hx => ?_, fun ys sp hperm hpw nsp => ?_⟩
    · obtain ⟨q, hq1, hq2⟩ := paired_memL hqs4 x hx
      have hk := hqok q hq1
      refine ⟨[(q.octave : Int), (q.letter : Int), (q.sign : Int)], hq2, rfl, fun m hm => ?_⟩
      have h1 := hk.l
      have h2 := hk.s
      have h3 := hk.o
      simp only [List.mem_cons, List.not_mem_nil, or_false] at hm
      rcases hm with rfl | rfl | rfl <;> omega
    obtain ⟨qs', hqs', hperm'⟩ := paired_perm hperm hqs4
    have hqse : qs' = sortP qs := sortP_unique hqok hperm' (paired_pw (P' := fun x y => pcode x ≤ pcode y) (fun x y a b hx hy h => by
      have := h [(a.octave : Int), (a.letter : Int), (a.sign : Int)] [(b.octave : Int), (b.letter : Int), (b.sign : Int)] hx hy
      rw [pi_code, pi_code] at this
      omega) hqs' hpw)
    subst hqse
    clear hperm' hpw
    have hqok' : ∀ q ∈ sortP qs, PiecOk q := fun q hq => hqok q ((sortP_perm qs).mem_iff.mp hq)
    have lys : ys.length = qs.length := (Paired.length hqs').trans (sortP_len qs)
    have nsp0 : H sp = none := (z2.trans (SB.of s34)).free nsp
    have hp5 := (hp3.same s4).same (same_new (o := .lst ys) nsp)
    have z5 : SB p.mp H (upd H4 sp (.lst ys)) := (z2.trans (SB.of s34)).trans (SB.of (same_new nsp))
    have hys5 : Paired (PiA K (upd H4 sp (.lst ys))) ys (sortP qs) := pairedMono (fun _ _ h => h.mono (same_new nsp)) hqs'
    have hlf5 := hlf.mono (same_new (o := .lst ys) nsp)
    have nspM : sp ∉ (p.wide lp).M := (hp3.same s4).mo.new nsp
    have hsp5 : (upd H4 sp (.lst ys)) sp = some (.lst ys) := upd_same
    generalize upd H4 sp (.lst ys) = H5 at hp5 z5 hys5 hlf5 hsp5 ⊢
    obtain ⟨dx5, _, ha5, _⟩ := hp5.rd.at_
    refine ⟨_, rfl, p.a, _, dx5, _, _, rfl, ha5, T.cl_Reader, T.n_Reader_bar_words, l_Reader_bar_words, .inl ⟨rfl, _, SqL.of hp5.hb⟩, ?_⟩
    refine ⟨_, rfl, by show 1 ≤ sizeLine; decide, fun o no => ?_⟩
    have so := same_new (o := .lst [V.str (S [91])]) no
    refine ⟨_, rfl, sp, rfl, ⟨_, SqL.of (so _ _ hsp5)⟩, fun D nD => lc_it (walk_list (K := K) (a := sp) (xs := ys)) (fun i H' => H' D = some (.lst (((sortP qs).take i).map fun q => strV (Sx62.pitchText q))) ∧ Same (upd H5 o (.lst [V.str (S [91])])) H') ⟨upd_same, same_new nD⟩ (fun i H' _ h => SqL.of (h.2 _ _ (so _ _ hsp5))) ?_ ?_⟩
    · rintro i' x H6 H7 hi ⟨h1, s6⟩ ⟨rfl, hx⟩
      obtain ⟨q, hqi, hq2⟩ := paired_get hys5 hx
      have okq := hqok' q (List.mem_of_getElem? hqi)
      refine ⟨rfl, _, rfl, _, rfl, q, hq2.mono (so.trans s6), ⟨okq.l, okq.s, okq.o⟩, _, h1, ?_, ?_, fun b o e => ?_⟩
      · rw [List.length_map, List.length_take, sortP_len, sizeLine_eq]; omega
      · rw [take_more hqi, List.map_append]
        exact upd_same
      · rw [upd_ne (ne_of_none e nD)]; exact s6 _ _ e
    · rintro H6 ⟨h1, s6⟩
      rw [lys, ← sortP_len, List.take_length] at h1
      have s56 := so.trans s6
      have hp6 := hp5.same s56
      have ho6 := s6 _ _ (upd_same (H := H5) (a := o) (o := .lst [V.str (S [91])]))
      refine ⟨o, D, _, _, rfl, rfl, ho6, h1, by rw [List.length_map, sortP_len, sizeLine_eq]; simp; omega, fun c nc => ?_⟩
      have s7 := same_new (o := .lst ([V.str (S [91])] ++ (sortP qs).map fun q => strV (Sx62.pitchText q))) nc
      have hp7 := hp6.same s7
      obtain ⟨dx7, _, ha7, _⟩ := hp7.rd.at_
      refine ⟨_, rfl, p.a, dx7, _, rfl, ha7, l_Reader_take, _, rfl, p.a, p.aw, p.ws, j, p.e, _, _, _, _, rfl, hp7.rd, hp7.il, fun H8 s8 k8 rd8 => ?_⟩
      obtain ⟨hp8, z8⟩ := hp7.took s8 k8 rd8 jlt
      rw [etx]
      have nmp8 : ∀ {b : Addr} {xs : List V}, b ∉ (p.wide lp).M → (upd H6 c (.lst ([V.str (S [91])] ++ (sortP qs).map fun q => strV (Sx62.pitchText q)))) b = some (.lst xs) → H8 b = some (.lst xs) := fun hb e => z8.at e fun z => hb (hp5.ok.sub _ z)
      have ncM := hp6.mo.new nc
      have hc8 := nmp8 ncM upd_same
      have hsp8 := nmp8 nspM (s7 _ _ (s56 _ _ hsp5))
      refine ⟨by show 1 ≤ sizeLine; decide, fun g ng => ?_⟩
      have s9 := same_new (o := .lst [V.str (S tx)]) ng
      have hp9 := hp8.same s9
      refine ⟨c, g, _, _, rfl, rfl, s9 _ _ hc8, upd_same, by rw [List.length_append, List.length_map, sortP_len, sizeLine_eq]; simp; omega, fun f nf => ?_⟩
      have s10 := same_new (o := .lst ([V.str (S [91])] ++ ((sortP qs).map fun q => strV (Sx62.pitchText q)) ++ [V.str (S tx)])) nf
      have hp10 := hp9.same s10
      refine ⟨p.ab, f, _, _, rfl, rfl, hp10.hb, upd_same, by rw [List.length_append, List.length_append, List.length_map, List.length_map, sortP_len, sizeLine_eq]; simp; omega, ?_⟩
      obtain ⟨hp11, z11⟩ := hp10.setB (s.bw ++ pieceWords (.note w0.place (sortP qs) k d t)) (xs := s.bw.map strV ++ ([V.str (S [91])] ++ ((sortP qs).map fun q => strV (Sx62.pitchText q)) ++ [V.str (S tx)])) (by
        rw [pieceWords_chord (by rw [sortP_len]; omega), List.map_append, List.map_append, List.map_append, List.map_map, htx]
        rfl)
      have z10 := (z8.trans (SB.of (s9.trans s10)))
      have zall : SB p.mp H (upd (upd (upd H8 g (.lst [V.str (S tx)])) f (.lst ([V.str (S [91])] ++ ((sortP qs).map fun q => strV (Sx62.pitchText q)) ++ [V.str (S tx)]))) p.ab (.lst (s.bw.map strV ++ ([V.str (S [91])] ++ ((sortP qs).map fun q => strV (Sx62.pitchText q)) ++ [V.str (S tx)])))) := ((z5.trans (SB.of (s56.trans s7))).trans z10).trans z11
      have zl := (SB.of (M := p.mp) (s56.trans s7)).trans (z10.trans z11)
      have hsp11 : (upd (upd (upd H8 g (.lst [V.str (S tx)])) f (.lst ([V.str (S [91])] ++ ((sortP qs).map fun q => strV (Sx62.pitchText q)) ++ [V.str (S tx)]))) p.ab (.lst (s.bw.map strV ++ ([V.str (S [91])] ++ ((sortP qs).map fun q => strV (Sx62.pitchText q)) ++ [V.str (S tx)])))) sp = some (.lst ys) := z11.at (s10 _ _ (s9 _ _ hsp8)) fun z => nspM (hp5.ok.sub _ z)
      generalize upd (upd (upd H8 g (.lst [V.str (S tx)])) f (.lst ([V.str (S [91])] ++ ((sortP qs).map fun q => strV (Sx62.pitchText q)) ++ [V.str (S tx)]))) p.ab (.lst (s.bw.map strV ++ ([V.str (S [91])] ++ ((sortP qs).map fun q => strV (Sx62.pitchText q)) ++ [V.str (S tx)]))) = H11 at hp11 zall zl hsp11 ⊢
      obtain ⟨dx11, _, ha11, _⟩ := hp11.rd.at_
      refine ⟨_, rfl, p.a, dx11, _, rfl, ha11, l_Reader_put, _, rfl, _, rfl, _, rfl, _, rfl, ?_⟩
      refine ⟨_, _, _, _, _, rfl, p.wide lp, j + 1, _, sp, ys, sortP qs, k, d, t, w0.place, rfl, rfl, rfl, rfl, hp11, nspM, hsp11, pairedMono (fun _ _ h => h.sb zl) hys5, hlf5.sb zl, hlong.1, hlong.2, hst, hdeep, hne, by show s.evs.length ≤ 3000; omega, fun H12 z12 hp12 => ?_⟩
      refine hq (j + 1) (sortP qs) k d t (hch.trans hst2) jlt (by rw [sortP_len]; omega) ⟨hlong.1, hlong.2, hqok', fun _ z => ?_, by rw [sortP_len]; exact h6⟩ (by rw [sortP_len]; omega) H12 (zall.trans z12) (hp12.fewer hp.ok)
      have := congrArg List.length z
      rw [sortP_len] at this
      have : qs.length = 0 := this
      omega
end
end Sc

set_option Elab.async false
set_option linter.all false
set_option maxRecDepth 100000
set_option maxHeartbeats 4000000
/-! # one word of a bar's pieces -/
namespace Sc
open PySem PySem.Spec PyProof.Rows L2 Pf
open Sx62 (Frac Pitch Word Timed Piece)
/-! ### a turn, by the next word's text -/
theorem step_opens {e d : Nat} {acc : List Piece} {r : List Word} {x : Nat × Nat} (h : tupF (lookT r) = some x) : stepR e d acc r = if 3 ≤ d then .error ⟨3, hereP e r⟩ else .ok (.opens x.1 x.2 :: acc, d + 1, r.drop 1) := by
  cases r with
  | nil => cases h
  | cons w l =>
    have h : tupF w.text = some x := h
    unfold tupF at h
    split at h
    · rename_i h1
      show stepW e d acc w l = _
      unfold stepW
      rw [if_neg (by intro z; rw [z] at h1; cases h1), if_pos h1, h]
      rfl
    · cases h
theorem step_closes {e d : Nat} {acc : List Piece} {r : List Word} (h : lookT r = [125]) : stepR e d acc r = if 0 < d ∧ Sx62.afterOpen acc = false then .ok (.closes :: acc, d - 1, r.drop 1) else Sx62.bad (hereP e r) := by
  cases r with
  | nil => cases h
  | cons w l =>
    have h : w.text = [125] := h
    show stepW e d acc w l = _
    unfold stepW
    rw [if_pos h]
    rfl
theorem step_chord {e d : Nat} {acc : List Piece} {w : Word} {l : List Word} (h : w.text = [91]) : stepR e d acc (w :: l) = match Sx62.chordFrom e w.place [] l with
    | .error x => .error x
    | .ok x => .ok (x.1 :: acc, d, x.2) := by
  show stepW e d acc w l = _
  unfold stepW
  rw [h, if_neg (by decide), if_neg (by decide), if_pos rfl]
  all_goals (cases Sx62.chordFrom e w.place [] l <;> rfl)
theorem pit_123 (r : List Nat) : Sx62.pitchOf (123 :: r) = none := rfl
theorem note_123 {tx : List Nat} (h : tx.head? = some 123) : noteIn tx = none ∧ restIn tx = none := by
  cases tx with
  | nil => cases h
  | cons c r =>
    have : c = 123 := by simpa using h
    subst this
    exact ⟨by unfold noteIn; rw [pit_123], rfl⟩
theorem step_sign {e d : Nat} {acc : List Piece} {r : List Word} {ps : List Pitch} {k j : Nat} {t : Bool} (h : SgIs (lookT r) ps k j t) (h1 : lookT r ≠ [125]) (h2 : lookT r ≠ [91]) : stepR e d acc r = .ok (.note (hereP e r) ps k j t :: acc, d, r.drop 1) := by
  cases r with
  | nil =>
    cases h with
    | note h => cases h
    | rest h h2 => cases h2
  | cons w l =>
    have h : SgIs w.text ps k j t := h
    have h1 : w.text ≠ [125] := h1
    have h2 : w.text ≠ [91] := h2
    have h3 : w.text.head? ≠ some 123 := fun z => by
      obtain ⟨z1, z2⟩ := note_123 z
      cases h with
      | note h => rw [z1] at h; cases h
      | rest h h2 => rw [z2] at h2; cases h2
    show stepW e d acc w l = _
    unfold stepW
    rw [if_neg h1, if_neg h3, if_neg h2]
    have e1 : Sx62.noteOf w = some (.note w.place ps k j t) := by
      show Sx62.noteOf ⟨w.place, w.text⟩ = _
      rw [noteOf_eq]
      cases h with
      | note hn => rw [hn]
      | rest hn hr => rw [hn]; simp only; rw [hr]
    rw [e1]
    rfl
theorem step_bad {e d : Nat} {acc : List Piece} {r : List Word} (h0 : tupF (lookT r) = none) (h1 : lookT r ≠ [125]) (h2 : lookT r ≠ [91]) (h3 : noteIn (lookT r) = none) (h4 : restIn (lookT r) = none) : stepR e d acc r = Sx62.bad (hereP e r) := by
  cases r with
  | nil => rfl
  | cons w l =>
    have h0 : tupF w.text = none := h0
    have h1 : w.text ≠ [125] := h1
    have h2 : w.text ≠ [91] := h2
    have h3 : noteIn w.text = none := h3
    have h4 : restIn w.text = none := h4
    show stepW e d acc w l = _
    unfold stepW
    rw [if_neg h1]
    by_cases h5 : w.text.head? = some 123
    · rw [if_pos h5]
      unfold tupF at h0
      rw [if_pos h5] at h0
      rw [h0]
      rfl
    · rw [if_neg h5, if_neg h2]
      have e1 : Sx62.noteOf w = none := by
        show Sx62.noteOf ⟨w.place, w.text⟩ = _
        rw [noteOf_eq, h3]
        simp only
        rw [h4]
      rw [e1]
      rfl
theorem noteIn_pok {l : List Nat} {x : Pitch × Nat × Nat × Bool} (h : noteIn l = some x) : PiecOk x.1 := by
  unfold noteIn at h
  split at h
  · cases h
  · rename_i y e
    cases e2 : Sx62.longOf y.2 with
    | none => rw [e2] at h; cases h
    | some z =>
      rw [e2] at h
      cases h
      obtain ⟨p, r⟩ := y
      obtain ⟨c, m, o, _, hc, hm, ho, eo⟩ := pitchOf_iff.mp e
      refine ⟨(let_mem hc).2, ?_, ?_⟩
      · have := acc_mem.mp hm
        rcases Nat.lt_or_ge p.sign 5 with h | h
        · exact h
        · rw [List.getElem?_eq_none (by simpa using h)] at this; cases this
      · have := digit_iff.mp ho
        show p.octave ≤ 9
        omega
theorem sg_ok {tx : List Nat} {ps : List Pitch} {k d : Nat} {t : Bool} (h : SgIs tx ps k d t) (pl : Nat) : PcOk (.note pl ps k d t) ∧ pieceWords (.note pl ps k d t) = [tx] := by
  cases h with
  | note h =>
    obtain ⟨h1, h2⟩ := noteIn_long h
    have h3 := noteIn_pok h
    refine ⟨⟨h1, h2, ?_, (fun _ z => by cases z), Nat.le_of_lt (by decide : 1 < 6)⟩, ?_⟩
    · intro p hp
      rw [List.mem_singleton] at hp
      rw [hp]; exact h3
    · show [Sx62.pitchText _ ++ Sx62.longText _ _ _] = _
      rw [note_text h]
  | rest h h2 =>
    obtain ⟨h1, h3⟩ := restIn_long h2
    refine ⟨⟨h1, h3, (fun p hp => by cases hp), (fun z => by cases z), Nat.zero_le _⟩, ?_⟩
    show [114 :: Sx62.longText _ _ _] = _
    rw [rest_text h2]
theorem ratio_ok {l : List Nat} {n m : Nat} (h : Sx62.ratioOf l = some (n, m)) : 2 ≤ n ∧ n ≤ 9 ∧ 2 ≤ m ∧ m ≤ 9 := by
  unfold Sx62.ratioOf at h
  split at h
  · cases h
  · split at h
    · rename_i e1 e2
      split at h
      · cases h
      · cases h
        obtain ⟨⟨_, _, _, _, a1, a2⟩, e3⟩ := numberOf_some e1
        obtain ⟨⟨_, _, _, _, b1, b2⟩, e4⟩ := numberOf_some e2
        omega
    · cases h
theorem opens_words {tx : List Nat} {n m : Nat} (h : tupF tx = some (n, m)) : pieceWords (.opens n m) = [tx] ∧ PcOk (.opens n m) := by
  unfold tupF at h
  split at h
  · rename_i h1
    refine ⟨?_, ratio_ok h⟩
    show [123 :: Sx62.dec n ++ 58 :: Sx62.dec m] = _
    rw [List.cons_append, ratio_text h]
    cases tx with
    | nil => cases h1
    | cons c r =>
      have : c = 123 := by simpa using h1
      rw [this]
      rfl
  · cases h
theorem sm_ratio {n m : Nat} (hn : 2 ≤ n) (hn9 : n ≤ 9) (hm9 : m ≤ 9) : Sm (Sx62.lowest m n) := by
  have h0 : 0 < n := by omega
  have h1 : (Sx62.lowest m n).den ≤ n := Nat.le_of_dvd h0 (lowest_den_dvd _ _)
  have h2 : (Sx62.lowest m n).num ≤ m := by rw [lowest_num]; exact Nat.div_le_self _ _
  exact ⟨lowest_den_pos h0, by omega, by omega⟩
section
variable {P : Program} {w : World} {K : PySem.W.Frag} {mg : Str → Option Value} {base : Heap} {A : Ad}
theorem paired_snoc {α β : Type} {R : α → β → Prop} : ∀ {ys : List β} {xs : List α} {y : β}, Paired R xs (ys ++ [y]) → ∃ x0 x, xs = x0 ++ [x] ∧ Paired R x0 ys ∧ R x y
  | [], _, _, .cons h .nil => ⟨[], _, rfl, .nil, h⟩
  | _ :: _, _, _, .cons h r => by
    obtain ⟨x0, x, rfl, h2, h3⟩ := paired_snoc r
    exact ⟨_ :: x0, x, rfl, .cons h h2, h3⟩
theorem PcA.by_ {p : Pl} {H : Hp} {i : Nat} {s : BSt} (h : PcA K A p H i s) : ∃ b0 bl, H p.ay = some (.lst (b0 ++ [bl])) ∧ FrA K H bl (byOf s.st) ∧ Paired (FrA K H) (b0 ++ [bl]) (byTails s.st).reverse ∧ (s.st ≠ [] → Paired (FrA K H) b0 (byTails s.st.tail).reverse) := by
  obtain ⟨bs, hy, hbs⟩ := h.hy
  cases e : s.st with
  | nil =>
    rw [e] at hbs
    obtain ⟨b0, bl, rfl, h1, h2⟩ := paired_snoc (ys := []) (y := (⟨1, 1⟩ : Frac)) hbs
    exact ⟨b0, bl, hy, h2, hbs, fun z => absurd rfl z⟩
  | cons q st =>
    rw [e] at hbs
    have e2 : (byTails (q :: st)).reverse = (byTails st).reverse ++ [byOf (q :: st)] := by
      show (byOf (q :: st) :: byTails st).reverse = _
      rw [List.reverse_cons]
    rw [e2] at hbs ⊢
    obtain ⟨b0, bl, rfl, h1, h2⟩ := paired_snoc hbs
    exact ⟨b0, bl, hy, h2, hbs, fun _ => h1⟩
def sp_Reader_piece_word (K : PySem.W.Frag) (A : Ad) : Sp := sp1 fun x H Q E => ∃ (p : Pl) (i : Nat) (short : Bool) (acc : List Piece), x = .ref p.a ∧ PcA K A p H i (stOf short acc) ∧ AccOk short acc ∧ (stOf short acc).bw.length ≤ i ∧ (stOf short acc).evs.length ≤ i ∧
  (∀ x, stepR p.e (stOf short acc).st.length acc (p.ws.drop i) = .error x → RaiseF A E p.mp H x.kind x.place) ∧
  (∀ y j, stepR p.e (stOf short acc).st.length acc (p.ws.drop i) = .ok y → y.2.2 = p.ws.drop j → j ≤ p.ws.length → i < j → AccOk short y.1 → y.2.1 = (stOf short y.1).st.length → (stOf short y.1).bw.length ≤ j → (stOf short y.1).evs.length ≤ j →
    ∀ H', SB p.mp H H' → PcA K A p H' j (stOf short y.1) → Q .non H')
theorem tup_S : Str.ofString "}" = S [125] := by decide +kernel
theorem open_S : Str.ofString "[" = S [91] := by decide +kernel
theorem ok_Reader_piece_word (T : Txt K mg A) : FnOk P w K mg base (L2N.CX P w) 6 A.a_Reader_piece_word A.d_Reader_piece_word ["self"] (sp_Reader_piece_word K A) := by
  have G_Reader_chord := ok_Reader_chord (P := P) (w := w) (base := base) T
  have G_Reader_look := ok_Reader_look (P := P) (w := w) (base := base) T
  have G_Reader_one_more := ok_Reader_one_more (P := P) (w := w) (base := base) T
  have G_Reader_single := ok_Reader_single (P := P) (w := w) (base := base) T
  have G_Reader_take := ok_Reader_take (P := P) (w := w) (base := base) T
  have G_Reader_want := ok_Reader_want (P := P) (w := w) (base := base) T
  have G_times := ok_times (P := P) (w := w) (base := base) T
  have G_tuplet_in := ok_tuplet_in (P := P) (w := w) (base := base) T
  refine okN T.F_Reader_piece_word sc_Reader_piece_word (sp1_len) (fun cdv Ar outer s H vs Q E hr h tk => ?_)
  refine ⟨_, (pss_cons (ps_set (i := 1) sc_Reader_piece_word.nd rfl (Or.inl rfl) (pe_meth0 (pv 0) T.cl_Reader T.m_Reader_look G_Reader_look (hr.mono (by decide)) T.b_Reader_look .nil pass0))
      (pss_cons (ps_set (i := 2) sc_Reader_piece_word.nd rfl (Or.inl rfl) (pe_call G_tuplet_in (hr.mono (by decide)) rfl T.g_tuplet_in T.F_tuplet_in.kp T.b_tuplet_in .nil pass0 (pa_cons (pv 1) pa_nil)))
      (pss_one (ps_if (pt_cmpR op_notN (pv 2) pe_non (nomark _)) (pss_cons (ps_expr (pe_meth (pv 0) T.cl_Reader T.m_Reader_want G_Reader_want (hr.mono (by decide)) T.b_Reader_want .nil (L2N.passes_call tk fun _ _ _ _ h => h) (pa_cons (pe_cmpR op_le (pe_callB call_len_seq (by rfl) T.z_len PySem.boot_len (pa_cons (pe_fld (pv 0) rfl) pa_nil)) (pe_gI T.c_DEEPEST) (nomark _)) (pa_cons (pe_gI T.c_TOO_DEEP) pa_nil))))
      (pss_cons (ps_expr (pe_bm PySem.F.plainAttrs_list PySem.F.slot_list_append PySem.F.type_list_append mt_append (pe_fld (pv 0) rfl) (pa_cons pe_int pa_nil)))
      (pss_cons (ps_expr (pe_bm PySem.F.plainAttrs_list PySem.F.slot_list_append PySem.F.type_list_append mt_append (pe_fld (pv 0) rfl) (pa_cons (pe_call G_times (hr.mono (by decide)) rfl T.g_times T.F_times.kp T.b_times .nil pass0 (pa_cons (pe_ix ix_list (pe_fld (pv 0) rfl) (pe_un un_neg pe_int) (fun _ _ => rfl)) (pa_cons (pv 2) pa_nil))) pa_nil)))
      (pss_one (ps_expr (pe_bm PySem.F.plainAttrs_list PySem.F.slot_list_append PySem.F.type_list_append mt_append (pe_fld (pv 0) rfl) (pa_cons (pe_meth0 (pv 0) T.cl_Reader T.m_Reader_take G_Reader_take (hr.mono (by decide)) T.b_Reader_take .nil pass0) pa_nil))))))) (pss_one (ps_if (pt_cmpR op_eq (pv 1) pe_str (nomark _)) (pss_cons (ps_expr (pe_meth (pv 0) T.cl_Reader T.m_Reader_want G_Reader_want (hr.mono (by decide)) T.b_Reader_want .nil (L2N.passes_call tk fun _ _ _ _ h => h) (pa_cons (pe_and (pe_cmpR op_gt (pe_callB call_len_seq (by rfl) T.z_len PySem.boot_len (pa_cons (pe_fld (pv 0) rfl) pa_nil)) pe_int (nomark _)) (pe_one (pe_cmpR op_gt (pe_ix ix_list (pe_fld (pv 0) rfl) (pe_un un_neg pe_int) (fun _ _ => rfl)) pe_int (nomark _)))) (pa_cons (pe_gI T.c_BAD_WORD) pa_nil))))
      (pss_cons (ps_expr (pe_bm0 PySem.F.plainAttrs_list PySem.F.slot_list_pop PySem.F.type_list_pop mt_pop (pe_fld (pv 0) rfl)))
      (pss_cons (ps_expr (pe_bm0 PySem.F.plainAttrs_list PySem.F.slot_list_pop PySem.F.type_list_pop mt_pop (pe_fld (pv 0) rfl)))
      (pss_cons (ps_expr (pe_meth0 (pv 0) T.cl_Reader T.m_Reader_one_more G_Reader_one_more (hr.mono (by decide)) T.b_Reader_one_more .nil pass0))
      (pss_one (ps_expr (pe_bm PySem.F.plainAttrs_list PySem.F.slot_list_append PySem.F.type_list_append mt_append (pe_fld (pv 0) rfl) (pa_cons (pe_meth0 (pv 0) T.cl_Reader T.m_Reader_take G_Reader_take (hr.mono (by decide)) T.b_Reader_take .nil pass0) pa_nil)))))))) (pss_one (ps_if (pt_cmpR op_eq (pv 1) pe_str (nomark _)) (pss_one (ps_expr (pe_meth0 (pv 0) T.cl_Reader T.m_Reader_chord G_Reader_chord (hr.mono (by decide)) T.b_Reader_chord .nil (L2N.passes_call tk fun _ _ _ _ h => h)))) (pss_one (ps_expr (pe_meth0 (pv 0) T.cl_Reader T.m_Reader_single G_Reader_single (hr.mono (by decide)) T.b_Reader_single .nil (L2N.passes_call tk fun _ _ _ _ h => h)))))))))))), ?_⟩
  obtain ⟨x, rfl, p, i, short, acc, rfl, hp, hacc, hbl, hel, hE, hq⟩ := h
  obtain ⟨dx, _, ha, _⟩ := hp.rd.at_
  have hF := acc_facts short hacc
  have il := hp.il
  have wl := hp.ok.wo.len
  have hmrn : (stOf short acc).mr ≠ [] := by
    obtain ⟨x, r, e, _⟩ := hF.top
    rw [e]; simp
  have tl := look_len hp.ok.wo i
  have tz := fun h => look_lt (ws := p.ws) (i := i) h
  obtain ⟨tx, etx⟩ : ∃ tx, lookT (p.ws.drop i) = tx := ⟨_, rfl⟩
  rw [etx] at tl tz
  refine ⟨_, rfl, p.a, dx, _, rfl, ha, l_Reader_look, _, rfl, p.a, p.aw, p.ws, i, p.e, _, _, _, _, rfl, hp.rd, hp.il, ?_⟩
  rw [etx]
  refine ⟨_, rfl, _, rfl, tx, rfl, tl, ?_⟩
  cases htu : tupF tx with
  | some nm =>
    obtain ⟨n, m⟩ := nm
    have hst := step_opens (e := p.e) (d := (stOf short acc).st.length) (acc := acc) (r := p.ws.drop i) (x := (n, m)) (by rw [etx]; exact htu)
    obtain ⟨hpw, hpk⟩ := opens_words htu
    have hpk' : 2 ≤ n ∧ n ≤ 9 ∧ 2 ≤ m ∧ m ≤ 9 := hpk
    unfold tupletF
    rw [htu]
    rintro v H1 s1 hv
    have nv : decide (v = .non) = false := by
      obtain ⟨q, rfl, _⟩ := hv
      exact decide_eq_false (fun z => by cases z)
    have hp1 := hp.same s1
    have ha1 := s1 _ _ ha
    refine ⟨_, rfl, rfl, _, rfl, ite_t (by rw [nv]; rfl) ?_⟩
    have hlen : ((stOf short acc).mr.reverse.map natV).length = (stOf short acc).st.length + 1 := by rw [List.length_map, List.length_reverse, hF.len]
    refine ⟨_, rfl, p.a, dx, _, rfl, ha1, l_Reader_want, ?_⟩
    refine ⟨_, rfl, p.a, _, dx, _, _, rfl, ha1, T.cl_Reader, T.n_Reader_many, l_Reader_many, p.am, _, rfl, .inl (SqL.of hp1.hm), _, _, rfl, rfl, ?_⟩
    refine ⟨_, _, _, rfl, p.a, p.aw, p.ws, i, p.e, _, _, _, _, decide ((stOf short acc).st.length < 3), 3, rfl, ?_, rfl, hp1.rd, hp1.il, fun hb => ?_, fun hb => ?_⟩
    · rw [hlen]
      show V.bl (decide ((((stOf short acc).st.length + 1 : Nat) : Int) ≤ 3)) = _
      congr 1
      rw [Bool.eq_iff_iff, decide_eq_true_eq, decide_eq_true_eq]; omega
    · have hd3 : (stOf short acc).st.length < 3 := of_decide_eq_true hb
      have ilt : i < p.ws.length := tz fun z => by rw [z] at htu; cases htu
      rw [if_neg (by omega)] at hst
      refine ⟨_, rfl, p.a, _, dx, _, _, rfl, ha1, T.cl_Reader, T.n_Reader_many, l_Reader_many, .inl ⟨rfl, _, SqL.of hp1.hm⟩, p.am, _, _, rfl, rfl, hp1.hm, by rw [hlen, sizeLine_eq]; omega, ?_⟩
      have e0 : (stOf short acc).mr.reverse.map natV ++ [V.int 0] = (0 :: (stOf short acc).mr).reverse.map natV := by
        rw [List.reverse_cons, List.map_append]
        rfl
      rw [e0]
      obtain ⟨hp2, z2⟩ := hp1.setM (0 :: (stOf short acc).mr)
      generalize upd H1 p.am (.lst ((0 :: (stOf short acc).mr).reverse.map natV)) = H2 at hp2 z2 ⊢
      obtain ⟨dx2, _, ha2, _⟩ := hp2.rd.at_
      obtain ⟨b0, bl, hy, hbl2, hpy, _⟩ := hp2.by_
      refine ⟨_, rfl, p.a, _, dx2, _, _, rfl, ha2, T.cl_Reader, T.n_Reader_by, l_Reader_by, .inl ⟨rfl, _, SqL.of hy⟩, ?_⟩
      refine ⟨_, rfl, p.a, _, dx2, _, _, rfl, ha2, T.cl_Reader, T.n_Reader_by, l_Reader_by, _, rfl, p.ay, _, _, _, rfl, rfl, SqL.of hy, atI_last _ _, _, rfl, ?_⟩
      refine ⟨_, _, rfl, byOf (stOf short acc).st, Sx62.lowest m n, hbl2, hv.sb z2, fg_by hF.ok hF.deep, sm_ratio hpk'.1 hpk'.2.1 hpk'.2.2.2, fun v3 H3 s3 hv3 => ?_⟩
      have hp3 := hp2.same s3
      refine ⟨p.ay, _, _, rfl, rfl, s3 _ _ hy, ?_, ?_⟩
      · have := Paired.length hpy
        rw [this, List.length_reverse, sizeLine_eq]
        have : (byTails (stOf short acc).st).length ≤ 4 := by
          have : ∀ l : List (Nat × Nat), (byTails l).length = l.length + 1 := fun l => by
            induction l with
            | nil => rfl
            | cons a l ih => show (byTails l).length + 1 = _; rw [ih]; rfl
          rw [this]
          omega
        show (byTails (stOf short acc).st).length < _
        omega
      obtain ⟨hp4, z4⟩ := hp3.setY (st := (n, m) :: (stOf short acc).st) (xs := b0 ++ [bl] ++ [v3]) (by
        show Paired _ _ (byOf ((n, m) :: (stOf short acc).st) :: byTails (stOf short acc).st).reverse
        rw [List.reverse_cons]
        exact pairedApp (pairedMono (fun _ _ h => h.mono s3) hpy) (.cons hv3 .nil))
      refine app_take T rfl hp4 ilt (by show (stOf short acc).bw.length ≤ 3000; omega) fun H5 z5 hp5 => ?_
      rw [etx] at hp5
      have e5 : stOf short (.opens n m :: acc) = ⟨0 :: (stOf short acc).mr, (n, m) :: (stOf short acc).st, (stOf short acc).evs, (stOf short acc).bw ++ [tx]⟩ := by
        show BSt.mk _ _ _ _ = _
        rw [hpw]
      refine hq _ (i + 1) hst (by rw [List.drop_drop]) ilt (Nat.lt_succ_self _) ⟨hacc, hpk, hd3⟩ rfl ?_ ?_ H5 (((((SB.of s1).trans z2).trans (SB.of s3)).trans z4).trans z5) (by rw [e5]; exact hp5)
      · rw [e5]; show ((stOf short acc).bw ++ [tx]).length ≤ _; rw [List.length_append, List.length_cons, List.length_nil]; omega
      · rw [e5]; show (stOf short acc).evs.length ≤ _; omega
    · have hd3 : ¬ (stOf short acc).st.length < 3 := of_decide_eq_false hb
      rw [if_pos (by omega)] at hst
      exact (hE ⟨3, hereP p.e (p.ws.drop i)⟩ hst).less (SB.of (M := p.mp) s1) fun _ h => h
  | none =>
    unfold tupletF
    rw [htu]
    intro H1 s1
    have hp1 := hp.same s1
    have ha1 := s1 _ _ ha
    refine ⟨_, rfl, rfl, _, rfl, ite_f rfl ?_⟩
    refine ⟨_, rfl, rfl, _, rfl, ?_⟩
    rw [tup_S, decS]
    refine iteB (fun h125 => ?_) (fun h125 => ?_)
    · have e125 : tx = [125] := of_decide_eq_true h125
      have hst := step_closes (e := p.e) (d := (stOf short acc).st.length) (acc := acc) (r := p.ws.drop i) (by rw [etx]; exact e125)
      obtain ⟨x, r, hmr, htop⟩ := hF.top
      have hlen := hF.len
      have hm1 := hp1.hm
      rw [hmr] at hm1
      have e1 : (x :: r).reverse.map natV = r.reverse.map natV ++ [natV x] := by simp
      rw [e1] at hm1
      have hl1 : (r.reverse.map natV ++ [natV x]).length = (stOf short acc).st.length + 1 := by
        rw [List.length_append, List.length_map, List.length_reverse]
        rw [hmr] at hlen
        exact hlen
      have hex : ¬ (0 < (stOf short acc).st.length ∧ Sx62.afterOpen acc = false) → RaiseF A E [] H1 2 (hereP p.e (p.ws.drop i)) := fun h => by
        rw [if_neg h] at hst
        exact (hE ⟨2, hereP p.e (p.ws.drop i)⟩ hst).less (SB.of (M := p.mp) s1) fun _ h => h
      refine ⟨_, rfl, p.a, dx, _, rfl, ha1, l_Reader_want, ?_⟩
      refine ⟨_, rfl, p.a, _, dx, _, _, rfl, ha1, T.cl_Reader, T.n_Reader_many, l_Reader_many, p.am, _, rfl, .inl (SqL.of hm1), _, _, rfl, rfl, _, rfl, ?_⟩
      rw [hl1]
      refine iteB (fun hb => ?_) (fun hb => ?_)
      · have hd0 : 0 < (stOf short acc).st.length := by
          have := of_decide_eq_true hb
          omega
        have hacc0 : acc ≠ [] := fun z => by rw [z] at hd0; exact absurd hd0 (Nat.lt_irrefl 0)
        refine ⟨_, rfl, p.a, _, dx, _, _, rfl, ha1, T.cl_Reader, T.n_Reader_many, l_Reader_many, _, rfl, p.am, _, _, _, rfl, rfl, SqL.of hm1, atI_last _ _, _, _, rfl, rfl, ?_⟩
        refine ⟨_, _, _, rfl, p.a, p.aw, p.ws, i, p.e, _, _, _, _, decide (0 < x), 2, rfl, ?_, rfl, hp1.rd, hp1.il, fun hb2 => ?_, fun hb2 => ?_⟩
        · show V.bl (decide ((x : Int) > 0)) = _
          congr 1
          rw [Bool.eq_iff_iff, decide_eq_true_eq, decide_eq_true_eq]; omega
        · have hx0 := of_decide_eq_true hb2
          have haft := (htop.mp hx0).2
          have ilt : i < p.ws.length := tz fun z => by rw [z] at e125; cases e125
          rw [if_pos ⟨hd0, haft⟩] at hst
          refine ⟨_, rfl, p.a, _, dx, _, _, rfl, ha1, T.cl_Reader, T.n_Reader_many, l_Reader_many, .inl ⟨rfl, _, SqL.of hm1⟩, p.am, _, natV x, rfl, rfl, hm1, ?_, ?_⟩
          · rw [List.length_append, List.length_cons, List.length_nil, Nat.add_sub_cancel, List.getElem?_append_right (Nat.le_refl _), Nat.sub_self]
            rfl
          rw [List.dropLast_concat]
          obtain ⟨hp2, z2⟩ := hp1.setM r
          generalize upd H1 p.am (.lst (r.reverse.map natV)) = H2 at hp2 z2 ⊢
          obtain ⟨dx2, _, ha2, _⟩ := hp2.rd.at_
          obtain ⟨b0, bl, hy, hbl2, hpy, hpt⟩ := hp2.by_
          have hstne : (stOf short acc).st ≠ [] := fun z => by rw [z] at hd0; exact absurd hd0 (Nat.lt_irrefl 0)
          refine ⟨_, rfl, p.a, _, dx2, _, _, rfl, ha2, T.cl_Reader, T.n_Reader_by, l_Reader_by, .inl ⟨rfl, _, SqL.of hy⟩, p.ay, _, bl, rfl, rfl, hy, ?_, ?_⟩
          · rw [List.length_append, List.length_cons, List.length_nil, Nat.add_sub_cancel, List.getElem?_append_right (Nat.le_refl _), Nat.sub_self]
            rfl
          rw [List.dropLast_concat]
          obtain ⟨hp3, z3⟩ := hp2.setY (st := (stOf short acc).st.tail) (hpt hstne)
          generalize upd H2 p.ay (.lst b0) = H3 at hp3 z3 ⊢
          obtain ⟨dx3, _, ha3, _⟩ := hp3.rd.at_
          refine ⟨_, rfl, p.a, dx3, _, rfl, ha3, l_Reader_one_more, _, rfl, p, i, _, rfl, hp3, ?_, fun H4 z4 hp4 => ?_⟩
          · show r ≠ []
            intro z
            rw [hmr, z] at hlen
            simp at hlen
            rw [hlen] at hd0
            exact absurd hd0 (by simp)
          refine app_take T rfl hp4 ilt (by show (stOf short acc).bw.length ≤ 3000; omega) fun H5 z5 hp5 => ?_
          rw [etx] at hp5
          have e5 : stOf short (.closes :: acc) = ⟨incr r, (stOf short acc).st.tail, (stOf short acc).evs, (stOf short acc).bw ++ [tx]⟩ := by
            show BSt.mk (incr (stOf short acc).mr.tail) _ _ _ = _
            rw [hmr, e125]
            rfl
          refine hq _ (i + 1) hst (by rw [List.drop_drop]) ilt (Nat.lt_succ_self _) ⟨hacc, trivial, hd0⟩ ?_ ?_ ?_ H5 ((((SB.of s1).trans z2).trans z3).trans (z4.trans z5)) (by rw [e5]; exact hp5)
          · rw [e5]; show _ - 1 = (stOf short acc).st.tail.length; rw [List.length_tail]
          · rw [e5]; show ((stOf short acc).bw ++ [tx]).length ≤ _; rw [List.length_append, List.length_cons, List.length_nil]; omega
          · rw [e5]; show (stOf short acc).evs.length ≤ _; omega
        · have hx0 : ¬ 0 < x := of_decide_eq_false hb2
          exact hex fun z => hx0 (htop.mpr ⟨hacc0, z.2⟩)
      · have hd0 : ¬ 0 < (stOf short acc).st.length := by
          have := of_decide_eq_false hb
          omega
        exact ⟨_, _, _, rfl, p.a, p.aw, p.ws, i, p.e, _, _, _, _, false, 2, rfl, rfl, rfl, hp1.rd, hp1.il, (fun z => nomatch z), fun _ => hex fun z => hd0 z.1⟩
    · have n125 : tx ≠ [125] := of_decide_eq_false h125
      refine ⟨_, rfl, rfl, _, rfl, ?_⟩
      rw [open_S, decS]
      refine iteB (fun h91 => ?_) (fun h91 => ?_)
      · have e91 : tx = [91] := of_decide_eq_true h91
        obtain ⟨w0, l, hdr⟩ : ∃ w0 l, p.ws.drop i = w0 :: l := by
          cases hd : p.ws.drop i with
          | nil => rw [hd] at etx; rw [← etx] at e91; cases e91
          | cons w0 l => exact ⟨w0, l, rfl⟩
        have ew : w0.text = [91] := by
          rw [hdr] at etx
          exact etx.trans e91
        have hst := step_chord (e := p.e) (d := (stOf short acc).st.length) (acc := acc) (w := w0) (l := l) ew
        rw [← hdr] at hst
        refine ⟨_, rfl, p.a, dx, _, rfl, ha1, l_Reader_chord, _, rfl, p, i, _, w0, l, rfl, hp1, hdr, ew, hF.ok, hF.deep, hmrn, by omega, by omega, fun x hx => ?_, fun j ps k d t hch jl hj hpk hps H2 z2 hp2 => ?_⟩
        · rw [hx] at hst
          exact (hE x hst).back (SB.of s1) fun _ h => h
        · rw [hch] at hst
          have hlenw : (pieceWords (.note w0.place ps k d t)).length = ps.length + 2 := by
            rw [pieceWords_chord hps]; simp
          refine hq _ j hst rfl jl (by omega) ⟨hacc, hpk, trivial⟩ rfl ?_ ?_ H2 ((SB.of s1).trans z2) hp2
          · show ((stOf short acc).bw ++ pieceWords (.note w0.place ps k d t)).length ≤ j
            rw [List.length_append, hlenw]; omega
          · show ((stOf short acc).evs ++ [_]).length ≤ j
            rw [List.length_append, List.length_cons, List.length_nil]; omega
      · have n91 : tx ≠ [91] := of_decide_eq_false h91
        refine ⟨_, rfl, p.a, dx, _, rfl, ha1, l_Reader_single, _, rfl, p, i, _, rfl, hp1, hF.ok, hF.deep, hmrn, by omega, by omega, fun h1 h2 => ?_, fun ps k d t hsg H2 z2 hp2 => ?_⟩
        · have hst := step_bad (e := p.e) (d := (stOf short acc).st.length) (acc := acc) (r := p.ws.drop i) (by rw [etx]; exact htu) (by rw [etx]; exact n125) (by rw [etx]; exact n91) h1 h2
          exact (hE ⟨2, hereP p.e (p.ws.drop i)⟩ hst).back (SB.of s1) fun _ h => h
        · have hst := step_sign (e := p.e) (d := (stOf short acc).st.length) (acc := acc) hsg (by rw [etx]; exact n125) (by rw [etx]; exact n91)
          obtain ⟨hpk, hpw⟩ := sg_ok hsg (hereP p.e (p.ws.drop i))
          have ilt : i < p.ws.length := tz fun z => by
            rw [etx, z] at hsg
            cases hsg with
            | note h => cases h
            | rest h h2 => cases h2
          have e5 : stOf short (.note (hereP p.e (p.ws.drop i)) ps k d t :: acc) = ⟨incr (stOf short acc).mr, (stOf short acc).st, (stOf short acc).evs ++ [⟨hereP p.e (p.ws.drop i), ps, Sx62.signLong k d (stOf short acc).st, t⟩], (stOf short acc).bw ++ [lookT (p.ws.drop i)]⟩ := by
            show BSt.mk _ _ _ _ = _
            rw [hpw]
          refine hq _ (i + 1) hst (by rw [List.drop_drop]) ilt (Nat.lt_succ_self _) ⟨hacc, hpk, trivial⟩ rfl ?_ ?_ H2 ((SB.of s1).trans z2) (by rw [e5]; exact hp2)
          · rw [e5]; show ((stOf short acc).bw ++ [_]).length ≤ _; rw [List.length_append, List.length_cons, List.length_nil]; omega
          · rw [e5]; show ((stOf short acc).evs ++ [_]).length ≤ _; rw [List.length_append, List.length_cons, List.length_nil]; omega
end
end Sc

set_option Elab.async false
set_option linter.all false
set_option maxRecDepth 100000
set_option maxHeartbeats 4000000
/-! # bars -/
namespace Sc
open PySem PySem.Spec PyProof.Rows L2 Pf
open Sx62 (Frac Pitch Word Timed Piece)
def barR (e : Nat) (r : List Word) : Sx62.R (Sx62.Bar × List Word) := match Sx62.piecesFrom e (r.length + 1) 0 [] (if lookT r = Sx62.SHORT then r.drop 1 else r) with
  | .error x => .error x
  | .ok x => .ok (⟨x.2.1, lookT r == Sx62.SHORT, x.1⟩, x.2.2)
theorem short_S : Str.ofString "short" = S Sx62.SHORT := by decide +kernel
theorem bar_S : Str.ofString "|" = S [124] := by decide +kernel
section
variable {P : Program} {w : World} {K : PySem.W.Frag} {mg : Str → Option Value} {base : Heap} {A : Ad}
theorem sc_Reader_bar : FnScope ["self", "is_short", "place"] ["self"] (defScope s_Reader_bar) := ⟨rfl, rfl, rfl, by decide +kernel, rfl, by decide +kernel, by decide +kernel⟩
def BarA (K : PySem.W.Frag) (A : Ad) (G : Hp) (v : V) (b : Sx62.Bar) : Prop := ∃ x dx lw le vs, v = .ref x ∧ G x = some (.ins A.C_Bar dx (F_Bar (.ref lw) (.ref le) (.bl b.short) (.int (b.place : Int)))) ∧ G lw = some (.lst ((barWords b).map strV)) ∧ G le = some (.lst vs) ∧ Paired (EvA K A G) vs b.notes
theorem BarA.mono {G G' : Hp} {v : V} {b : Sx62.Bar} (s : Same G G') (h : BarA K A G v b) : BarA K A G' v b := by
  obtain ⟨x, dx, lw, le, vs, rfl, h1, h2, h3, h4⟩ := h
  exact ⟨x, dx, lw, le, vs, rfl, s _ _ h1, s _ _ h2, s _ _ h3, pairedMono (fun _ _ h => h.mono s) h4⟩
def sp_Reader_bar (K : PySem.W.Frag) (A : Ad) : Sp := sp1 fun x H Q E => ∃ (a aw : Addr) (ws : List Word) (i e : Nat) (M : List Addr) (x1 x2 x3 x4 : V), x = .ref a ∧ RdA K A H a aw ws i e x1 x2 x3 x4 ∧ i ≤ ws.length ∧ WsOk ws ∧ a ∈ M ∧ MOk M H ∧
  (∀ x, barR e (ws.drop i) = .error x → RaiseF A E [a] H x.kind x.place) ∧
  (∀ b j, barR e (ws.drop i) = .ok (b, ws.drop j) → j ≤ ws.length → i + b.pieces.length + 1 ≤ j → BarOk b → ∀ v H' y1 y2 y3 y4, SB [a] H H' → RdA K A H' a aw ws j e y1 y2 y3 y4 → BarA K A (hid M H') v b → Q v H')
/-- within a bar -/
def BrW (K : PySem.W.Frag) (A : Ad) (p : Pl) (short : Bool) (i1 : Nat) (R : Sx62.R (List Piece × Nat × List Word)) (H0 : Hp) (m : Nat) (σ : L2.St) (H : Hp) : Prop := ∃ (j f : Nat) (acc : List Piece),
  m = p.ws.length - j ∧ σ = [some (.ref p.a), some (.bl short), none] ∧ PcA K A p H j (stOf short acc) ∧ AccOk short acc ∧ SB p.mp H0 H ∧ (stOf short acc).bw.length ≤ j ∧ (stOf short acc).evs.length ≤ j ∧ i1 + acc.length ≤ j ∧
  R = Sx62.piecesFrom p.e f (stOf short acc).st.length acc (p.ws.drop j) ∧ p.ws.length - j < f
theorem if_take (T : Txt K mg A) {p : Pl} {H : Hp} {i : Nat} {short : Bool} {σ : L2.St} {D : Ends} {r : List (Option V)} (e : σ = some (.ref p.a) :: some (.bl short) :: r) (hp : PcA K A p H i (stOf false [])) (hs : short = decide (lookT (p.ws.drop i) = Sx62.SHORT))
    (hq : ∀ H' i', SB p.mp H H' → PcA K A p H' i' (stOf short []) → p.ws.drop i' = (if lookT (p.ws.drop i) = Sx62.SHORT then (p.ws.drop i).drop 1 else p.ws.drop i) → i ≤ i' → i' ≤ p.ws.length → (stOf short []).bw.length ≤ i' → D.nx σ H') :
    tIfS (tB (tVar 1)) (tDrop (tBM K "list" rAppend (tFld K (tVar 0) (Str.ofString "bar_words")) (tCons (tMeth A.C_Reader (Str.ofString "take") (sp_Reader_take K A) [] E0 (tVar 0) tNil) tNil))) tNext D σ H := by
  subst e
  refine ⟨_, rfl, short, rfl, iteB (fun hb => ?_) (fun hb => ?_)⟩
  · have e1 : lookT (p.ws.drop i) = Sx62.SHORT := by rw [hb] at hs; exact of_decide_eq_true hs.symm
    have ilt : i < p.ws.length := look_lt fun z => by rw [z] at e1; cases e1
    refine app_take T rfl hp ilt (by show 0 ≤ 3000; decide) fun H' z hp' => ?_
    rw [e1] at hp'
    refine hq H' (i + 1) z ?_ ?_ (Nat.le_succ _) ilt ?_
    · rw [hb]; exact hp'
    · rw [if_pos e1, List.drop_drop]
    · rw [hb]; show 1 ≤ i + 1; omega
  · have e1 : ¬ lookT (p.ws.drop i) = Sx62.SHORT := by rw [hb] at hs; exact of_decide_eq_false hs.symm
    subst hb
    exact hq H i (SB.refl _ _) hp (by rw [if_neg e1]) (Nat.le_refl _) hp.il (Nat.zero_le _)
theorem ok_Reader_bar (T : Txt K mg A) : FnOk P w K mg base (L2N.CX P w) 7 A.a_Reader_bar A.d_Reader_bar ["self"] (sp_Reader_bar K A) := by
  have G_Bar_init := ok_Bar_init (P := P) (w := w) (base := base) T
  have G_Reader_here := ok_Reader_here (P := P) (w := w) (base := base) T
  have G_Reader_look := ok_Reader_look (P := P) (w := w) (base := base) T
  have G_Reader_piece_word := ok_Reader_piece_word (P := P) (w := w) (base := base) T
  have G_Reader_take := ok_Reader_take (P := P) (w := w) (base := base) T
  refine okN T.F_Reader_bar sc_Reader_bar (sp1_len) (fun cdv Ar outer s H vs Q E hr h tk => ?_)
  refine ⟨_, (pss_cons (ps_set (i := 1) sc_Reader_bar.nd rfl (Or.inl rfl) (pe_cmpR op_eq (pe_meth0 (pv 0) T.cl_Reader T.m_Reader_look G_Reader_look (hr.mono (by decide)) T.b_Reader_look .nil pass0) pe_str (nomark _)))
      (pss_cons (ps_fld (pv 0) (pe_lst pa_nil) rfl)
      (pss_cons (ps_fld (pv 0) (pe_lst pa_nil) rfl)
      (pss_cons (ps_fld (pv 0) (pe_lst (pa_cons pe_int pa_nil)) rfl)
      (pss_cons (ps_fld (pv 0) (pe_lst (pa_cons (pe_gR T.c_ONE) pa_nil)) rfl)
      (pss_cons (ps_if (pt_val (pv 1)) (pss_one (ps_expr (pe_bm PySem.F.plainAttrs_list PySem.F.slot_list_append PySem.F.type_list_append mt_append (pe_fld (pv 0) rfl) (pa_cons (pe_meth0 (pv 0) T.cl_Reader T.m_Reader_take G_Reader_take (hr.mono (by decide)) T.b_Reader_take .nil pass0) pa_nil)))) pss_nil)
      (pss_cons (ps_while (passes_of rfl) (PW.pt (pw_or (pt_cmpR op_ne (pe_meth0 (pv 0) T.cl_Reader T.m_Reader_look G_Reader_look (hr.mono (by decide)) T.b_Reader_look .nil pass0) pe_str (nomark _)) (pw_or (pt_cmpR op_gt (pe_callB call_len_seq (by rfl) T.z_len PySem.boot_len (pa_cons (pe_fld (pv 0) rfl) pa_nil)) pe_int (nomark _)) (pw_or1 (pt_cmpR op_eq (pe_ix ix_list (pe_fld (pv 0) rfl) pe_int (fun _ _ => rfl)) pe_int (nomark _)))))) (pss_one (ps_expr (pe_meth0 (pv 0) T.cl_Reader T.m_Reader_piece_word G_Reader_piece_word (hr.mono (by decide)) T.b_Reader_piece_word .nil (L2N.passes_call tk fun _ _ _ _ h => h)))))
      (pss_cons (ps_set (i := 2) sc_Reader_bar.nd rfl (Or.inl rfl) (pe_meth0 (pv 0) T.cl_Reader T.m_Reader_here G_Reader_here (hr.mono (by decide)) T.b_Reader_here .nil pass0))
      (pss_cons (ps_expr (pe_bm PySem.F.plainAttrs_list PySem.F.slot_list_append PySem.F.type_list_append mt_append (pe_fld (pv 0) rfl) (pa_cons (pe_meth0 (pv 0) T.cl_Reader T.m_Reader_take G_Reader_take (hr.mono (by decide)) T.b_Reader_take .nil pass0) pa_nil)))
      (pss_one (ps_ret (pe_make T.M_Bar G_Bar_init (hr.mono (by decide)) rfl T.g_Bar T.b_Bar_init .nil pass0 (pa_cons (pe_fld (pv 0) rfl) (pa_cons (pe_fld (pv 0) rfl) (pa_cons (pv 1) (pa_cons (pv 2) pa_nil)))))))))))))))), ?_⟩
  obtain ⟨x, rfl, a, aw, ws, i, e, M, x1, x2, x3, x4, rfl, hR, hi, hW, haM, hM, hE, hq⟩ := h
  obtain ⟨dx, vs, ha, hw, hws⟩ := id hR.at_
  have haw : aw ≠ a := ne_of hw ha (by intro z; cases z)
  refine ⟨_, rfl, a, dx, _, rfl, ha, l_Reader_look, _, rfl, a, aw, ws, i, e, _, _, _, _, rfl, hR, hi, rfl, ?_⟩
  rw [short_S, decS]
  obtain ⟨short, eshort⟩ : ∃ b, decide (lookT (ws.drop i) = Sx62.SHORT) = b := ⟨_, rfl⟩
  rw [eshort]
  -- bar_words
  refine ⟨by show 0 ≤ sizeLine; decide, fun l1 n1 => ?_⟩
  have s1 := same_new (o := .lst []) n1
  refine ⟨_, rfl, a, _, dx, _, rfl, s1 _ _ ha, T.cl_Reader, T.n_Reader_bar_words, by show 7 < 1000; decide, ?_⟩
  obtain ⟨z1, hR1⟩ := rd_step (K := K) (s1 _ _ ha) (s1 _ _ hw) (pairedMono (fun _ _ h => h.mono s1) hws) (j := i) (y1 := .ref l1) (y2 := x2) (y3 := x3) (y4 := x4) (u_Reader_bar_words (y := .ref l1))
  have m1 : l1 ≠ a := Ne.symm (ne_of_none ha n1)
  have k1 : (upd (upd H l1 (.lst [])) a (.ins A.C_Reader dx (putF "bar_words" (.ref l1) (F_Reader (.ref aw) (.int (i : Int)) (.int (e : Int)) x1 x2 x3 x4)))) l1 = some (.lst []) := by rw [upd_ne m1]; exact upd_same
  have Z1 : SB [a] H (upd (upd H l1 (.lst [])) a (.ins A.C_Reader dx (putF "bar_words" (.ref l1) (F_Reader (.ref aw) (.int (i : Int)) (.int (e : Int)) x1 x2 x3 x4)))) := (SB.of s1).trans z1
  generalize upd (upd H l1 (.lst [])) a (.ins A.C_Reader dx (putF "bar_words" (.ref l1) (F_Reader (.ref aw) (.int (i : Int)) (.int (e : Int)) x1 x2 x3 x4))) = H1 at hR1 k1 Z1 ⊢
  obtain ⟨dx1, vs1, ha1, hw1, hws1⟩ := id hR1.at_
  -- events
  refine ⟨by show 0 ≤ sizeLine; decide, fun l2 n2 => ?_⟩
  have s2 := same_new (o := .lst []) n2
  refine ⟨_, rfl, a, _, dx1, _, rfl, s2 _ _ ha1, T.cl_Reader, T.n_Reader_events, by show 7 < 1000; decide, ?_⟩
  obtain ⟨z2, hR2⟩ := rd_step (K := K) (s2 _ _ ha1) (s2 _ _ hw1) (pairedMono (fun _ _ h => h.mono s2) hws1) (j := i) (y1 := .ref l1) (y2 := .ref l2) (y3 := x3) (y4 := x4) (u_Reader_events (y := .ref l2))
  have m2 : l2 ≠ a := Ne.symm (ne_of_none ha1 n2)
  have m12 : l1 ≠ l2 := ne_of_none k1 n2
  have k2 : (upd (upd H1 l2 (.lst [])) a (.ins A.C_Reader dx1 (putF "events" (.ref l2) (F_Reader (.ref aw) (.int (i : Int)) (.int (e : Int)) (.ref l1) x2 x3 x4)))) l2 = some (.lst []) := by rw [upd_ne m2]; exact upd_same
  have k12 := z2.at (s2 _ _ k1) (by simpa using m1)
  have Z2 : SB [a] H (upd (upd H1 l2 (.lst [])) a (.ins A.C_Reader dx1 (putF "events" (.ref l2) (F_Reader (.ref aw) (.int (i : Int)) (.int (e : Int)) (.ref l1) x2 x3 x4)))) := (Z1.trans (SB.of s2)).trans z2
  generalize upd (upd H1 l2 (.lst [])) a (.ins A.C_Reader dx1 (putF "events" (.ref l2) (F_Reader (.ref aw) (.int (i : Int)) (.int (e : Int)) (.ref l1) x2 x3 x4))) = H2 at hR2 k2 k12 Z2 ⊢
  obtain ⟨dx2, vs2, ha2, hw2, hws2⟩ := id hR2.at_
  -- many
  refine ⟨by show 1 ≤ sizeLine; decide, fun l3 n3 => ?_⟩
  have s3 := same_new (o := .lst [.int 0]) n3
  refine ⟨_, rfl, a, _, dx2, _, rfl, s3 _ _ ha2, T.cl_Reader, T.n_Reader_many, by show 7 < 1000; decide, ?_⟩
  obtain ⟨z3, hR3⟩ := rd_step (K := K) (s3 _ _ ha2) (s3 _ _ hw2) (pairedMono (fun _ _ h => h.mono s3) hws2) (j := i) (y1 := .ref l1) (y2 := .ref l2) (y3 := .ref l3) (y4 := x4) (u_Reader_many (y := .ref l3))
  have m3 : l3 ≠ a := Ne.symm (ne_of_none ha2 n3)
  have m13 : l1 ≠ l3 := ne_of_none k12 n3
  have m23 : l2 ≠ l3 := ne_of_none k2 n3
  have k3 : (upd (upd H2 l3 (.lst [.int 0])) a (.ins A.C_Reader dx2 (putF "many" (.ref l3) (F_Reader (.ref aw) (.int (i : Int)) (.int (e : Int)) (.ref l1) (.ref l2) x3 x4)))) l3 = some (.lst [.int 0]) := by rw [upd_ne m3]; exact upd_same
  have k13 := z3.at (s3 _ _ k12) (by simpa using m1)
  have k23 := z3.at (s3 _ _ k2) (by simpa using m2)
  have Z3 : SB [a] H (upd (upd H2 l3 (.lst [.int 0])) a (.ins A.C_Reader dx2 (putF "many" (.ref l3) (F_Reader (.ref aw) (.int (i : Int)) (.int (e : Int)) (.ref l1) (.ref l2) x3 x4)))) := (Z2.trans (SB.of s3)).trans z3
  generalize upd (upd H2 l3 (.lst [.int 0])) a (.ins A.C_Reader dx2 (putF "many" (.ref l3) (F_Reader (.ref aw) (.int (i : Int)) (.int (e : Int)) (.ref l1) (.ref l2) x3 x4))) = H3 at hR3 k3 k13 k23 Z3 ⊢
  obtain ⟨dx3, vs3, ha3, hw3, hws3⟩ := id hR3.at_
  -- by
  refine ⟨by show 1 ≤ sizeLine; decide, fun l4 n4 => ?_⟩
  have s4 := same_new (o := .lst [.ref A.t_ONE]) n4
  refine ⟨_, rfl, a, _, dx3, _, rfl, s4 _ _ ha3, T.cl_Reader, T.n_Reader_by, by show 7 < 1000; decide, ?_⟩
  obtain ⟨z4, hR4⟩ := rd_step (K := K) (s4 _ _ ha3) (s4 _ _ hw3) (pairedMono (fun _ _ h => h.mono s4) hws3) (j := i) (y1 := .ref l1) (y2 := .ref l2) (y3 := .ref l3) (y4 := .ref l4) (u_Reader_by (y := .ref l4))
  have m4 : l4 ≠ a := Ne.symm (ne_of_none ha3 n4)
  have m14 : l1 ≠ l4 := ne_of_none k13 n4
  have m24 : l2 ≠ l4 := ne_of_none k23 n4
  have m34 : l3 ≠ l4 := ne_of_none k3 n4
  have k4 : (upd (upd H3 l4 (.lst [.ref A.t_ONE])) a (.ins A.C_Reader dx3 (putF "by" (.ref l4) (F_Reader (.ref aw) (.int (i : Int)) (.int (e : Int)) (.ref l1) (.ref l2) (.ref l3) x4)))) l4 = some (.lst [.ref A.t_ONE]) := by rw [upd_ne m4]; exact upd_same
  have k14 := z4.at (s4 _ _ k13) (by simpa using m1)
  have k24 := z4.at (s4 _ _ k23) (by simpa using m2)
  have k34 := z4.at (s4 _ _ k3) (by simpa using m3)
  have Z4 : SB [a] H (upd (upd H3 l4 (.lst [.ref A.t_ONE])) a (.ins A.C_Reader dx3 (putF "by" (.ref l4) (F_Reader (.ref aw) (.int (i : Int)) (.int (e : Int)) (.ref l1) (.ref l2) (.ref l3) x4)))) := (Z3.trans (SB.of s4)).trans z4
  generalize upd (upd H3 l4 (.lst [.ref A.t_ONE])) a (.ins A.C_Reader dx3 (putF "by" (.ref l4) (F_Reader (.ref aw) (.int (i : Int)) (.int (e : Int)) (.ref l1) (.ref l2) (.ref l3) x4))) = H4 at hR4 k4 k14 k24 k34 Z4 ⊢
  have f1 : H l1 = none := n1
  have f2 : H l2 = none := Z1.free n2
  have f3 : H l3 = none := Z2.free n3
  have f4 : H l4 = none := Z3.free n4
  obtain ⟨p, ep⟩ : ∃ p : Pl, p = ⟨a, aw, l1, l2, l3, l4, ws, e, l1 :: l2 :: l3 :: l4 :: M⟩ := ⟨_, rfl⟩
  have hp4 : PcA K A p H4 i (stOf false []) := by
    subst ep
    refine ⟨⟨ne_of_none hw f1, ne_of_none hw f2, ne_of_none hw f3, ne_of_none hw f4, m12, m13, m14, m23, m24, m34, ?_, hW⟩, hR4, k14, ⟨[], k24, .nil⟩, k34, ⟨_, k4, .cons ⟨_, rfl, T.q_ONE.sq⟩ .nil⟩, ?_, hi⟩
    · intro b hb
      simp [Pl.mp] at hb ⊢
      rcases hb with rfl | rfl | rfl | rfl | rfl <;> simp [haM]
    · intro b hb
      simp at hb
      rcases hb with rfl | rfl | rfl | rfl | hb
      · exact ⟨_, k14, trivial⟩
      · exact ⟨_, k24, trivial⟩
      · exact ⟨_, k34, trivial⟩
      · exact ⟨_, k4, trivial⟩
      · exact hM.sb Z4 b hb
  have out : ∀ {H' : Hp}, SB p.mp H4 H' → SB [a] H H' := fun {H'} z => Z4.out z fun b hb => by
    subst ep
    simp [Pl.mp] at hb
    rcases hb with rfl | rfl | rfl | rfl | rfl
    · exact .inl (by simp)
    · exact .inr f1
    · exact .inr f2
    · exact .inr f3
    · exact .inr f4
  have ep1 : p.a = a := by rw [ep]
  have ep2 : p.ws = ws := by rw [ep]
  have ep3 : p.e = e := by rw [ep]
  have ep4 : p.aw = aw := by rw [ep]
  have ep5 : p.ab = l1 := by rw [ep]
  have ep6 : p.ae = l2 := by rw [ep]
  have ep7 : p.M = l1 :: l2 :: l3 :: l4 :: M := by rw [ep]
  have nl1 : l1 ∉ M := hM.new f1
  have nl2 : l2 ∉ M := hM.new f2
  clear hR4 hR3 hR2 hR1 ep k1 k2 k3 k4 k12 k13 k14 k23 k24 k34 s1 s2 s3 s4 z1 z2 z3 z4 Z1 Z2 Z3 m1 m2 m3 m4 m12 m13 m14 m23 m24 m34 ha1 ha2 ha3 hw1 hw2 hw3 hws1 hws2 hws3
  subst ep1 ep2 ep3 ep4
  refine if_take T rfl hp4 eshort.symm fun H5 i1 z5 hp5 hd5 hi1 hi1l hbw5 => ?_
  have hbR : barR p.e (p.ws.drop i) = match Sx62.piecesFrom p.e ((p.ws.drop i).length + 1) 0 [] (p.ws.drop i1) with
      | .error x => .error x
      | .ok x => .ok (⟨x.2.1, short, x.1⟩, x.2.2) := by
    unfold barR
    rw [← hd5]
    have : (lookT (p.ws.drop i) == Sx62.SHORT) = short := by
      rw [← eshort, Bool.eq_iff_iff]
      simp
    rw [this]
  generalize hRR : Sx62.piecesFrom p.e ((p.ws.drop i).length + 1) 0 [] (p.ws.drop i1) = R at hbR
  refine ⟨BrW K A p short i1 R H4, ⟨_, i1, _, [], rfl, rfl, hp5, trivial, z5, hbw5, Nat.zero_le _, Nat.le_refl _, hRR.symm, by rw [List.length_drop]; omega⟩, ?_⟩
  rintro m σ H6 ⟨j, f, acc, rfl, rfl, hp6, hacc, z6, hbl, hel, hlen, hRf, hf⟩
  obtain ⟨dx6, _, ha6, _⟩ := hp6.rd.at_
  have hF := acc_facts short hacc
  obtain ⟨y0, m0, em⟩ : ∃ y0 m0, (stOf short acc).mr.reverse = y0 :: m0 := by
    cases e : (stOf short acc).mr.reverse with
    | nil =>
      have := congrArg List.length e
      rw [List.length_reverse, hF.len] at this
      cases this
    | cons y0 m0 => exact ⟨y0, m0, rfl⟩
  have hm6 := hp6.hm
  rw [em] at hm6
  have hml : ((y0 :: m0).map natV).length = (stOf short acc).st.length + 1 := by
    rw [← em, List.length_map, List.length_reverse, hF.len]
  refine ans_or2 (b1 := !decide (lookT (p.ws.drop j) = [124])) (b2 := decide (1 < (stOf short acc).st.length + 1) || decide (y0 = 0)) (fun Q q => ?_) (fun Q q => ans_or2 (b1 := decide (1 < (stOf short acc).st.length + 1)) (b2 := decide (y0 = 0)) (fun Q q => ?_) (fun Q q => ?_) Q q) _ (iteB (fun hb => ?_) (fun hb => ?_))
  · refine ⟨_, rfl, p.a, dx6, _, rfl, ha6, l_Reader_look, _, rfl, p.a, p.aw, p.ws, j, p.e, _, _, _, _, rfl, hp6.rd, hp6.il, rfl, _, rfl, ?_⟩
    rw [bar_S, decS]
    exact q
  · refine ⟨_, rfl, p.a, _, dx6, _, _, rfl, ha6, T.cl_Reader, T.n_Reader_many, l_Reader_many, p.am, _, rfl, .inl (SqL.of hm6), _, _, rfl, rfl, _, rfl, ?_⟩
    rw [hml]
    have e : decide ((1 : Int) < (((stOf short acc).st.length + 1 : Nat) : Int)) = decide (1 < (stOf short acc).st.length + 1) := by
      rw [Bool.eq_iff_iff, decide_eq_true_eq, decide_eq_true_eq]; omega
    rw [e]
    exact q
  · refine ⟨_, rfl, p.a, _, dx6, _, _, rfl, ha6, T.cl_Reader, T.n_Reader_many, l_Reader_many, p.am, _, 0, _, rfl, rfl, SqL.of hm6, at0 _ _, rfl, _, rfl, ?_⟩
    show Q (decide (V.int (y0 : Int) = V.int 0)) H6
    rw [decN (j := 0) (k := 0) rfl]
    exact q
  · -- one more piece
    have hnot : ∀ w l, p.ws.drop j = w :: l → w.text = [124] → (stOf short acc).st.length = 0 → acc ≠ [] → False := fun w l h1 h2 h3 h4 => by
      have e1 : decide (lookT (p.ws.drop j) = [124]) = true := by rw [h1]; exact decide_eq_true h2
      have hst0 : (stOf short acc).st = [] := List.length_eq_zero_iff.mp h3
      obtain ⟨x, r, emr, htop⟩ := hF.top
      have hr : r = [] := by
        have := hF.len
        rw [emr, h3] at this
        exact List.length_eq_zero_iff.mp (by simpa using this)
      rw [emr, hr] at em
      have ey : x = y0 := by
        have := (List.cons.inj em).1
        exact this
      have hx := htop.mpr ⟨h4, hF.flat hst0⟩
      rw [e1, h3] at hb
      simp at hb
      omega
    obtain ⟨f', rfl⟩ : ∃ f', f = f' + 1 := ⟨f - 1, by omega⟩
    have hstep := pieces_step (e := p.e) (f := f') (d := (stOf short acc).st.length) (acc := acc) (r := p.ws.drop j) hnot
    refine ⟨fun σ' H' => ∃ m', m' < p.ws.length - j ∧ BrW K A p short i1 R H4 m' σ' H', fun _ _ h => h, ?_⟩
    refine ⟨_, rfl, p.a, dx6, _, rfl, ha6, l_Reader_piece_word, _, rfl, p, j, short, acc, rfl, hp6, hacc, hbl, hel, fun x hx => ?_, fun y j' hy hyd hj'l hjj hacc' hyd2 hbl' hel' H7 z7 hp7 => ?_⟩
    · rw [hx] at hstep
      rw [hRf.trans hstep] at hbR
      exact fun d H' s2 hd => hE x hbR d H' (out (z6.trans s2)) hd
    · rw [hy] at hstep
      simp only at hstep
      rw [hyd, hyd2] at hstep
      have hl := stepR_len hy
      exact ⟨p.ws.length - j', by omega, j', f', y.1, rfl, rfl, hp7, hacc', z6.trans z7, hbl', hel', by omega, hRf.trans hstep, by omega⟩
  · -- its end
    have h3 : lookT (p.ws.drop j) = [124] ∧ (stOf short acc).st.length = 0 ∧ y0 ≠ 0 := by
      obtain ⟨b1, b2⟩ := Bool.or_eq_false_iff.mp hb
      obtain ⟨b2, b3⟩ := Bool.or_eq_false_iff.mp b2
      have b2 := of_decide_eq_false b2
      exact ⟨by simpa using b1, by omega, of_decide_eq_false b3⟩
    obtain ⟨h124, hst0, hy0⟩ := h3
    obtain ⟨w0, l, hdr⟩ : ∃ w0 l, p.ws.drop j = w0 :: l := by
      cases hd : p.ws.drop j with
      | nil => rw [hd] at h124; cases h124
      | cons w0 l => exact ⟨w0, l, rfl⟩
    have ew : w0.text = [124] := by rw [hdr] at h124; exact h124
    have jlt : j < p.ws.length := look_lt (by rw [h124]; simp)
    have hacc0 : acc ≠ [] := fun z => by
      subst z
      have : (stOf short []).mr.reverse = [0] := rfl
      rw [this] at em
      exact hy0 (List.cons.inj em).1.symm
    obtain ⟨f', rfl⟩ : ∃ f', f = f' + 1 := ⟨f - 1, by omega⟩
    have hend := pieces_end (e := p.e) (f := f') (d := 0) (acc := acc) (w := w0) (l := l) ew rfl hacc0
    have hl : l = p.ws.drop (j + 1) := by
      have := drop_lt (ws := p.ws) (i := j) (x := w0) (by rw [← List.head?_drop, hdr]; rfl)
      rw [hdr] at this
      exact (List.cons.inj this).2
    rw [hst0, hdr] at hRf
    rw [hRf.trans hend] at hbR
    simp only at hbR
    refine ⟨_, rfl, p.a, dx6, _, rfl, ha6, l_Reader_here, _, rfl, p.a, p.aw, p.ws, j, p.e, _, _, _, _, rfl, hp6.rd, hp6.il, ?_⟩
    have wl := hp6.ok.wo.len
    refine app_take T rfl hp6 jlt (by omega) fun H7 z7 hp7 => ?_
    obtain ⟨dx7, _, ha7, _⟩ := hp7.rd.at_
    rw [hdr]
    refine ⟨_, rfl, p.a, _, dx7, _, _, rfl, ha7, T.cl_Reader, T.n_Reader_bar_words, l_Reader_bar_words, ?_⟩
    refine ⟨_, rfl, p.a, _, dx7, _, _, rfl, ha7, T.cl_Reader, T.n_Reader_events, l_Reader_events, _, rfl, _, rfl, fun q dq nq nd ne => ?_⟩
    refine ⟨_, _, _, _, _, rfl, q, dq, rfl, upd_same, fun H8 h1 h2 => ⟨rfl, ?_⟩⟩
    obtain ⟨s8, _⟩ := made nq nd ne h2
    have hp8 := hp7.same s8
    rw [hl] at hbR
    refine hq _ (j + 1) hbR jlt ?_ ⟨?_, ?_⟩ _ H8 _ _ _ _ (out ((z6.trans z7).trans (SB.of s8))) hp8.rd ?_
    · show i + acc.reverse.length + 1 ≤ j + 1
      rw [List.length_reverse]; omega
    · show AccOk short acc.reverse.reverse
      rw [List.reverse_reverse]; exact hacc
    · show acc.reverse ≠ []
      intro z
      exact hacc0 (List.reverse_eq_nil_iff.mp z)
    · have nq' : q ∉ M := fun z => by
        have := hp7.mo.new nq
        rw [ep7] at this
        exact this (by simp [z])
      obtain ⟨es, he, hes⟩ := hp8.he
      rw [ep7] at hes
      refine ⟨q, dq, p.ab, p.ae, es, rfl, by rw [hid_out nq']; exact h1, ?_, ?_, ?_⟩
      · rw [ep5, hid_out nl1, ← ep5, hp8.hb, bar_words]
        show _ = some (HO.lst (((stOf short acc.reverse.reverse).bw ++ [[124]]).map strV))
        rw [List.reverse_reverse, h124]
      · rw [ep6, hid_out nl2, ← ep6, he]
      · rw [bar_notes]
        show Paired _ es (stOf short acc.reverse.reverse).evs
        rw [List.reverse_reverse]
        exact pairedMono (fun _ _ h => h.mono (hid_less (by intro b hb; simp [hb]))) hes
end
end Sc

set_option Elab.async false
set_option linter.all false
set_option maxRecDepth 100000
set_option maxHeartbeats 4000000
/-! # voices -/
namespace Sc
open PySem PySem.Spec PyProof.Rows L2 Pf
open Sx62 (Frac Pitch Word Timed Piece)
/-! ### plain -/
theorem bars_end {e f : Nat} {acc : List Sx62.Bar} {r : List Word} (h : lookT r = Sx62.END) (ha : acc ≠ []) : Sx62.barsFrom e (f + 1) acc r = .ok (acc.reverse, hereP e r, r.drop 1) := by
  cases r with
  | nil => cases h
  | cons w l =>
    have h : w.text = Sx62.END := h
    unfold Sx62.barsFrom
    rw [if_pos h, if_neg ha]
    rfl
theorem bars_step {e f : Nat} {acc : List Sx62.Bar} {r : List Word} (h : lookT r = Sx62.END → acc = []) : Sx62.barsFrom e (f + 1) acc r = match barR e r with
    | .error x => .error x
    | .ok y => Sx62.barsFrom e f (y.1 :: acc) y.2 := by
  cases r with
  | nil => rfl
  | cons w l =>
    conv => lhs; unfold Sx62.barsFrom
    by_cases h1 : w.text = Sx62.END
    · rw [if_pos h1, if_pos (h h1)]
      have e1 : barR e (w :: l) = Sx62.bad w.place := by
        unfold barR
        have e0 : lookT (w :: l) = Sx62.END := h1
        rw [e0, if_neg (by decide)]
        have e2 : Sx62.piecesFrom e ((w :: l).length + 1) 0 [] (w :: l) = Sx62.bad w.place := by
          rw [pieces_step (fun w' l' h2 h3 _ _ => by
            cases h2
            rw [h1] at h3
            exact absurd h3 (by decide))]
          have e3 : stepR e 0 [] (w :: l) = Sx62.bad w.place := by
            refine step_bad ?_ ?_ ?_ ?_ ?_
            · rw [e0]; rfl
            · rw [e0]; decide
            · rw [e0]; decide
            · rw [e0]; rfl
            · rw [e0]; rfl
          rw [e3]
          rfl
        rw [e2]
        rfl
      rw [e1]
      rfl
    · rw [if_neg h1]
      unfold barR
      show (match Sx62.piecesFrom e ((w :: l).length + 1) 0 [] (if w.text = Sx62.SHORT then l else w :: l) with
        | .error x => _
        | .ok x => _) = _
      have e4 : (if lookT (w :: l) = Sx62.SHORT then (w :: l).drop 1 else w :: l) = (if w.text = Sx62.SHORT then l else w :: l) := rfl
      rw [e4]
      cases Sx62.piecesFrom e ((w :: l).length + 1) 0 [] (if w.text = Sx62.SHORT then l else w :: l) <;> rfl
def voiceR (e : Nat) (acc : List Sx62.Voice) (r : List Word) : Sx62.R (Sx62.Voice × List Word) :=
  if lookT r ≠ Sx62.VOICE then Sx62.bad (hereP e r) else if Sx62.isName (lookT (r.drop 1)) = false then Sx62.bad (hereP e (r.drop 1)) else if Sx62.VOICES ≤ acc.length ∨ (acc.any fun v => v.name == lookT (r.drop 1)) = true then .error ⟨4, hereP e (r.drop 1)⟩ else
    match Sx62.barsFrom e (((r.drop 1).drop 1).length + 1) [] ((r.drop 1).drop 1) with
    | .error x => .error x
    | .ok x => .ok (⟨lookT (r.drop 1), x.1, x.2.1⟩, x.2.2)
theorem voices_end {e f : Nat} {acc : List Sx62.Voice} (h : acc ≠ []) : Sx62.voicesFrom e (f + 1) acc [] = .ok acc.reverse := by
  unfold Sx62.voicesFrom
  rw [if_neg h]
theorem voices_step {e f : Nat} {acc : List Sx62.Voice} {r : List Word} (h : r = [] → acc = []) : Sx62.voicesFrom e (f + 1) acc r = match voiceR e acc r with
    | .error x => .error x
    | .ok y => Sx62.voicesFrom e f (y.1 :: acc) y.2 := by
  cases r with
  | nil =>
    conv => lhs; unfold Sx62.voicesFrom
    rw [if_pos (h rfl)]
    rfl
  | cons w l =>
    conv => lhs; unfold Sx62.voicesFrom
    unfold voiceR
    have e0 : lookT (w :: l) = w.text := rfl
    rw [e0]
    by_cases h1 : w.text ≠ Sx62.VOICE
    · rw [if_pos h1, if_pos h1]
      rfl
    · rw [if_neg h1, if_neg h1]
      cases l with
      | nil => rfl
      | cons n l =>
        show (if Sx62.isName n.text = false then _ else _) = _
        have e1 : (w :: n :: l).drop 1 = n :: l := rfl
        have e2 : (n :: l).drop 1 = l := rfl
        have e3 : lookT (n :: l) = n.text := rfl
        rw [e1, e2, e3]
        by_cases h2 : Sx62.isName n.text = false
        · rw [if_pos h2, if_pos h2]
          rfl
        · rw [if_neg h2, if_neg h2]
          by_cases h3 : Sx62.VOICES ≤ acc.length ∨ (acc.any fun v => v.name == n.text) = true
          · rw [if_pos h3, if_pos h3]
            rfl
          · rw [if_neg h3, if_neg h3]
            cases Sx62.barsFrom e (l.length + 1) [] l <;> rfl
def barsSize (bs : List Sx62.Bar) : Nat := (bs.map fun b => b.pieces.length + 1).sum
theorem barsSize_cons (b : Sx62.Bar) (bs : List Sx62.Bar) : barsSize (b :: bs) = b.pieces.length + 1 + barsSize bs := by
  unfold barsSize; rw [List.map_cons, List.sum_cons]
theorem barsSize_rev (bs : List Sx62.Bar) : barsSize bs.reverse = barsSize bs := by
  unfold barsSize
  rw [List.map_reverse, List.sum_reverse]
theorem bars_le (bs : List Sx62.Bar) : bs.length ≤ barsSize bs := by
  induction bs with
  | nil => exact Nat.zero_le _
  | cons b bs ih => rw [barsSize_cons, List.length_cons]; omega
structure VoiceOk (v : Sx62.Voice) : Prop where
  bars : ∀ b ∈ v.bars, BarOk b
  ne : v.bars ≠ []
  name : Sx62.isName v.name = true
theorem voice_S : Str.ofString "voice" = S Sx62.VOICE := by decide +kernel
theorem end_S : Str.ofString "end" = S Sx62.END := by decide +kernel
theorem names_in (ns : List (List Nat)) (x : List Nat) : inV (.str (S x)) (ns.map strV) = ns.contains x := by
  unfold inV
  rw [List.any_map, Bool.eq_iff_iff]
  simp only [List.any_eq_true, Function.comp_apply, strV, eqV, strBeq, decide_eq_true_eq, List.contains_eq_mem]
  exact ⟨fun ⟨y, h, e⟩ => e ▸ h, fun h => ⟨x, h, rfl⟩⟩
theorem names_flat (ns : List (List Nat)) : (ns.map strV).all flatV = true := by
  rw [List.all_map, List.all_eq_true]
  intro x _
  rfl
theorem hid_new {M : List Addr} {H : Hp} {x : Addr} {o : HO} (h : H x = none) : Same (hid M H) (hid (x :: M) (upd H x o)) := fun b u e => by
  by_cases hM : b ∈ M
  · rw [hid_in hM] at e; cases e
  · rw [hid_out hM] at e
    have hne := ne_of_none e h
    rw [hid_out (by
      intro z
      rcases List.mem_cons.mp z with z | z
      · exact hne z
      · exact hM z), upd_ne hne]
    exact e
section
variable {P : Program} {w : World} {K : PySem.W.Frag} {mg : Str → Option Value} {base : Heap} {A : Ad}
theorem sc_Reader_voice : FnScope ["self", "names", "name", "bars", "place"] ["self", "names"] (defScope s_Reader_voice) := ⟨rfl, rfl, rfl, by decide +kernel, rfl, by decide +kernel, by decide +kernel⟩
theorem sc_Reader_score : FnScope ["self", "whole", "metre", "key", "voices", "voice"] ["self"] (defScope s_Reader_score) := ⟨rfl, rfl, rfl, by decide +kernel, rfl, by decide +kernel, by decide +kernel⟩
def VoiceA (K : PySem.W.Frag) (A : Ad) (G : Hp) (u : V) (v : Sx62.Voice) : Prop := ∃ x dx lb bs, u = .ref x ∧ G x = some (.ins A.C_Voice dx (F_Voice (strV v.name) (.ref lb) (.int (v.place : Int)))) ∧ G lb = some (.lst bs) ∧ Paired (BarA K A G) bs v.bars
theorem VoiceA.mono {G G' : Hp} {u : V} {v : Sx62.Voice} (s : Same G G') (h : VoiceA K A G u v) : VoiceA K A G' u v := by
  obtain ⟨x, dx, lb, bs, rfl, h1, h2, h3⟩ := h
  exact ⟨x, dx, lb, bs, rfl, s _ _ h1, s _ _ h2, pairedMono (fun _ _ h => h.mono s) h3⟩
def sp_Reader_voice (K : PySem.W.Frag) (A : Ad) : Sp := sp2 fun x y H Q E => ∃ (a aw : Addr) (ws : List Word) (i e : Nat) (M : List Addr) (x1 x2 x3 x4 : V) (ln : Addr) (acc : List Sx62.Voice), x = .ref a ∧ y = .ref ln ∧ H ln = some (.lst (acc.reverse.map fun v => strV v.name)) ∧ ln ≠ a ∧
  RdA K A H a aw ws i e x1 x2 x3 x4 ∧ i ≤ ws.length ∧ WsOk ws ∧ a ∈ M ∧ MOk M H ∧
  (∀ x, voiceR e acc (ws.drop i) = .error x → RaiseF A E [a] H x.kind x.place) ∧
  (∀ v j, voiceR e acc (ws.drop i) = .ok (v, ws.drop j) → j ≤ ws.length → i + barsSize v.bars + 3 ≤ j → acc.length < 4 → VoiceOk v → ∀ u H' y1 y2 y3 y4, SB [a] H H' → RdA K A H' a aw ws j e y1 y2 y3 y4 → VoiceA K A (hid M H') u v → Q u H')
/-- within a voice -/
def VcW (K : PySem.W.Frag) (A : Ad) (a aw L ln : Addr) (ws : List Word) (e : Nat) (M : List Addr) (name : List Nat) (i2 : Nat) (R : Sx62.R (List Sx62.Bar × Nat × List Word)) (H0 : Hp) (m : Nat) (σ : L2.St) (H : Hp) : Prop := ∃ (j f : Nat) (acc : List Sx62.Bar) (bs : List V) (y1 y2 y3 y4 : V),
  m = ws.length - j ∧ σ = [some (.ref a), some (.ref ln), some (strV name), some (.ref L), none] ∧ RdA K A H a aw ws j e y1 y2 y3 y4 ∧ SB [a] H0 H ∧ MOk (L :: M) H ∧ H L = some (.lst bs) ∧ Paired (BarA K A (hid (L :: M) H)) bs acc.reverse ∧ (∀ b ∈ acc, BarOk b) ∧ acc ≠ [] ∧
  i2 + barsSize acc ≤ j ∧ j ≤ ws.length ∧ R = Sx62.barsFrom e f acc (ws.drop j) ∧ ws.length - j < f
theorem ok_Reader_voice (T : Txt K mg A) : FnOk P w K mg base (L2N.CX P w) 8 A.a_Reader_voice A.d_Reader_voice ["self", "names"] (sp_Reader_voice K A) := by
  have G_Reader_bar := ok_Reader_bar (P := P) (w := w) (base := base) T
  have G_Reader_here := ok_Reader_here (P := P) (w := w) (base := base) T
  have G_Reader_look := ok_Reader_look (P := P) (w := w) (base := base) T
  have G_Reader_take := ok_Reader_take (P := P) (w := w) (base := base) T
  have G_Reader_take_word := ok_Reader_take_word (P := P) (w := w) (base := base) T
  have G_Reader_want := ok_Reader_want (P := P) (w := w) (base := base) T
  have G_Voice_init := ok_Voice_init (P := P) (w := w) (base := base) T
  have G_is_name := ok_is_name (P := P) (w := w) (base := base) T
  refine okN T.F_Reader_voice sc_Reader_voice (sp2_len) (fun cdv Ar outer s H vs Q E hr h tk => ?_)
  refine ⟨_, (pss_cons (ps_expr (pe_meth (pv 0) T.cl_Reader T.m_Reader_take_word G_Reader_take_word (hr.mono (by decide)) T.b_Reader_take_word .nil (L2N.passes_call tk fun _ _ _ _ h => h) (pa_cons pe_str pa_nil)))
      (pss_cons (ps_expr (pe_meth (pv 0) T.cl_Reader T.m_Reader_want G_Reader_want (hr.mono (by decide)) T.b_Reader_want .nil (L2N.passes_call tk fun _ _ _ _ h => h) (pa_cons (pe_call G_is_name (hr.mono (by decide)) rfl T.g_is_name T.F_is_name.kp T.b_is_name .nil pass0 (pa_cons (pe_meth0 (pv 0) T.cl_Reader T.m_Reader_look G_Reader_look (hr.mono (by decide)) T.b_Reader_look .nil pass0) pa_nil)) (pa_cons (pe_gI T.c_BAD_WORD) pa_nil))))
      (pss_cons (ps_expr (pe_meth (pv 0) T.cl_Reader T.m_Reader_want G_Reader_want (hr.mono (by decide)) T.b_Reader_want .nil (L2N.passes_call tk fun _ _ _ _ h => h) (pa_cons (pe_and (pe_cmpR op_notIn_seq (pe_meth0 (pv 0) T.cl_Reader T.m_Reader_look G_Reader_look (hr.mono (by decide)) T.b_Reader_look .nil pass0) (pv 1) rfl) (pe_one (pe_cmpR op_lt (pe_callB call_len_seq (by rfl) T.z_len PySem.boot_len (pa_cons (pv 1) pa_nil)) (pe_gI T.c_MOST_VOICES) (nomark _)))) (pa_cons (pe_gI T.c_BAD_NAME) pa_nil))))
      (pss_cons (ps_set (i := 2) sc_Reader_voice.nd rfl (Or.inl rfl) (pe_meth0 (pv 0) T.cl_Reader T.m_Reader_take G_Reader_take (hr.mono (by decide)) T.b_Reader_take .nil pass0))
      (pss_cons (ps_set (i := 3) sc_Reader_voice.nd rfl (Or.inl rfl) (pe_lst (pa_cons (pe_meth0 (pv 0) T.cl_Reader T.m_Reader_bar G_Reader_bar (hr.mono (by decide)) T.b_Reader_bar .nil (L2N.passes_call tk fun _ _ _ _ h => h)) pa_nil)))
      (pss_cons (ps_while (passes_of rfl) (pt_cmpR op_ne (pe_meth0 (pv 0) T.cl_Reader T.m_Reader_look G_Reader_look (hr.mono (by decide)) T.b_Reader_look .nil pass0) pe_str (nomark _)) (pss_one (ps_expr (pe_bm PySem.F.plainAttrs_list PySem.F.slot_list_append PySem.F.type_list_append mt_append (pv 3) (pa_cons (pe_meth0 (pv 0) T.cl_Reader T.m_Reader_bar G_Reader_bar (hr.mono (by decide)) T.b_Reader_bar .nil (L2N.passes_call tk fun _ _ _ _ h => h)) pa_nil)))))
      (pss_cons (ps_set (i := 4) sc_Reader_voice.nd rfl (Or.inl rfl) (pe_meth0 (pv 0) T.cl_Reader T.m_Reader_here G_Reader_here (hr.mono (by decide)) T.b_Reader_here .nil pass0))
      (pss_cons (ps_expr (pe_meth0 (pv 0) T.cl_Reader T.m_Reader_take G_Reader_take (hr.mono (by decide)) T.b_Reader_take .nil pass0))
      (pss_one (ps_ret (pe_make T.M_Voice G_Voice_init (hr.mono (by decide)) rfl T.g_Voice T.b_Voice_init .nil pass0 (pa_cons (pv 2) (pa_cons (pv 3) (pa_cons (pv 4) pa_nil)))))))))))))), ?_⟩
  obtain ⟨x, y, rfl, a, aw, ws, i, e, M, x1, x2, x3, x4, ln, acc, rfl, rfl, hln, nla, hR, hi, hW, haM, hM, hE, hq⟩ := h
  obtain ⟨dx, vs, ha, hw, hws⟩ := id hR.at_
  have haw : aw ≠ a := ne_of hw ha (by intro z; cases z)
  refine ⟨_, rfl, a, dx, _, rfl, ha, l_Reader_take_word, ?_⟩
  refine ⟨_, _, rfl, a, aw, ws, i, e, _, _, _, _, Sx62.VOICE, rfl, by rw [← voice_S], hR, hi, fun hv H1 s1 k1 hR1 => ?_, fun hv => ?_⟩
  rotate_left
  · have : voiceR e acc (ws.drop i) = Sx62.bad (hereP e (ws.drop i)) := by unfold voiceR; rw [if_pos hv]
    exact (hE _ this).less (SB.refl [a] H) fun _ h => h
  have hi1 : i < ws.length := look_lt (by rw [hv]; decide)
  have hd1 : (ws.drop i).drop 1 = ws.drop (i + 1) := List.drop_drop ..
  have tl := look_len hW (i + 1)
  have ha1 := hR1.at_
  obtain ⟨dx1, _, ha1, _⟩ := ha1
  have hvR : voiceR e acc (ws.drop i) = if Sx62.isName (lookT (ws.drop (i + 1))) = false then Sx62.bad (hereP e (ws.drop (i + 1))) else if Sx62.VOICES ≤ acc.length ∨ (acc.any fun v => v.name == lookT (ws.drop (i + 1))) = true then .error ⟨4, hereP e (ws.drop (i + 1))⟩ else
      match Sx62.barsFrom e ((ws.drop (i + 1 + 1)).length + 1) [] (ws.drop (i + 1 + 1)) with
      | .error x => .error x
      | .ok x => .ok (⟨lookT (ws.drop (i + 1)), x.1, x.2.1⟩, x.2.2) := by
    unfold voiceR
    rw [if_neg (by simpa using hv), hd1, List.drop_drop]
  obtain ⟨name, ename⟩ : ∃ n, lookT (ws.drop (i + 1)) = n := ⟨_, rfl⟩
  rw [ename] at hvR tl
  refine ⟨_, rfl, a, dx1, _, rfl, ha1, l_Reader_want, ?_⟩
  refine ⟨_, rfl, a, dx1, _, rfl, ha1, l_Reader_look, _, rfl, a, aw, ws, i + 1, e, _, _, _, _, rfl, hR1, hi1, ?_⟩
  rw [ename]
  refine ⟨_, rfl, name, rfl, tl, fun H2 s2 => ?_⟩
  have hR2 := hR1.same s2
  have ha2 := s2 _ _ ha1
  have z2 : SB [a] H H2 := s1.trans (SB.of s2)
  refine ⟨_, _, _, rfl, a, aw, ws, i + 1, e, _, _, _, _, Sx62.isName name, 2, rfl, rfl, rfl, hR2, hi1, fun hn => ?_, fun hn => ?_⟩
  rotate_left
  · rw [if_pos hn] at hvR
    exact (hE _ hvR).less z2 fun _ h => h
  rw [if_neg (by rw [hn]; decide)] at hvR
  have hi2 : i + 1 < ws.length := look_lt (by rw [ename]; intro z; rw [z] at hn; cases hn)
  have hln2 : H2 ln = some (.lst (acc.reverse.map fun v => strV v.name)) := z2.at hln (by simpa using nla)
  have hmap : (acc.reverse.map fun v => strV v.name) = (acc.reverse.map fun v => v.name).map strV := by rw [List.map_map]; rfl
  rw [hmap] at hln2
  refine ⟨_, rfl, a, dx1, _, rfl, ha2, l_Reader_want, ?_⟩
  refine ⟨_, rfl, a, dx1, _, rfl, ha2, l_Reader_look, _, rfl, a, aw, ws, i + 1, e, _, _, _, _, rfl, hR2, hi1, ?_⟩
  rw [ename]
  have hany : (acc.any fun v => v.name == name) = (acc.reverse.map fun v => v.name).contains name := by
    rw [Bool.eq_iff_iff]
    simp only [List.any_eq_true, beq_iff_eq, List.contains_eq_mem, decide_eq_true_eq, List.mem_map, List.mem_reverse]
  have badN : (Sx62.VOICES ≤ acc.length ∨ (acc.any fun v => v.name == name) = true) → RaiseF A E [] H2 4 (hereP e (ws.drop (i + 1))) := fun h => by
    rw [if_pos h] at hvR
    exact (hE _ hvR).less z2 fun _ h => h
  refine ⟨_, rfl, ln, _, rfl, .inl (SqL.of hln2), rfl, names_flat _, !(acc.any fun v => v.name == name), by rw [hany, ← names_in]; rfl, ?_⟩
  cases hc : (acc.any fun v => v.name == name) with
  | true =>
    refine ite_f rfl ?_
    exact ⟨_, _, _, rfl, a, aw, ws, i + 1, e, _, _, _, _, false, 4, rfl, rfl, rfl, hR2, hi1, (fun z => nomatch z), fun _ => badN (.inr hc)⟩
  | false =>
  refine ite_t rfl ?_
  refine ⟨_, rfl, ln, _, rfl, .inl (SqL.of hln2), _, _, rfl, rfl, ?_⟩
  refine ⟨_, _, _, rfl, a, aw, ws, i + 1, e, _, _, _, _, decide (acc.length < 4), 4, rfl, ?_, rfl, hR2, hi1, fun h4 => ?_, fun h4 => ?_⟩
  · rw [List.length_map, List.length_map, List.length_reverse]
    show V.bl (decide ((acc.length : Int) < 4)) = _
    congr 1
    rw [Bool.eq_iff_iff, decide_eq_true_eq, decide_eq_true_eq]; omega
  rotate_left
  · exact badN (.inl (Nat.le_of_not_lt (of_decide_eq_false h4)))
  have h4 : acc.length < 4 := of_decide_eq_true h4
  rw [if_neg (by rw [hc]; intro z; rcases z with z | z; exact absurd h4 (Nat.not_lt_of_le z); cases z)] at hvR
  -- name
  refine ⟨_, rfl, a, dx1, _, rfl, ha2, l_Reader_take, _, rfl, a, aw, ws, i + 1, e, _, _, _, _, rfl, hR2, hi1, fun H3 s3 k3 hR3 => ?_⟩
  rw [ename]
  have z3 := z2.trans s3
  obtain ⟨dx3, _, ha3, _⟩ := hR3.at_
  generalize hRR : Sx62.barsFrom e ((ws.drop (i + 1 + 1)).length + 1) [] (ws.drop (i + 1 + 1)) = R at hvR
  have hfirst := bars_step (e := e) (f := (ws.drop (i + 1 + 1)).length) (acc := []) (r := ws.drop (i + 1 + 1)) (fun _ => rfl)
  rw [hRR] at hfirst
  have hM3 : MOk M H3 := hM.sb z3
  refine ⟨_, rfl, a, dx3, _, rfl, ha3, l_Reader_bar, _, rfl, a, aw, ws, i + 1 + 1, e, M, _, _, _, _, rfl, hR3, hi2, hW, haM, hM3, fun x hx => ?_, fun b j hbj hjl hij hbok v1 H4 y1 y2 y3 y4 s4 hR4 hB4 => ?_⟩
  · rw [hx] at hfirst
    rw [hfirst] at hvR
    exact (hE _ hvR).back z3 fun _ h => h
  rw [hbj] at hfirst
  refine ⟨by show 1 ≤ sizeLine; decide, fun L nL => ?_⟩
  have z4 := z3.trans s4
  have nL0 : H L = none := z4.free nL
  have nLM : L ∉ M := (hM.sb z4).new nL
  have ha4 := hR4.at_
  obtain ⟨dx4, _, ha4, hw4, _⟩ := ha4
  have nLa : L ≠ a := Ne.symm (ne_of_none ha4 nL)
  have nLw : aw ≠ L := ne_of_none hw4 nL
  refine ⟨VcW K A a aw L ln ws e M name (i + 1 + 1) R H, ⟨_, j, _, [b], [v1], y1, y2, y3, y4, rfl, rfl, hR4.same (same_new nL), z4.trans (SB.of (same_new nL)), ?_, upd_same, .cons (hB4.mono (hid_new nL)) .nil, ?_, by simp, ?_, hjl, hfirst, ?_⟩, ?_⟩
  · intro q hq'
    rcases List.mem_cons.mp hq' with hq' | hq'
    · subst hq'; exact ⟨_, upd_same, trivial⟩
    · exact (hM.sb z4).sb (SB.of (M := []) (same_new nL)) q hq'
  · intro b' hb'
    rw [List.mem_singleton] at hb'
    rw [hb']; exact hbok
  · rw [barsSize_cons]
    show i + 1 + 1 + (b.pieces.length + 1 + 0) ≤ j
    omega
  · rw [List.length_drop]; omega
  rintro m σ H5 ⟨j, f, bacc, bs, y1, y2, y3, y4, rfl, rfl, hR5, z5, hM5, hL5, hbs, hbsok, hne, hsz, hjl, hRf, hf⟩
  have ha5 := hR5.at_
  obtain ⟨dx5, _, ha5, hw5, _⟩ := ha5
  obtain ⟨f', rfl⟩ : ∃ f', f = f' + 1 := ⟨f - 1, by omega⟩
  refine ⟨_, rfl, a, dx5, _, rfl, ha5, l_Reader_look, _, rfl, a, aw, ws, j, e, _, _, _, _, rfl, hR5, hjl, rfl, _, rfl, ?_⟩
  rw [end_S, decS]
  have lbs : bs.length = bacc.length := by rw [Paired.length hbs, List.length_reverse]
  have hble := bars_le bacc
  have hwl := hW.len
  refine iteB (fun hb => ?_) (fun hb => ?_)
  · have nend : lookT (ws.drop j) ≠ Sx62.END := by simpa using hb
    have hstep := bars_step (e := e) (f := f') (acc := bacc) (r := ws.drop j) (fun z => absurd z nend)
    refine ⟨fun σ' H' => ∃ m', m' < ws.length - j ∧ VcW K A a aw L ln ws e M name (i + 1 + 1) R H m' σ' H', fun _ _ h => h, ?_⟩
    refine ⟨_, rfl, .inl ⟨rfl, _, SqL.of hL5⟩, _, rfl, a, dx5, _, rfl, ha5, l_Reader_bar, _, rfl, a, aw, ws, j, e, L :: M, _, _, _, _, rfl, hR5, hjl, hW, List.mem_cons_of_mem _ haM, hM5, fun x hx => ?_, fun b j' hbj hjl' hij hbok v6 H6 y1 y2 y3 y4 s6 hR6 hB6 => ?_⟩
    · rw [hx] at hstep
      rw [hRf.trans hstep] at hvR
      exact (hE _ hvR).back z5 fun _ h => h
    · rw [hbj] at hstep
      have hL6 := s6.at hL5 (by simpa using nLa)
      refine ⟨L, bs, v6, rfl, rfl, hL6, by rw [lbs, sizeLine_eq]; omega, ?_⟩
      have su : SB [L] H6 (upd H6 L (.lst (bs ++ [v6]))) := SB.upd hL6 trivial trivial (by simp)
      have hR6' := hR6.updL (ys := bs ++ [v6]) hL6 nLw
      refine ⟨ws.length - j', by omega, j', f', b :: bacc, bs ++ [v6], y1, y2, y3, y4, rfl, rfl, hR6', ((z5.trans s6).fresh nL0), (hM5.sb s6).sb su, upd_same, ?_, ?_, by simp, ?_, hjl', hRf.trans hstep, by omega⟩
      · rw [List.reverse_cons]
        have sh : Same (hid (L :: M) H6) (hid (L :: M) (upd H6 L (.lst (bs ++ [v6])))) := hid_same (su.mono (by intro b hb; rw [List.mem_singleton] at hb; rw [hb]; exact List.mem_cons_self))
        have sh5 : Same (hid (L :: M) H5) (hid (L :: M) H6) := hid_same (s6.mono (by intro b hb; rw [List.mem_singleton] at hb; rw [hb]; exact List.mem_cons_of_mem _ haM))
        exact pairedApp (pairedMono (fun _ _ h => h.mono (sh5.trans sh)) hbs) (.cons (hB6.mono sh) .nil)
      · intro b' hb'
        rcases List.mem_cons.mp hb' with hb' | hb'
        · rw [hb']; exact hbok
        · exact hbsok b' hb'
      · rw [barsSize_cons]; omega
  · have eend : lookT (ws.drop j) = Sx62.END := by simpa using hb
    have jlt : j < ws.length := look_lt (by rw [eend]; decide)
    have hend := bars_end (e := e) (f := f') (acc := bacc) (r := ws.drop j) eend hne
    rw [hRf.trans hend] at hvR
    simp only at hvR
    rw [List.drop_drop] at hvR
    refine ⟨_, rfl, a, dx5, _, rfl, ha5, l_Reader_here, _, rfl, a, aw, ws, j, e, _, _, _, _, rfl, hR5, hjl, ?_⟩
    refine ⟨_, rfl, a, dx5, _, rfl, ha5, l_Reader_take, _, rfl, a, aw, ws, j, e, _, _, _, _, rfl, hR5, hjl, fun H6 s6 k6 hR6 => ?_⟩
    refine ⟨_, rfl, _, rfl, _, rfl, fun q dq nq nd ne => ?_⟩
    refine ⟨_, _, _, _, rfl, q, dq, rfl, upd_same, fun H8 h1 h2 => ⟨rfl, ?_⟩⟩
    obtain ⟨s8, _⟩ := made nq nd ne h2
    have hM6 := hM5.sb s6
    refine hq _ (j + 1) hvR jlt ?_ h4 ⟨?_, ?_, hn⟩ _ H8 _ _ _ _ ((z5.trans s6).trans (SB.of s8)) (hR6.same s8) ?_
    · show i + barsSize bacc.reverse + 3 ≤ j + 1
      rw [barsSize_rev]; omega
    · intro b hb
      exact hbsok b (List.mem_reverse.mp hb)
    · intro z
      exact hne (List.reverse_eq_nil_iff.mp z)
    · have nq' : q ∉ M := fun z => hM6.new nq (List.mem_cons_of_mem _ z)
      refine ⟨q, dq, L, bs, rfl, by rw [hid_out nq']; exact h1, by rw [hid_out nLM]; exact s8 _ _ (s6.at hL5 (by simpa using nLa)), ?_⟩
      have sh : Same (hid (L :: M) H5) (hid M H8) := (hid_same ((s6.trans (SB.of s8)).mono (by intro b hb; rw [List.mem_singleton] at hb; rw [hb]; exact List.mem_cons_of_mem _ haM))).trans (hid_less (by intro b hb; exact List.mem_cons_of_mem _ hb))
      exact pairedMono (fun _ _ h => h.mono sh) hbs
end
end Sc

set_option Elab.async false
set_option linter.all false
set_option maxRecDepth 100000
set_option maxHeartbeats 4000000
/-! # scores -/
namespace Sc
open PySem PySem.Spec PyProof.Rows L2 Pf
open Sx62 (Frac Pitch Word Timed Piece)
/-! ### rules within a comprehension -/
section
variable {X : Cx} {K : PySem.W.Frag}
theorem pe_fldK {e : Expr} {f : Str} {ta : TE} {pos : Pos} (ek : X.K = K) (he : PE X e ta) (hb : attributeBase e f X.env (eval e X.env) = eval e X.env) : PE X (.Attribute e f pos) (tFld K ta f) := by
  subst ek; exact pe_fld he hb
theorem op_inDK (ek : X.K = K) (hu : X.A.units + 65 < cLine) : OpR X (compareOp .In) (rInD K) := by
  subst ek; exact op_inD hu
theorem op_neNilK (ek : X.K = K) (hu : X.A.units < cLine) : OpR X (compareOp .NotEq) (rNeNil K) := by
  subst ek; exact op_neNil hu
theorem call_list_ofK (ek : X.K = K) : CallR X (.type "list") (fun xs H Q => ∃ p ys, xs = [.ref p] ∧ (SqL K H p ys ∨ SqT K H p ys) ∧ ∀ l, H l = none → Q (.ref l) (upd H l (.lst ys))) := by
  subst ek; exact call_list_of
theorem pe_joinK {o e : Expr} {to te : TE} {apos pos : Pos} (ek : X.K = K) (ho : PE X o to) (he : PE X e te) (hs : starEach [e] X.env = [(false, eval e X.env)] := by rfl) (hbase : attributeBase o "join" X.env (eval o X.env) = eval o X.env := by rfl) (hline : (apos.endLine == pos.line) = true := by rfl) :
    PE X (.Call (.Attribute o "join" apos) [e] [] pos) (tM1 (fun x xs H Q => ∃ a p, ∃ ys : List Str, x = .str a ∧ xs = [.ref p] ∧ (SqL K H p (ys.map V.str) ∨ SqT K H p (ys.map V.str)) ∧
      (ys.map (·.length)).sum + ys.length * a.length ≤ 16777216 ∧ Q (.str (Txt.join a ys)) H) to te) := by
  subst ek; exact pe_join ho he hs hbase hline
end
/-! ### plain -/
theorem parse_eq (e : Nat) (ws : List Word) : Sx62.parse e ws = if lookT ws ≠ Sx62.TIME then Sx62.bad (hereP e ws) else match Sx62.metreOf (lookT (ws.drop 1)) with
    | none => Sx62.bad (hereP e (ws.drop 1))
    | some x => if lookT (ws.drop 2) = Sx62.KEY then (match Sx62.keyOf (lookT (ws.drop 3)) with
        | none => Sx62.bad (hereP e (ws.drop 3))
        | some z => match Sx62.voicesFrom e ((ws.drop 4).length + 1) [] (ws.drop 4) with
          | .error y => .error y
          | .ok v => .ok ⟨x.1, x.2, z, v⟩)
      else match Sx62.voicesFrom e ((ws.drop 2).length + 1) [] (ws.drop 2) with
        | .error y => .error y
        | .ok v => .ok ⟨x.1, x.2, 0, v⟩ := by
  cases ws with
  | nil => rfl
  | cons w l =>
    have e0 : lookT (w :: l) = w.text := rfl
    rw [e0]
    unfold Sx62.parse
    show (if w.text ≠ Sx62.TIME then Sx62.bad w.place else _) = _
    by_cases h1 : w.text ≠ Sx62.TIME
    · rw [if_pos h1, if_pos h1]; rfl
    · rw [if_neg h1, if_neg h1]
      cases l with
      | nil => rfl
      | cons m l =>
        show (match Sx62.metreOf m.text with | none => _ | some x => _) = match Sx62.metreOf m.text with | none => _ | some x => _
        cases Sx62.metreOf m.text with
        | none => rfl
        | some x =>
          simp only
          cases l with
          | nil => rfl
          | cons k r =>
            show (if k.text = Sx62.KEY then _ else _) = if k.text = Sx62.KEY then _ else _
            by_cases h2 : k.text = Sx62.KEY
            · rw [if_pos h2, if_pos h2]
              cases r with
              | nil => rfl
              | cons n r =>
                show (match Sx62.keyOf n.text with | none => _ | some x => _) = match Sx62.keyOf n.text with | none => _ | some x => _
                cases Sx62.keyOf n.text with
                | none => rfl
                | some z => rfl
            · rw [if_neg h2, if_neg h2]
              rfl
def keyText (z : Int) : List Nat := if z = 0 then [] else (if z < 0 then [45] else []) ++ Sx62.dec z.natAbs
theorem key_text {l : List Nat} {z : Int} (h : Sx62.keyOf l = some z) : keyText z = l ∧ z ≠ 0 ∧ z.natAbs ≤ 7 := by
  rw [key_eq] at h
  split at h
  · rename_i l
    cases hn : Sx62.numberOf 1 7 l with
    | none => rw [hn] at h; cases h
    | some n =>
      rw [hn] at h
      have hz : -(n : Int) = z := by simpa using h
      obtain ⟨⟨_, _, _, _, a1, a2⟩, e3⟩ := numberOf_some hn
      have hd := numberOf_dec hn
      have hn0 : z ≠ 0 := by omega
      have hlt : z < 0 := by omega
      have hab : z.natAbs = n := by omega
      refine ⟨?_, hn0, by omega⟩
      unfold keyText
      rw [if_neg hn0, if_pos hlt, hab, hd]
      rfl
  · cases hn : Sx62.numberOf 1 7 l with
    | none => rw [hn] at h; cases h
    | some n =>
      rw [hn] at h
      have hz : (n : Int) = z := by simpa using h
      obtain ⟨⟨_, _, _, _, a1, a2⟩, e3⟩ := numberOf_some hn
      have hd := numberOf_dec hn
      have hn0 : z ≠ 0 := by omega
      have hlt : ¬ z < 0 := by omega
      have hab : z.natAbs = n := by omega
      refine ⟨?_, hn0, by omega⟩
      unfold keyText
      rw [if_neg hn0, if_neg hlt, hab, hd]
      rfl
theorem metre_text {l : List Nat} {b u : Nat} (h : Sx62.metreOf l = some (b, u)) : Sx62.dec b ++ 47 :: Sx62.dec u = l ∧ 1 ≤ b ∧ b ≤ 32 ∧ 1 ≤ u ∧ u ≤ 32 := by
  unfold Sx62.metreOf at h
  split at h
  · cases h
  · rename_i x hx
    split at h
    · rename_i n d e1 e2
      split at h
      · cases h
        obtain ⟨⟨_, _, _, _, a1, a2⟩, a3⟩ := numberOf_some e1
        obtain ⟨⟨_, _, _, _, b1, b2⟩, b3⟩ := numberOf_some e2
        refine ⟨?_, by omega, by omega, by omega, by omega⟩
        rw [numberOf_dec e1, numberOf_dec e2]
        exact (cutAt_some hx).1.symm
      · cases h
    · cases h
structure ScoreOk (n : Nat) (s : Sx62.Score) : Prop where
  voices : ∀ v ∈ s.voices, VoiceOk v
  ne : s.voices ≠ []
  four : s.voices.length ≤ 4
  size : (s.voices.map fun v => barsSize v.bars).sum ≤ n
  b0 : 1 ≤ s.beats
  b1 : s.beats ≤ 32
  u0 : 1 ≤ s.unit
  u1 : s.unit ≤ 32
  k : s.key.natAbs ≤ 7
section
variable {P : Program} {w : World} {K : PySem.W.Frag} {mg : Str → Option Value} {base : Heap} {A : Ad}
def ScoreA (K : PySem.W.Frag) (A : Ad) (G : Hp) (u : V) (s : Sx62.Score) : Prop := ∃ x dx f lv vs, u = .ref x ∧ G x = some (.ins A.C_Score dx (F_Score (strV (Sx62.dec s.beats ++ 47 :: Sx62.dec s.unit)) f (strV (keyText s.key)) (.ref lv))) ∧ FrA K G f s.metre ∧ G lv = some (.lst vs) ∧ Paired (VoiceA K A G) vs s.voices
theorem ScoreA.mono {G G' : Hp} {u : V} {s : Sx62.Score} (z : Same G G') (h : ScoreA K A G u s) : ScoreA K A G' u s := by
  obtain ⟨x, dx, f, lv, vs, rfl, h1, h2, h3, h4⟩ := h
  exact ⟨x, dx, f, lv, vs, rfl, z _ _ h1, h2.mono z, z _ _ h3, pairedMono (fun _ _ h => h.mono z) h4⟩
/-! ### a new reader -/
def sp_Reader_init (K : PySem.W.Frag) (A : Ad) : Sp := sp2 fun x y H Q _ => ∃ (a dx l : Addr) (bs : List Nat), x = .ref a ∧ y = .ref l ∧ H a = some (.ins A.C_Reader dx []) ∧ H l = some (.lst (nvs bs)) ∧ bs.length ≤ 1600 ∧ (∀ c ∈ bs, Sx62.okByte c = true) ∧
  ∀ H' aw x1 x2 x3 x4, SB [a] H H' → RdA K A H' a aw ((Sx62.words bs).map sgW) 0 bs.length x1 x2 x3 x4 → Q .non H'
theorem ok_Reader_init (T : Txt K mg A) : FnOk P w K mg base CX0 2 A.a_Reader_init A.d_Reader_init ["self", "text"] (sp_Reader_init K A) := by
  have G_words_of := ok_words_of (P := P) (w := w) (base := base) T
  refine T.F_Reader_init.ok sc_Reader_init (sp2_len) (fun cdv Ar outer s H vs Q E hr h => ?_)
  refine ⟨_, (pss_cons (ps_fld (pv 0) (pe_call G_words_of (hr.mono (by decide)) rfl T.g_words_of T.F_words_of.kp T.b_words_of .nil pass0 (pa_cons (pv 1) pa_nil)) rfl)
      (pss_cons (ps_fld (pv 0) pe_int rfl)
      (pss_cons (ps_fld (pv 0) (pe_callB call_len_seq (by rfl) T.z_len PySem.boot_len (pa_cons (pv 1) pa_nil)) rfl)
      (pss_cons (ps_fld (pv 0) (pe_lst pa_nil) rfl)
      (pss_cons (ps_fld (pv 0) (pe_lst pa_nil) rfl)
      (pss_cons (ps_fld (pv 0) (pe_lst pa_nil) rfl)
      (pss_one (ps_fld (pv 0) (pe_lst pa_nil) rfl)))))))), ?_⟩
  obtain ⟨x, y, rfl, a, dx, l, bs, rfl, rfl, ha, hl, hlen, hok, hq⟩ := h
  have nla : l ≠ a := ne_of hl ha (by intro z; cases z)
  refine ⟨_, rfl, _, rfl, l, bs, rfl, hl, by omega, hok, fun aw H1 vs nw s1 hw hws => ?_⟩
  have nwa : aw ≠ a := Ne.symm (ne_of_none ha nw)
  -- one field more: from G with fields fs to G' with o's new fields
  have stp : ∀ {G : Hp} {fs fs' : List (Str × V)}, SB [a] H1 G → G a = some (.ins A.C_Reader dx fs) → G aw = some (.lst vs) → G l = some (.lst (nvs bs)) →
      SB [a] H1 (upd G a (.ins A.C_Reader dx fs')) ∧ (upd G a (.ins A.C_Reader dx fs')) a = some (.ins A.C_Reader dx fs') ∧ (upd G a (.ins A.C_Reader dx fs')) aw = some (.lst vs) ∧ (upd G a (.ins A.C_Reader dx fs')) l = some (.lst (nvs bs)) := fun z1 z2 z3 z4 =>
    ⟨z1.trans (SB.upd z2 trivial trivial (by simp)), upd_same, by rw [upd_ne nwa]; exact z3, by rw [upd_ne nla]; exact z4⟩
  have alc : ∀ {G : Hp} {fs : List (Str × V)} {q : Addr} {o : HO}, G q = none → SB [a] H1 G → G a = some (.ins A.C_Reader dx fs) → G aw = some (.lst vs) → G l = some (.lst (nvs bs)) →
      SB [a] H1 (upd G q o) ∧ (upd G q o) a = some (.ins A.C_Reader dx fs) ∧ (upd G q o) aw = some (.lst vs) ∧ (upd G q o) l = some (.lst (nvs bs)) := fun hq z1 z2 z3 z4 =>
    ⟨z1.trans (SB.of (same_new hq)), same_new hq _ _ z2, same_new hq _ _ z3, same_new hq _ _ z4⟩
  refine ⟨_, rfl, a, _, dx, _, rfl, s1 _ _ ha, T.cl_Reader, T.n_Reader_words, by show 0 < 1000; decide, ?_⟩
  obtain ⟨a1, a2, a3, a4⟩ := stp (fs' := putF "words" (.ref aw) []) (SB.refl [a] H1) (s1 _ _ ha) hw (s1 _ _ hl)
  generalize upd H1 a (.ins A.C_Reader dx (putF "words" (.ref aw) [])) = G1 at a1 a2 a3 a4 ⊢
  refine ⟨_, rfl, a, _, dx, _, rfl, a2, T.cl_Reader, T.n_Reader_at, by show 1 < 1000; decide, ?_⟩
  obtain ⟨b1, b2, b3, b4⟩ := stp (fs' := putF "at" (.int 0) (putF "words" (.ref aw) [])) a1 a2 a3 a4
  generalize upd G1 a (.ins A.C_Reader dx (putF "at" (.int 0) (putF "words" (.ref aw) []))) = G2 at b1 b2 b3 b4 ⊢
  refine ⟨_, rfl, l, _, rfl, .inl (SqL.of b4), _, rfl, a, _, dx, _, rfl, b2, T.cl_Reader, T.n_Reader_end, by show 2 < 1000; decide, ?_⟩
  rw [nvs_len]
  obtain ⟨c1, c2, c3, c4⟩ := stp (fs' := putF "end" (.int (bs.length : Int)) (putF "at" (.int 0) (putF "words" (.ref aw) []))) b1 b2 b3 b4
  generalize upd G2 a (.ins A.C_Reader dx (putF "end" (.int (bs.length : Int)) (putF "at" (.int 0) (putF "words" (.ref aw) [])))) = G3 at c1 c2 c3 c4 ⊢
  refine ⟨by show 0 ≤ sizeLine; decide, fun l1 n1 => ?_⟩
  obtain ⟨d1, d2, d3, d4⟩ := alc (o := .lst []) n1 c1 c2 c3 c4
  generalize upd G3 l1 (.lst []) = G4 at d1 d2 d3 d4 ⊢
  refine ⟨_, rfl, a, _, dx, _, rfl, d2, T.cl_Reader, T.n_Reader_bar_words, by show 3 < 1000; decide, ?_⟩
  obtain ⟨e1, e2, e3, e4⟩ := stp (fs' := putF "bar_words" (.ref l1) (putF "end" (.int (bs.length : Int)) (putF "at" (.int 0) (putF "words" (.ref aw) [])))) d1 d2 d3 d4
  generalize upd G4 a (.ins A.C_Reader dx (putF "bar_words" (.ref l1) (putF "end" (.int (bs.length : Int)) (putF "at" (.int 0) (putF "words" (.ref aw) []))))) = G5 at e1 e2 e3 e4 ⊢
  refine ⟨by show 0 ≤ sizeLine; decide, fun l2 n2 => ?_⟩
  obtain ⟨f1, f2, f3, f4⟩ := alc (o := .lst []) n2 e1 e2 e3 e4
  generalize upd G5 l2 (.lst []) = G6 at f1 f2 f3 f4 ⊢
  refine ⟨_, rfl, a, _, dx, _, rfl, f2, T.cl_Reader, T.n_Reader_events, by show 4 < 1000; decide, ?_⟩
  obtain ⟨g1, g2, g3, g4⟩ := stp (fs' := putF "events" (.ref l2) (putF "bar_words" (.ref l1) (putF "end" (.int (bs.length : Int)) (putF "at" (.int 0) (putF "words" (.ref aw) []))))) f1 f2 f3 f4
  generalize upd G6 a (.ins A.C_Reader dx (putF "events" (.ref l2) (putF "bar_words" (.ref l1) (putF "end" (.int (bs.length : Int)) (putF "at" (.int 0) (putF "words" (.ref aw) [])))))) = G7 at g1 g2 g3 g4 ⊢
  refine ⟨by show 0 ≤ sizeLine; decide, fun l3 n3 => ?_⟩
  obtain ⟨h1, h2, h3, h4⟩ := alc (o := .lst []) n3 g1 g2 g3 g4
  generalize upd G7 l3 (.lst []) = G8 at h1 h2 h3 h4 ⊢
  refine ⟨_, rfl, a, _, dx, _, rfl, h2, T.cl_Reader, T.n_Reader_many, by show 5 < 1000; decide, ?_⟩
  obtain ⟨i1, i2, i3, i4⟩ := stp (fs' := putF "many" (.ref l3) (putF "events" (.ref l2) (putF "bar_words" (.ref l1) (putF "end" (.int (bs.length : Int)) (putF "at" (.int 0) (putF "words" (.ref aw) [])))))) h1 h2 h3 h4
  generalize upd G8 a (.ins A.C_Reader dx (putF "many" (.ref l3) (putF "events" (.ref l2) (putF "bar_words" (.ref l1) (putF "end" (.int (bs.length : Int)) (putF "at" (.int 0) (putF "words" (.ref aw) []))))))) = G9 at i1 i2 i3 i4 ⊢
  refine ⟨by show 0 ≤ sizeLine; decide, fun l4 n4 => ?_⟩
  obtain ⟨j1, j2, j3, j4⟩ := alc (o := .lst []) n4 i1 i2 i3 i4
  generalize upd G9 l4 (.lst []) = Ga at j1 j2 j3 j4 ⊢
  refine ⟨_, rfl, a, _, dx, _, rfl, j2, T.cl_Reader, T.n_Reader_by, by show 6 < 1000; decide, ?_⟩
  obtain ⟨k1, k2, k3, k4⟩ := stp (fs' := putF "by" (.ref l4) (putF "many" (.ref l3) (putF "events" (.ref l2) (putF "bar_words" (.ref l1) (putF "end" (.int (bs.length : Int)) (putF "at" (.int 0) (putF "words" (.ref aw) []))))))) j1 j2 j3 j4
  rw [new_Reader] at k2
  rw [new_Reader] at k1 k3
  rw [new_Reader]
  exact hq _ aw _ _ _ _ ((SB.of s1).trans k1) ⟨dx, vs, k2, k3, pairedMono (fun _ _ h => h.sb k1) hws⟩
/-! ### the score -/
def sp_Reader_score (K : PySem.W.Frag) (A : Ad) : Sp := sp1 fun x H Q E => ∃ (a aw : Addr) (ws : List Word) (e : Nat) (M : List Addr) (x1 x2 x3 x4 : V), x = .ref a ∧ RdA K A H a aw ws 0 e x1 x2 x3 x4 ∧ WsOk ws ∧ a ∈ M ∧ MOk M H ∧
  (∀ x, Sx62.parse e ws = .error x → RaiseF A E [a] H x.kind x.place) ∧
  (∀ s, Sx62.parse e ws = .ok s → ScoreOk ws.length s → ∀ u H', SB [a] H H' → ScoreA K A (hid M H') u s → Q u H')
theorem time_S : Str.ofString "time" = S Sx62.TIME := by decide +kernel
theorem key_S : Str.ofString "key" = S Sx62.KEY := by decide +kernel
theorem if_key (T : Txt K mg A) {a aw : Addr} {ws : List Word} {i e : Nat} {x1 x2 x3 x4 whole metre : V} {H : Hp} {σ : L2.St} {D : Ends} {E : XK} (eσ : σ = [some (.ref a), some whole, some metre, some (.str (S [])), none, none])
    (hR : RdA K A H a aw ws i e x1 x2 x3 x4) (hi : i ≤ ws.length) (hW : WsOk ws) (hbad : lookT (ws.drop i) = Sx62.KEY → Sx62.keyOf (lookT (ws.drop (i + 1))) = none → RaiseF A E [a] H 2 (hereP e (ws.drop (i + 1))))
    (hq : ∀ H' i' z y1 y2 y3 y4, SB [a] H H' → RdA K A H' a aw ws i' e y1 y2 y3 y4 → i' ≤ ws.length → ((lookT (ws.drop i) ≠ Sx62.KEY ∧ i' = i ∧ z = 0) ∨ (lookT (ws.drop i) = Sx62.KEY ∧ Sx62.keyOf (lookT (ws.drop (i + 1))) = some z ∧ i' = i + 2)) → D.nx [some (.ref a), some whole, some metre, some (strV (keyText z)), none, none] H') :
    tIfS (tTest (tOp rEq (tMeth A.C_Reader (Str.ofString "look") (sp_Reader_look K A) [] E0 (tVar 0) tNil) (tC (V.str (Str.ofString "key")))))
      (tSeq (tDrop (tMeth A.C_Reader (Str.ofString "take") (sp_Reader_take K A) [] E0 (tVar 0) tNil))
        (tSeq (tDrop (tMeth A.C_Reader (Str.ofString "want") (sp_Reader_want K A) [] E (tVar 0) (tCons (tCall (sp_is_key K A) [] E0 (tCons (tMeth A.C_Reader (Str.ofString "look") (sp_Reader_look K A) [] E0 (tVar 0) tNil) tNil)) (tCons (tC (V.int 2)) tNil))))
          (tAsg (tMeth A.C_Reader (Str.ofString "take") (sp_Reader_take K A) [] E0 (tVar 0) tNil) (gName 3)))) tNext D σ H := by
  subst eσ
  obtain ⟨dx, _, ha, _⟩ := hR.at_
  refine ⟨_, rfl, a, dx, _, rfl, ha, l_Reader_look, _, rfl, a, aw, ws, i, e, _, _, _, _, rfl, hR, hi, rfl, _, rfl, ?_⟩
  rw [key_S, decS]
  refine iteB (fun hb => ?_) (fun hb => ?_)
  · have hk : lookT (ws.drop i) = Sx62.KEY := of_decide_eq_true hb
    have ilt : i < ws.length := look_lt (by rw [hk]; decide)
    refine ⟨_, rfl, a, dx, _, rfl, ha, l_Reader_take, _, rfl, a, aw, ws, i, e, _, _, _, _, rfl, hR, hi, fun H1 s1 k1 hR1 => ?_⟩
    obtain ⟨dx1, _, ha1, _⟩ := hR1.at_
    refine ⟨_, rfl, a, dx1, _, rfl, ha1, l_Reader_want, ?_⟩
    refine ⟨_, rfl, a, dx1, _, rfl, ha1, l_Reader_look, _, rfl, a, aw, ws, i + 1, e, _, _, _, _, rfl, hR1, ilt, ?_⟩
    refine ⟨_, rfl, _, rfl, look_len hW (i + 1), fun H2 s2 => ?_⟩
    have hR2 := hR1.same s2
    have ha2 := s2 _ _ ha1
    have z2 : SB [a] H H2 := s1.trans (SB.of s2)
    refine ⟨_, _, _, rfl, a, aw, ws, i + 1, e, _, _, _, _, _, 2, rfl, rfl, rfl, hR2, ilt, fun hz => ?_, fun hz => ?_⟩
    · obtain ⟨z, ez⟩ := Option.isSome_iff_exists.mp hz
      have i1lt : i + 1 < ws.length := look_lt (fun z => by rw [z] at ez; cases ez)
      refine ⟨_, rfl, a, dx1, _, rfl, ha2, l_Reader_take, _, rfl, a, aw, ws, i + 1, e, _, _, _, _, rfl, hR2, ilt, fun H3 s3 k3 hR3 => ?_⟩
      have := hq H3 (i + 2) z _ _ _ _ (z2.trans s3) hR3 i1lt (.inr ⟨hk, ez, rfl⟩)
      rw [(key_text ez).1] at this
      exact this
    · have ez : Sx62.keyOf (lookT (ws.drop (i + 1))) = none := by
        cases e : Sx62.keyOf (lookT (ws.drop (i + 1))) with
        | none => rfl
        | some z => rw [e] at hz; cases hz
      exact (hbad hk ez).less z2 fun _ h => h
  · have hk : lookT (ws.drop i) ≠ Sx62.KEY := of_decide_eq_false hb
    exact hq H i 0 _ _ _ _ (SB.refl _ _) hR hi (.inl ⟨hk, rfl, rfl⟩)
/-- within a score -/
def ScW (K : PySem.W.Frag) (A : Ad) (a aw L : Addr) (ws : List Word) (e : Nat) (M : List Addr) (whole metre key : V) (i2 : Nat) (R : Sx62.R (List Sx62.Voice)) (H0 : Hp) (m : Nat) (σ : L2.St) (H : Hp) : Prop := ∃ (j f : Nat) (acc : List Sx62.Voice) (us : List V) (y1 y2 y3 y4 : V),
  m = ws.length - j ∧ σ = [some (.ref a), some whole, some metre, some key, some (.ref L), none] ∧ RdA K A H a aw ws j e y1 y2 y3 y4 ∧ SB [a] H0 H ∧ MOk (L :: M) H ∧ H L = some (.lst us) ∧ Paired (VoiceA K A (hid (L :: M) H)) us acc.reverse ∧ (∀ v ∈ acc, VoiceOk v) ∧ acc.length ≤ 4 ∧
  i2 + (acc.map fun v => barsSize v.bars).sum ≤ j ∧ j ≤ ws.length ∧ R = Sx62.voicesFrom e f acc (ws.drop j) ∧ ws.length - j < f
theorem ok_Reader_score (T : Txt K mg A) : FnOk P w K mg base (L2N.CX P w) 9 A.a_Reader_score A.d_Reader_score ["self"] (sp_Reader_score K A) := by
  have G_Reader_look := ok_Reader_look (P := P) (w := w) (base := base) T
  have G_Reader_take := ok_Reader_take (P := P) (w := w) (base := base) T
  have G_Reader_take_word := ok_Reader_take_word (P := P) (w := w) (base := base) T
  have G_Reader_voice := ok_Reader_voice (P := P) (w := w) (base := base) T
  have G_Reader_want := ok_Reader_want (P := P) (w := w) (base := base) T
  have G_Score_init := ok_Score_init (P := P) (w := w) (base := base) T
  have G_is_key := ok_is_key (P := P) (w := w) (base := base) T
  have G_metre_in := ok_metre_in (P := P) (w := w) (base := base) T
  refine okN T.F_Reader_score sc_Reader_score (sp1_len) (fun cdv Ar outer s H vs Q E hr h tk => ?_)
  refine ⟨_, (pss_cons (ps_expr (pe_meth (pv 0) T.cl_Reader T.m_Reader_take_word G_Reader_take_word (hr.mono (by decide)) T.b_Reader_take_word .nil (L2N.passes_call tk fun _ _ _ _ h => h) (pa_cons pe_str pa_nil)))
      (pss_cons (ps_set (i := 1) sc_Reader_score.nd rfl (Or.inl rfl) (pe_call G_metre_in (hr.mono (by decide)) rfl T.g_metre_in T.F_metre_in.kp T.b_metre_in .nil pass0 (pa_cons (pe_meth0 (pv 0) T.cl_Reader T.m_Reader_look G_Reader_look (hr.mono (by decide)) T.b_Reader_look .nil pass0) pa_nil)))
      (pss_cons (ps_expr (pe_meth (pv 0) T.cl_Reader T.m_Reader_want G_Reader_want (hr.mono (by decide)) T.b_Reader_want .nil (L2N.passes_call tk fun _ _ _ _ h => h) (pa_cons (pe_cmpR op_notN (pv 1) pe_non (nomark _)) (pa_cons (pe_gI T.c_BAD_WORD) pa_nil))))
      (pss_cons (ps_set (i := 2) sc_Reader_score.nd rfl (Or.inl rfl) (pe_meth0 (pv 0) T.cl_Reader T.m_Reader_take G_Reader_take (hr.mono (by decide)) T.b_Reader_take .nil pass0))
      (pss_cons (ps_set (i := 3) sc_Reader_score.nd rfl (Or.inl rfl) pe_str)
      (pss_cons (ps_if (pt_cmpR op_eq (pe_meth0 (pv 0) T.cl_Reader T.m_Reader_look G_Reader_look (hr.mono (by decide)) T.b_Reader_look .nil pass0) pe_str (nomark _)) (pss_cons (ps_expr (pe_meth0 (pv 0) T.cl_Reader T.m_Reader_take G_Reader_take (hr.mono (by decide)) T.b_Reader_take .nil pass0))
      (pss_cons (ps_expr (pe_meth (pv 0) T.cl_Reader T.m_Reader_want G_Reader_want (hr.mono (by decide)) T.b_Reader_want .nil (L2N.passes_call tk fun _ _ _ _ h => h) (pa_cons (pe_call G_is_key (hr.mono (by decide)) rfl T.g_is_key T.F_is_key.kp T.b_is_key .nil pass0 (pa_cons (pe_meth0 (pv 0) T.cl_Reader T.m_Reader_look G_Reader_look (hr.mono (by decide)) T.b_Reader_look .nil pass0) pa_nil)) (pa_cons (pe_gI T.c_BAD_WORD) pa_nil))))
      (pss_one (ps_set (i := 3) sc_Reader_score.nd rfl (Or.inl rfl) (pe_meth0 (pv 0) T.cl_Reader T.m_Reader_take G_Reader_take (hr.mono (by decide)) T.b_Reader_take .nil pass0))))) pss_nil)
      (pss_cons (ps_set (i := 4) sc_Reader_score.nd rfl (Or.inl rfl) (pe_lst pa_nil))
      (pss_cons (ps_while (passes_of rfl) (PW.pt (pw_or (pt_cmpR (op_eqNil (hU hr)) (pv 4) (pe_lst pa_nil) (nomark _)) (pw_or1 (pt_cmpR op_ne (pe_meth0 (pv 0) T.cl_Reader T.m_Reader_look G_Reader_look (hr.mono (by decide)) T.b_Reader_look .nil pass0) pe_str (nomark _))))) (pss_one (ps_expr (pe_bm PySem.F.plainAttrs_list PySem.F.slot_list_append PySem.F.type_list_append mt_append (pv 4) (pa_cons (pe_meth (pv 0) T.cl_Reader T.m_Reader_voice G_Reader_voice (hr.mono (by decide)) T.b_Reader_voice .nil (L2N.passes_call tk fun _ _ _ _ h => h) (pa_cons (pe_lc (own := [("voice", 5)]) (g := gName 5) (tt := tYes) rfl sc_Reader_score.nd (pi_list (pv 4)) (blkOk_by (N := ["self", "whole", "metre", "key", "voices", "voice"]) (sc := defScope s_Reader_score) (by decide +kernel)) (fun _ _ _ _ _ => (pg_name (i := 5) sc_Reader_score.nd rfl (Or.inl rfl))) (fun _ _ _ _ _ => pts_nil) (fun _ _ _ _ _ => (pe_fldK (K := K) (by rfl) (pv 5) rfl))) pa_nil)) pa_nil)))))
      (pss_one (ps_ret (pe_make T.M_Score G_Score_init (hr.mono (by decide)) rfl T.g_Score T.b_Score_init .nil pass0 (pa_cons (pv 2) (pa_cons (pv 1) (pa_cons (pv 3) (pa_cons (pv 4) pa_nil))))))))))))))), ?_⟩
  obtain ⟨x, rfl, a, aw, ws, e, M, x1, x2, x3, x4, rfl, hR, hW, haM, hM, hE, hq⟩ := h
  obtain ⟨dx, vs, ha, hw, hws⟩ := id hR.at_
  have haw : aw ≠ a := ne_of hw ha (by intro z; cases z)
  have hP := parse_eq e ws
  have hwl := hW.len
  refine ⟨_, rfl, a, dx, _, rfl, ha, l_Reader_take_word, ?_⟩
  refine ⟨_, _, rfl, a, aw, ws, 0, e, _, _, _, _, Sx62.TIME, rfl, by rw [← time_S], hR, Nat.zero_le _, fun ht H1 s1 k1 hR1 => ?_, fun ht => ?_⟩
  rotate_left
  · rw [List.drop_zero] at ht
    rw [if_pos ht] at hP
    exact (hE _ hP).less (SB.refl [a] H) fun _ h => h
  rw [List.drop_zero] at ht
  rw [if_neg (by simpa using ht)] at hP
  have h0 : 0 < ws.length := look_lt (i := 0) (by rw [List.drop_zero, ht]; decide)
  obtain ⟨dx1, _, ha1, _⟩ := hR1.at_
  have tl := look_len hW 1
  refine ⟨_, rfl, a, dx1, _, rfl, ha1, l_Reader_look, _, rfl, a, aw, ws, 1, e, _, _, _, _, rfl, hR1, h0, ?_⟩
  refine ⟨_, rfl, _, rfl, tl, ?_⟩
  unfold metreF
  cases hme : Sx62.metreOf (lookT (ws.drop 1)) with
  | none =>
    rw [hme] at hP
    intro H2 s2
    refine ⟨_, rfl, a, dx1, _, rfl, s2 _ _ ha1, l_Reader_want, _, rfl, rfl, ?_⟩
    exact ⟨_, _, _, rfl, a, aw, ws, 1, e, _, _, _, _, false, 2, rfl, rfl, rfl, hR1.same s2, h0, (fun z => nomatch z), fun _ => (hE _ hP).less (s1.trans (SB.of s2)) fun _ h => h⟩
  | some bu =>
    obtain ⟨bt, un⟩ := bu
    rw [hme] at hP
    obtain ⟨mt1, mt2, mt3, mt4, mt5⟩ := metre_text hme
    intro whole H2 s2 hwh
    have nw : decide (whole = .non) = false := by
      obtain ⟨q, rfl, _⟩ := hwh
      exact decide_eq_false (fun z => by cases z)
    have z2 : SB [a] H H2 := s1.trans (SB.of s2)
    have hR2 := hR1.same s2
    have ha2 := s2 _ _ ha1
    have h1 : 1 < ws.length := look_lt (fun z => by rw [z] at hme; cases hme)
    refine ⟨_, rfl, a, dx1, _, rfl, ha2, l_Reader_want, _, rfl, rfl, ?_⟩
    refine ⟨_, _, _, rfl, a, aw, ws, 1, e, _, _, _, _, true, 2, rfl, by rw [nw]; rfl, rfl, hR2, h0, fun _ => ?_, fun z => nomatch z⟩
    refine ⟨_, rfl, a, dx1, _, rfl, ha2, l_Reader_take, _, rfl, a, aw, ws, 1, e, _, _, _, _, rfl, hR2, h0, fun H3 s3 k3 hR3 => ?_⟩
    have z3 := z2.trans s3
    refine if_key T (by rw [empty_S]; rfl) hR3 h1 hW (fun hk hz => ?_) fun H4 i2 z y1 y2 y3 y4 s4 hR4 hi2 hcase => ?_
    · simp only at hP
      rw [if_pos hk, hz] at hP
      exact (hE _ hP).back z3 fun _ h => h
    have z4 := z3.trans s4
    obtain ⟨hPz, hz7⟩ : Sx62.parse e ws = (match Sx62.voicesFrom e ((ws.drop i2).length + 1) [] (ws.drop i2) with
        | .error y => .error y
        | .ok v => .ok ⟨bt, un, z, v⟩) ∧ z.natAbs ≤ 7 := by
      simp only at hP
      rcases hcase with ⟨c1, rfl, rfl⟩ | ⟨c1, c2, rfl⟩
      · rw [if_neg c1] at hP
        exact ⟨hP, by decide⟩
      · rw [if_pos c1, c2] at hP
        exact ⟨hP, (key_text c2).2.2⟩
    generalize hRR : Sx62.voicesFrom e ((ws.drop i2).length + 1) [] (ws.drop i2) = R at hPz
    refine ⟨by show 0 ≤ sizeLine; decide, fun L nL => ?_⟩
    have nL0 : H L = none := z4.free nL
    have nLM : L ∉ M := (hM.sb z4).new nL
    obtain ⟨dx4, _, ha4, hw4, _⟩ := hR4.at_
    have nLa : L ≠ a := Ne.symm (ne_of_none ha4 nL)
    have nLw : aw ≠ L := ne_of_none hw4 nL
    have hwh4 : FrA K H4 whole (Sx62.lowest bt un) := (hwh.sb s3).sb s4
    refine ⟨ScW K A a aw L ws e M whole (.str (S (lookT (ws.drop 1)))) (strV (keyText z)) i2 R H4, ⟨_, i2, _, [], [], y1, y2, y3, y4, rfl, rfl, hR4.same (same_new nL), SB.of (same_new nL), ?_, upd_same, .nil, (fun _ h => by cases h), Nat.zero_le _, Nat.le_refl _, hi2, hRR.symm, ?_⟩, ?_⟩
    · intro q hq'
      rcases List.mem_cons.mp hq' with hq' | hq'
      · subst hq'; exact ⟨_, upd_same, trivial⟩
      · exact (hM.sb z4).sb (SB.of (M := []) (same_new nL)) q hq'
    · rw [List.length_drop]; omega
    rintro m σ H5 ⟨j, f, acc, us, y1, y2, y3, y4, rfl, rfl, hR5, z5', hM5, hL5, hus, hok, h4, hsz, hjl, hRf, hf⟩
    have z5 := z4.trans z5'
    obtain ⟨dx5, _, ha5, hw5, _⟩ := hR5.at_
    obtain ⟨f', rfl⟩ : ∃ f', f = f' + 1 := ⟨f - 1, by omega⟩
    have lus : us.length = acc.length := by rw [Paired.length hus, List.length_reverse]
    refine ans_orS (b1 := acc.isEmpty) (b2 := !decide (lookT (ws.drop j) = [])) (fun Q q => ?_) (fun H' Q z q => ?_) (fun H6 s6 => iteB (fun hb => ?_) (fun hb => ?_))
    · refine ⟨_, rfl, by show 0 ≤ sizeLine; decide, fun p np => ?_⟩
      refine ⟨L, p, us, rfl, rfl, SqL.of (same_new np _ _ hL5), SqL.of upd_same, _, rfl, ?_⟩
      have e : us.isEmpty = acc.isEmpty := by
        rw [Bool.eq_iff_iff, List.isEmpty_iff, List.isEmpty_iff, ← List.length_eq_zero_iff, ← List.length_eq_zero_iff, lus]
      rw [e]
      exact q _ (same_new np)
    · refine ⟨_, rfl, a, dx5, _, rfl, z _ _ ha5, l_Reader_look, _, rfl, a, aw, ws, j, e, _, _, _, _, rfl, hR5.same z, hjl, rfl, _, rfl, ?_⟩
      rw [empty_S, decS]
      exact q
    · -- a voice more
      have hne : ws.drop j = [] → acc = [] := fun hd => by
        rcases Bool.or_eq_true_iff.mp hb with hb | hb
        · exact List.isEmpty_iff.mp hb
        · rw [hd] at hb; simp [lookT] at hb
      have hstep := voices_step (e := e) (f := f') (acc := acc) (r := ws.drop j) hne
      refine ⟨fun σ' H' => ∃ m', m' < ws.length - j ∧ ScW K A a aw L ws e M whole (V.str (S (lookT (ws.drop 1)))) (strV (keyText z)) i2 R H4 m' σ' H', fun _ _ h => h, ?_⟩
      have hR6 := hR5.same s6
      have ha6 := s6 _ _ ha5
      have hL6 := s6 _ _ hL5
      have hus6 : Paired (VoiceA K A H6) us acc.reverse := pairedMono (fun _ _ h => (h.mono (hid_sub (M := L :: M))).mono s6) hus
      refine ⟨_, rfl, .inl ⟨rfl, _, SqL.of hL6⟩, _, rfl, a, dx5, _, rfl, ha6, l_Reader_voice, ?_⟩
      refine ⟨_, rfl, L, rfl, ⟨_, SqL.of hL6⟩, fun D nD => lc_it (walk_list (K := K) (a := L) (xs := us)) (fun i H' => H' D = some (.lst ((acc.reverse.take i).map fun v => strV v.name)) ∧ Same H6 H') ⟨upd_same, same_new nD⟩ (fun i H' _ h => SqL.of (h.2 _ _ hL6)) ?_ ?_⟩
      · rintro i x H7 H8 hi ⟨h1, s7⟩ ⟨rfl, hx⟩
        obtain ⟨v, hvi, q, dq, lb, bs, rfl, hq1, _, _⟩ := paired_get hus6 hx
        refine ⟨rfl, _, rfl, q, _, dq, _, _, rfl, s7 _ _ hq1, T.cl_Voice, T.n_Voice_name, l_Voice_name, _, h1, ?_, ?_, fun b o e => ?_⟩
        · rw [List.length_map, List.length_take, List.length_reverse, sizeLine_eq]; omega
        · rw [take_more hvi, List.map_append]
          exact upd_same
        · rw [upd_ne (ne_of_none e nD)]; exact s7 _ _ e
      · rintro H7 ⟨h1, s7⟩
        have e0 : us.length = acc.reverse.length := by rw [lus, List.length_reverse]
        rw [e0, List.take_length] at h1
        have s67 := s6.trans s7
        have nDa : D ≠ a := Ne.symm (ne_of_none ha6 nD)
        refine ⟨_, _, rfl, a, aw, ws, j, e, L :: M, _, _, _, _, D, acc, rfl, rfl, h1, nDa, hR5.same s67, hjl, hW, List.mem_cons_of_mem _ haM, hM5.sb (SB.of (M := []) s67), fun x hx => ?_, fun v j' hvj hjl' hij h4' hvok u H8 y1 y2 y3 y4 s8 hR8 hV8 => ?_⟩
        · rw [hx] at hstep
          rw [hRf.trans hstep] at hPz
          exact (hE _ hPz).back (z5.trans (SB.of s67)) fun _ h => h
        · rw [hvj] at hstep
          have hL8 := s8.at (s67 _ _ hL5) (by simpa using nLa)
          refine ⟨L, us, u, rfl, rfl, hL8, by rw [lus, sizeLine_eq]; omega, ?_⟩
          have su : SB [L] H8 (upd H8 L (.lst (us ++ [u]))) := SB.upd hL8 trivial trivial (by simp)
          have hR8' := hR8.updL (ys := us ++ [u]) hL8 nLw
          have zz : SB [a] H4 H8 := (z5'.trans (SB.of s67)).trans s8
          refine ⟨ws.length - j', by omega, j', f', v :: acc, us ++ [u], y1, y2, y3, y4, rfl, rfl, hR8', ?_, (hM5.sb ((SB.of (M := [a]) s67).trans s8)).sb su, upd_same, ?_, ?_, by rw [List.length_cons]; omega, ?_, hjl', hRf.trans hstep, by omega⟩
          · exact zz.fresh nL
          · rw [List.reverse_cons]
            have sh : Same (hid (L :: M) H8) (hid (L :: M) (upd H8 L (.lst (us ++ [u])))) := hid_same (su.mono (by intro b hb; rw [List.mem_singleton] at hb; rw [hb]; exact List.mem_cons_self))
            have sh5 : Same (hid (L :: M) H5) (hid (L :: M) H8) := hid_same (((SB.of (M := [a]) s67).trans s8).mono (by intro b hb; rw [List.mem_singleton] at hb; rw [hb]; exact List.mem_cons_of_mem _ haM))
            exact pairedApp (pairedMono (fun _ _ h => h.mono (sh5.trans sh)) hus) (.cons (hV8.mono sh) .nil)
          · intro v' hv'
            rcases List.mem_cons.mp hv' with hv' | hv'
            · rw [hv']; exact hvok
            · exact hok v' hv'
          · rw [List.map_cons, List.sum_cons]; omega
    · -- the end
      obtain ⟨b1, b2⟩ := Bool.or_eq_false_iff.mp hb
      have hacc : acc ≠ [] := fun z => by rw [z] at b1; cases b1
      have hlook : lookT (ws.drop j) = [] := by simpa using b2
      have hdn : ws.drop j = [] := by
        cases hd : ws.drop j with
        | nil => rfl
        | cons w0 l =>
          rw [hd] at hlook
          exact absurd hlook (hW.ne w0 (List.mem_of_mem_drop (by rw [hd]; exact List.mem_cons_self)))
      rw [hdn, voices_end hacc] at hRf
      rw [hRf] at hPz
      simp only at hPz
      refine ⟨_, rfl, _, rfl, _, rfl, _, rfl, fun q dq nq nd ne => ?_⟩
      refine ⟨_, _, _, _, _, rfl, q, dq, rfl, upd_same, fun H8 h1' h2' => ⟨rfl, ?_⟩⟩
      obtain ⟨s8, _⟩ := made nq nd ne h2'
      have hM6 := hM5.sb (SB.of (M := []) s6)
      refine hq _ hPz ⟨fun v hv => hok v (List.mem_reverse.mp hv), fun z => hacc (List.reverse_eq_nil_iff.mp z), by rw [List.length_reverse]; exact h4, ?_, mt2, mt3, mt4, mt5, hz7⟩ _ H8 (z5.trans (SB.of (s6.trans s8))) ?_
      · show (acc.reverse.map fun v => barsSize v.bars).sum ≤ ws.length
        rw [List.map_reverse, List.sum_reverse]
        omega
      · have nq' : q ∉ M := fun z => hM6.new nq (List.mem_cons_of_mem _ z)
        have hM8 := (hM.sb z5).sb (SB.of (M := []) (s6.trans s8))
        refine ⟨q, dq, whole, L, us, rfl, ?_, (((hwh4.sb z5').mono (s6.trans s8)).hid hM8), by rw [hid_out nLM]; exact (s6.trans s8) _ _ hL5, ?_⟩
        · rw [hid_out nq', h1']
          show some (HO.ins A.C_Score dq (F_Score (strV (lookT (ws.drop 1))) whole (strV (keyText z)) (.ref L))) = _
          rw [← mt1]
        · have sh : Same (hid (L :: M) H5) (hid M H8) := (hid_same (SB.of (M := L :: M) (s6.trans s8))).trans (hid_less (by intro b hb; exact List.mem_cons_of_mem _ hb))
          exact pairedMono (fun _ _ h => h.mono sh) hus
end
end Sc

set_option Elab.async false
set_option linter.all false
set_option maxRecDepth 100000
set_option maxHeartbeats 4000000
/-! # what must be so in a score -/
namespace Sc
open PySem PySem.Spec PyProof.Rows L2 Pf
open Sx62 (Frac Pitch Word Timed Piece)
/-! ### plain -/
theorem notes_size (bs : List Sx62.Bar) : (bs.flatMap Sx62.Bar.notes).length ≤ barsSize bs := by
  induction bs with
  | nil => exact Nat.zero_le _
  | cons b bs ih =>
    rw [List.flatMap_cons, List.length_append, barsSize_cons]
    have := notes_len b
    omega
theorem bar_size {bs : List Sx62.Bar} {b : Sx62.Bar} (h : b ∈ bs) : b.pieces.length + 1 ≤ barsSize bs := by
  induction bs with
  | nil => cases h
  | cons c bs ih =>
    rw [barsSize_cons]
    rcases List.mem_cons.mp h with h | h
    · rw [h]; omega
    · have := ih h; omega
theorem VoiceOk.evs {v : Sx62.Voice} (h : VoiceOk v) : ∀ t ∈ v.notes, EvOk t := fun t ht => by
  obtain ⟨b, hb, ht⟩ := List.mem_flatMap.mp ht
  exact (h.bars b hb).evs t ht
theorem bar_fg {b : Sx62.Bar} (h : BarOk b) : FG (200 * b.notes.length) b.long := by
  have := fg_sum (l := b.notes.map fun n => n.long) (by
    intro f hf
    obtain ⟨t, ht, rfl⟩ := List.mem_map.mp hf
    exact (h.evs t ht).long)
  rw [List.length_map] at this
  exact this
theorem bar_sm {b : Sx62.Bar} (h : BarOk b) (hl : b.notes.length ≤ 2000) : Sm b.long := (bar_fg h).sm (by
  have : 200 * b.notes.length ≤ 200 * 2000 := Nat.mul_le_mul_left _ hl
  exact Nat.le_trans this (by decide))
theorem flat_take {bs : List Sx62.Bar} {i : Nat} {b : Sx62.Bar} (h : bs[i]? = some b) : (bs.take (i + 1)).flatMap Sx62.Bar.notes = (bs.take i).flatMap Sx62.Bar.notes ++ b.notes := by
  rw [take_more h, List.flatMap_append]
  simp
theorem flat_le (bs : List Sx62.Bar) (i : Nat) : ((bs.take i).flatMap Sx62.Bar.notes).length ≤ barsSize bs := by
  have h := notes_size bs
  conv at h => lhs; rw [← List.take_append_drop i bs]
  rw [List.flatMap_append, List.length_append] at h
  omega
/-! ### fractions as data -/
def fd (f : Frac) : PyData := .tuple [.int (f.num : Int), .int (f.den : Int)]
theorem fd_eqv (f g : Frac) : PyData.eqv (fd f) (fd g) = (f == g) := by
  obtain ⟨a, b⟩ := f
  obtain ⟨c, d⟩ := g
  rw [Bool.eq_iff_iff, beq_iff_eq]
  simp [fd, PyData.eqv, PyData.eqvAll]
  omega
theorem fd_shaped (f : Frac) : SeqAt.shaped (fd f) = true := by
  have h1 : (fd f).canLay0 = true := by simp [fd, PyData.canLay0, PyData.canLayAll0]
  have h2 : (fd f).depth = 1 := by simp [fd, PyData.depth, PyData.depthAll]
  simp [SeqAt.shaped, h1, h2]
theorem FrA.dp {K : PySem.W.Frag} {H : Hp} {v : V} {f : Frac} (h : FrA K H v f) : Dp K H v (fd f) := by
  obtain ⟨a, rfl, h⟩ := h
  exact .tup h (.cons (.int _) (.cons (.int _) .nil))
section
variable {P : Program} {w : World} {K : PySem.W.Frag} {mg : Str → Option Value} {base : Heap} {A : Ad}
theorem sc_Bar_length : FnScope ["self", "event"] ["self"] (defScope s_Bar_length) := ⟨rfl, rfl, rfl, by decide +kernel, rfl, by decide +kernel, by decide +kernel⟩
theorem sc_Voice_all_events : FnScope ["self", "found", "bar"] ["self"] (defScope s_Voice_all_events) := ⟨rfl, rfl, rfl, by decide +kernel, rfl, by decide +kernel, by decide +kernel⟩
theorem sc_want_bars : FnScope ["voice", "whole", "bar", "is_right"] ["voice", "whole"] (defScope s_want_bars) := ⟨rfl, rfl, rfl, by decide +kernel, rfl, by decide +kernel, by decide +kernel⟩
theorem sc_want_ties : FnScope ["voice", "events", "k", "event", "behind", "pitch"] ["voice"] (defScope s_want_ties) := ⟨rfl, rfl, rfl, by decide +kernel, rfl, by decide +kernel, by decide +kernel⟩
theorem sc_want_alike : FnScope ["voice", "first", "k", "bar"] ["voice", "first"] (defScope s_want_alike) := ⟨rfl, rfl, rfl, by decide +kernel, rfl, by decide +kernel, by decide +kernel⟩
theorem sc_read_score : FnScope ["text", "place", "found", "voice"] ["text"] (defScope s_read_score) := ⟨rfl, rfl, rfl, by decide +kernel, rfl, by decide +kernel, by decide +kernel⟩
def sp_Bar_length (K : PySem.W.Frag) (A : Ad) : Sp := sp1 fun x H Q _ => ∃ b, BarA K A H x b ∧ BarOk b ∧ b.notes.length ≤ 2000 ∧ RetFr K H b.long Q
theorem ok_Bar_length (T : Txt K mg A) : FnOk P w K mg base CX0 5 A.a_Bar_length A.d_Bar_length ["self"] (sp_Bar_length K A) := by
  have G_total := ok_total (P := P) (w := w) (base := base) T
  refine T.F_Bar_length.ok sc_Bar_length (sp1_len) (fun cdv Ar outer s H vs Q E hr h => ?_)
  refine ⟨_, (pss_one (ps_ret (pe_call G_total (hr.mono (by decide)) rfl T.g_total T.F_total.kp T.b_total .nil pass0 (pa_cons (pe_lc (own := [("event", 1)]) (g := gName 1) (tt := tYes) rfl sc_Bar_length.nd (pi_list (pe_fld (pv 0) rfl)) (blkOk_by (N := ["self", "event"]) (sc := defScope s_Bar_length) (by decide +kernel)) (fun _ _ _ _ _ => (pg_name (i := 1) sc_Bar_length.nd rfl (Or.inl rfl))) (fun _ _ _ _ _ => pts_nil) (fun _ _ _ _ _ => (pe_fldK (K := K) (by rfl) (pv 1) rfl))) pa_nil)))), ?_⟩
  obtain ⟨x, rfl, b, ⟨q, dq, lw, le, vs, rfl, hq1, _, hq2, hvs⟩, hok, hlen, hq⟩ := h
  have lvs := Paired.length hvs
  refine ⟨_, rfl, q, _, dq, _, _, rfl, hq1, T.cl_Bar, T.n_Bar_events, l_Bar_events, le, rfl, ⟨_, SqL.of hq2⟩, fun D nD => lc_it (walk_list (K := K) (a := le) (xs := vs)) (fun i H' => ∃ us, H' D = some (.lst us) ∧ Paired (FrA K H) us ((b.notes.take i).map fun n => n.long) ∧ Same H H') ⟨[], upd_same, .nil, same_new nD⟩ (fun i H' _ ⟨_, _, _, h⟩ => SqL.of (h _ _ hq2)) ?_ ?_⟩
  · rintro i x H7 H8 hi ⟨us, h1, hus, s7⟩ ⟨rfl, hx⟩
    obtain ⟨t, hti, y, dy, l, f, ps, rfl, hy1, _, _, hf⟩ := paired_get hvs hx
    have lus := Paired.length hus
    rw [List.length_map, List.length_take] at lus
    refine ⟨rfl, _, rfl, y, _, dy, _, _, rfl, s7 _ _ hy1, T.cl_Event, T.n_Event_long, l_Event_long, us, h1, by rw [lus, sizeLine_eq]; omega, us ++ [f], upd_same, ?_, fun b o e => ?_⟩
    · rw [take_more hti, List.map_append]
      exact pairedApp hus (.cons hf .nil)
    · rw [upd_ne (ne_of_none e nD)]; exact s7 _ _ e
  · rintro H7 ⟨us, h1, hus, s7⟩
    rw [lvs, List.take_length] at hus
    refine ⟨_, rfl, D, us, _, rfl, SqL.of h1, pairedMono (fun _ _ h => h.mono s7) hus, ?_, by rw [List.length_map]; exact hlen, hq.back s7⟩
    intro f hf
    obtain ⟨t, ht, rfl⟩ := List.mem_map.mp hf
    exact (hok.evs t ht).long
def sp_Voice_all_events (K : PySem.W.Frag) (A : Ad) : Sp := sp1 fun x H Q _ => ∃ v, VoiceA K A H x v ∧ barsSize v.bars ≤ 2000 ∧ ∀ p H' vs, H p = none → Same H H' → H' p = some (.lst vs) → Paired (EvA K A H) vs v.notes → Q (.ref p) H'
theorem ok_Voice_all_events (T : Txt K mg A) : FnOk P w K mg base CX0 1 A.a_Voice_all_events A.d_Voice_all_events ["self"] (sp_Voice_all_events K A) := by
  refine T.F_Voice_all_events.ok sc_Voice_all_events (sp1_len) (fun cdv Ar outer s H vs Q E hr h => ?_)
  refine ⟨_, (pss_cons (ps_set (i := 1) sc_Voice_all_events.nd rfl (Or.inl rfl) (pe_lst pa_nil))
      (pss_cons (ps_for PassesOwn.never rfl (pi_list (pe_fld (pv 0) rfl)) (pg_name (i := 2) sc_Voice_all_events.nd rfl (Or.inl rfl)) (pss_one (ps_expr (pe_bm PySem.F.plainAttrs_list PySem.F.slot_list_extend PySem.F.type_list_extend mt_extend (pv 1) (pa_cons (pe_fld (pv 2) rfl) pa_nil)))))
      (pss_one (ps_ret (pv 1))))), ?_⟩
  obtain ⟨x, rfl, v, ⟨q, dq, lb, bs, rfl, hq1, hq2, hbs⟩, hsz, hq⟩ := h
  refine ⟨by show 0 ≤ sizeLine; decide, fun p np => ?_⟩
  have sp := same_new (o := .lst []) np
  refine ⟨_, rfl, q, _, dq, _, _, rfl, sp _ _ hq1, T.cl_Voice, T.n_Voice_bars, l_Voice_bars, lb, rfl, ⟨_, SqL.of (sp _ _ hq2)⟩, for_it (walk_list (K := K) (a := lb) (xs := bs)) (fun i σ H' => ∃ u es, σ = [some (.ref q), some (.ref p), u] ∧ H' p = some (.lst es) ∧ Paired (EvA K A H) es ((v.bars.take i).flatMap Sx62.Bar.notes) ∧ Same H H') ⟨none, [], rfl, upd_same, .nil, sp⟩ (fun i σ H' _ ⟨_, _, _, _, _, h⟩ => SqL.of (h _ _ hq2)) ?_ ?_⟩
  · rintro i x σ H7 H8 hi ⟨u, es, rfl, h1, hes, s7⟩ ⟨rfl, hx⟩
    obtain ⟨b, hbi, y, dy, lw, le, vs, rfl, hy1, _, hy2, hvs⟩ := paired_get hbs hx
    have les := Paired.length hes
    have lvs := Paired.length hvs
    have hf1 := flat_le v.bars i
    have hf2 := flat_le v.bars (i + 1)
    rw [flat_take hbi, List.length_append] at hf2
    refine ⟨_, rfl, .inl ⟨rfl, _, SqL.of h1⟩, _, rfl, y, _, dy, _, _, rfl, s7 _ _ hy1, T.cl_Bar, T.n_Bar_events, l_Bar_events, p, le, es, vs, rfl, rfl, h1, s7 _ _ hy2, by rw [sizeLine_eq]; omega, ?_⟩
    refine ⟨_, es ++ vs, rfl, upd_same, ?_, fun b o e => ?_⟩
    · rw [flat_take hbi]
      exact pairedApp hes hvs
    · rw [upd_ne (ne_of_none e np)]; exact s7 _ _ e
  · rintro σ H7 ⟨u, es, rfl, h1, hes, s7⟩
    have lbs := Paired.length hbs
    rw [lbs, List.take_length] at hes
    exact ⟨_, rfl, hq p H7 es np s7 h1 hes⟩
theorem fault_out {E : XK} {H : Hp} {k p : Nat} (hE : RaiseF A E [] H k p) : [V.int (k : Int), V.int (p : Int)].length ≤ 1000 ∧ ∀ a, H a = none → sp_Faulty_init K A (.ref a :: ([V.int (k : Int), V.int (p : Int)] ++ [])) (upd H a (exo a A.C_Faulty none))
    (fun v H2 => v = .non ∧ ∃ (d : Addr) (fs : List (Str × V)), H2 a = some (exo a A.C_Faulty (some d)) ∧ H2 d = some (exd d fs) ∧ H d = none ∧ E (.ref A.C_Faulty) (some d) (upd (del H2 a) d (.xd fs))) (fun _ _ _ => False) := by
  refine ⟨by show 2 ≤ 1000; decide, fun q nq => ?_⟩
  refine ⟨_, _, _, rfl, q, rfl, upd_same, fun d H2 nd ne h1 h2 h3 => ⟨rfl, d, _, h1, h2, ?_, ?_⟩⟩
  · rw [upd_ne ne] at nd; exact nd
  · rw [upd_ne ne] at nd
    exact faulty_end hE nq nd ne h3
def sp_want_bars (K : PySem.W.Frag) (A : Ad) : Sp := sp2 fun x y H Q E => ∃ v m, VoiceA K A H x v ∧ VoiceOk v ∧ barsSize v.bars ≤ 2000 ∧ FrA K H y m ∧ Sm m ∧ (∀ b, (v.bars.find? fun b => !Sx62.fits m b) = some b → RaiseF A E [] H 5 b.place) ∧ ((v.bars.find? fun b => !Sx62.fits m b) = none → ∀ H', Same H H' → Q .non H')
theorem ok_want_bars (T : Txt K mg A) : FnOk P w K mg base (L2N.CX P w) 6 A.a_want_bars A.d_want_bars ["voice", "whole"] (sp_want_bars K A) := by
  have G_Bar_length := ok_Bar_length (P := P) (w := w) (base := base) T
  have G_Faulty_init := ok_Faulty_init (P := P) (w := w) (base := base) T
  have G_is_below := ok_is_below (P := P) (w := w) (base := base) T
  refine okN T.F_want_bars sc_want_bars (sp2_len) (fun cdv Ar outer s H vs Q E hr h tk => ?_)
  refine ⟨_, (pss_one (ps_for (passes_of rfl) rfl (pi_list (pe_fld (pv 0) rfl)) (pg_name (i := 2) sc_want_bars.nd rfl (Or.inl rfl)) (pss_cons (ps_set (i := 3) sc_want_bars.nd rfl (Or.inl rfl) (pe_cmpR (op_eqD (hD hr)) (pe_meth0 (pv 2) T.cl_Bar T.m_Bar_length G_Bar_length (hr.mono (by decide)) T.b_Bar_length .nil pass0) (pv 1) (nomark _)))
      (pss_cons (ps_if (pt_val (pe_fld (pv 2) rfl)) (pss_one (ps_set (i := 3) sc_want_bars.nd rfl (Or.inl rfl) (pe_call G_is_below (hr.mono (by decide)) rfl T.g_is_below T.F_is_below.kp T.b_is_below .nil pass0 (pa_cons (pe_meth0 (pv 2) T.cl_Bar T.m_Bar_length G_Bar_length (hr.mono (by decide)) T.b_Bar_length .nil pass0) (pa_cons (pv 1) pa_nil))))) pss_nil)
      (pss_one (ps_if (pt_not (pt_val (pv 3))) (pss_one (L2N.ps_raise rfl tk (pmk_oexN T.X_Faulty T.i_Faulty T.t_Faulty G_Faulty_init (hr.mono (by decide)) T.b_Faulty_init pass0 rfl T.g_Faulty (pa_cons (pe_gI T.c_BAD_BAR) (pa_cons (pe_fld (pv 2) rfl) pa_nil))))) pss_nil)))))), ?_⟩
  obtain ⟨x, y, rfl, v, m, ⟨q, dq, lb, bs, rfl, hq1, hq2, hbs⟩, hok, hsz, hy, hm, hE, hq⟩ := h
  have lbs := Paired.length hbs
  refine ⟨_, rfl, q, _, dq, _, _, rfl, hq1, T.cl_Voice, T.n_Voice_bars, l_Voice_bars, lb, rfl, ⟨_, SqL.of hq2⟩, for_it (walk_list (K := K) (a := lb) (xs := bs)) (fun i σ H' => ∃ u1 u2, σ = [some (.ref q), some y, u1, u2] ∧ Same H H' ∧ ∀ j b, j < i → v.bars[j]? = some b → (!Sx62.fits m b) = false) ⟨none, none, rfl, Same.refl _, fun j b h => absurd h (Nat.not_lt_zero _)⟩ (fun i σ H' _ ⟨_, _, _, h, _⟩ => SqL.of (h _ _ hq2)) ?_ ?_⟩
  · rintro i x σ H7 H8 hi ⟨u1, u2, rfl, s7, hj⟩ ⟨rfl, hx⟩
    obtain ⟨b, hbi, hb⟩ := paired_get hbs hx
    have hb' := hb
    obtain ⟨y1, dy, lw, le, vs, rfl, hy1, _, hy2, hvs⟩ := hb'
    have hbok := hok.bars b (List.mem_of_getElem? hbi)
    have hbl : b.notes.length ≤ 2000 := by
      have := bar_size (List.mem_of_getElem? hbi)
      have := notes_len b
      omega
    refine ⟨_, rfl, y1, dy, _, rfl, s7 _ _ hy1, l_Bar_length, _, rfl, b, hb.mono s7, hbok, hbl, fun f H9 s9 hf => ?_⟩
    have s79 := s7.trans s9
    have hy9 := hy.mono s79
    have fin : ∀ (r : Bool) (Hr : Hp), Same H Hr → r = Sx62.fits m b → tIfS (tNot (tB (tVar 3)))
        (fun D σ H_1 => tMkO A.C_Faulty (sp_Faulty_init K A) [] (tCons (tC (V.int 5)) (tCons (tFld K (tVar 2) (Str.ofString "place")) tNil)) σ H_1 fun cls d H' => E cls d H') tNext
        { nx := fun σ H' => ∃ u1 u2, σ = [some (V.ref q), some y, u1, u2] ∧ Same H H' ∧ ∀ (j : Nat) (b : Sx62.Bar), j < i + 1 → v.bars[j]? = some b → (!Sx62.fits m b) = false, rt := Q, bk := fun _ H' => Q .non H', ct := fun σ H' => ∃ u1 u2, σ = [some (V.ref q), some y, u1, u2] ∧ Same H H' ∧ ∀ (j : Nat) (b : Sx62.Bar), j < i + 1 → v.bars[j]? = some b → (!Sx62.fits m b) = false }
        [some (V.ref q), some y, some (.ref y1), some (.bl r)] Hr := by
      intro r Hr sr er
      refine ⟨_, rfl, r, rfl, ?_⟩
      cases r with
      | true =>
        refine ite_f rfl ⟨_, _, rfl, sr, fun j b' hjl hb' => ?_⟩
        by_cases hji : j = i
        · subst hji; rw [hbi] at hb'; cases hb'; rw [← er]; rfl
        · exact hj j b' (by omega) hb'
      | false =>
        refine ite_t rfl ?_
        refine ⟨_, rfl, y1, _, dy, _, _, rfl, sr _ _ hy1, T.cl_Bar, T.n_Bar_place, l_Bar_place, fault_out ?_⟩
        exact (hE b (find_some hj hbi (by rw [← er]; rfl))).back (SB.of sr) fun _ h => h
    refine ⟨_, rfl, fd b.long, fd m, hf.dp, hy9.dp, fd_shaped _, fd_shaped _, ?_⟩
    rw [fd_eqv]
    refine ⟨_, rfl, y1, _, dy, _, _, rfl, s79 _ _ hy1, T.cl_Bar, T.n_Bar_is_short, l_Bar_is_short, b.short, rfl, ?_⟩
    cases hsh : b.short with
    | false =>
      refine ite_f rfl (fin _ _ s79 ?_)
      unfold Sx62.fits
      rw [hsh]
      rfl
    | true =>
      refine ite_t rfl ?_
      refine ⟨_, rfl, y1, dy, _, rfl, s79 _ _ hy1, l_Bar_length, _, rfl, b, hb.mono s79, hbok, hbl, fun g H10 s10 hg => ?_⟩
      refine ⟨_, rfl, _, _, rfl, b.long, m, hg, hy9.mono s10, bar_sm hbok hbl, hm, ?_⟩
      refine fin _ _ (s79.trans s10) ?_
      unfold Sx62.fits
      rw [hsh, if_pos rfl]
  · rintro σ H7 ⟨u1, u2, rfl, s7, hj⟩
    rw [lbs] at hj
    exact hq (find_none hj) H7 s7
def sp_want_ties (K : PySem.W.Frag) (A : Ad) : Sp := sp1 fun x H Q E => ∃ v, VoiceA K A H x v ∧ VoiceOk v ∧ barsSize v.bars ≤ 2000 ∧ (∀ n, Sx62.loose v.notes = some n → RaiseF A E [] H 6 n.place) ∧ (Sx62.loose v.notes = none → ∀ H', Same H H' → Q .non H')
theorem ok_want_ties (T : Txt K mg A) : FnOk P w K mg base (L2N.CX P w) 3 A.a_want_ties A.d_want_ties ["voice"] (sp_want_ties K A) := by
  have G_Faulty_init := ok_Faulty_init (P := P) (w := w) (base := base) T
  have G_Voice_all_events := ok_Voice_all_events (P := P) (w := w) (base := base) T
  refine okN T.F_want_ties sc_want_ties (sp1_len) (fun cdv Ar outer s H vs Q E hr h tk => ?_)
  refine ⟨_, (pss_cons (ps_set (i := 1) sc_want_ties.nd rfl (Or.inl rfl) (pe_meth0 (pv 0) T.cl_Voice T.m_Voice_all_events G_Voice_all_events (hr.mono (by decide)) T.b_Voice_all_events .nil pass0))
      (pss_one (ps_for (passes_of rfl) rfl (pi_enum (by rfl) T.z_enumerate (pa_cons (pv 1) pa_nil)) (pg_tup (n := 2) rfl (pgs_cons (pg_name (i := 2) sc_want_ties.nd rfl (Or.inl rfl)) (pgs_cons (pg_name (i := 3) sc_want_ties.nd rfl (Or.inl rfl)) pgs_nil))) (pss_cons (ps_set (i := 4) sc_want_ties.nd rfl (Or.inr rfl) (pe_lst pa_nil))
      (pss_cons (ps_if (pt_cmpR op_lt (pe_op op_add (pv 2) pe_int) (pe_callB call_len_seq (by rfl) T.z_len PySem.boot_len (pa_cons (pv 1) pa_nil)) (nomark _)) (pss_one (ps_set (i := 4) sc_want_ties.nd rfl (Or.inr rfl) (pe_fld (pe_ix ix_list (pv 1) (pe_op op_add (pv 2) pe_int) (fun _ _ => rfl)) rfl))) pss_nil)
      (pss_one (ps_if (PW.pt (pw_and (pt_val (pe_fld (pv 3) rfl)) (pw_and1 (pt_not (pt_val (pe_callB (cr_all rfl) (by rfl) T.z_all (by decide +kernel) (pa_cons (pe_lc (own := [("pitch", 5)]) (g := gName 5) (tt := tYes) rfl sc_want_ties.nd (pi_list (pe_fld (pv 3) rfl)) (blkOk_by (N := ["voice", "events", "k", "event", "behind", "pitch"]) (sc := defScope s_want_ties) (by decide +kernel)) (fun _ _ _ _ _ => (pg_name (i := 5) sc_want_ties.nd rfl (Or.inl rfl))) (fun _ _ _ _ _ => pts_nil) (fun _ _ _ _ _ => (pe_cmpR (op_inDK (K := K) (by rfl) (hD2 hr)) (pv 5) (pv 4) rfl))) pa_nil))))))) (pss_one (L2N.ps_raise rfl tk (pmk_oexN T.X_Faulty T.i_Faulty T.t_Faulty G_Faulty_init (hr.mono (by decide)) T.b_Faulty_init pass0 rfl T.g_Faulty (pa_cons (pe_gI T.c_BAD_TIE) (pa_cons (pe_fld (pv 3) rfl) pa_nil))))) pss_nil))))))), ?_⟩
  obtain ⟨x, rfl, v, hv, hok, hsz, hE, hq⟩ := h
  have hv' := hv
  obtain ⟨q, dq, lb, bs, rfl, hq1, hq2, hbs⟩ := hv'
  have hnl : v.notes.length ≤ 2000 := Nat.le_trans (notes_size v.bars) hsz
  have htie : ∀ t ∈ v.notes, t.tie = true → t.ps ≠ [] := fun t ht => (hok.evs t ht).tie
  refine ⟨_, rfl, q, dq, _, rfl, hq1, l_Voice_all_events, _, rfl, v, hv, hsz, fun p H1 es np s1 hp hes => ?_⟩
  have les := Paired.length hes
  refine ⟨_, rfl, p, _, rfl, SqL.of hp, for_it (walk_enum (K := K) (a := p) (xs := es)) (fun i σ H' => ∃ u1 u2 u3 u4, σ = [some (.ref q), some (.ref p), u1, u2, u3, u4] ∧ Same H1 H' ∧ ∀ j, j < i → badTie v.notes j = false) ⟨none, none, none, none, rfl, Same.refl _, fun j h => absurd h (Nat.not_lt_zero _)⟩ (fun i σ H' _ ⟨_, _, _, _, _, h, _⟩ => SqL.of (h _ _ hp)) ?_ ?_⟩
  · rintro i y σ H7 H8 hi ⟨u1, u2, u3, u4, rfl, s7, hj⟩ ⟨t, x1, y1, rfl, nt, rfl, e1, e2⟩
    cases e1
    obtain ⟨n, hni, z, dz, l, f, ps, rfl, hz1, hz2, hz3, hz4⟩ := paired_get hes e2
    have s8 := s7.trans (same_new (o := .tup [.int (i : Nat), .ref z]) nt)
    have s08 := s1.trans s8
    refine ⟨t, _, rfl, SqT.of upd_same, rfl, _, _, rfl, _, _, rfl, rfl, ?_⟩
    generalize upd H7 t (.tup [.int (i : Nat), .ref z]) = H9 at s8 s08 ⊢
    refine ⟨by show 0 ≤ sizeLine; decide, fun b0 nb0 => ?_⟩
    have sb := same_new (o := .lst []) nb0
    have hz1' := (s08.trans sb) _ _ hz1
    have ebad : badTie v.notes i = (n.tie && !(n.ps.all fun p => (behindOf v.notes i).contains p)) := by
      unfold badTie
      rw [hni]
    have fin : ∀ (D : Ends) (bh : Addr) (bvs : List V) (Hr : Hp), Same H Hr → Same H9 Hr → Hr bh = some (.lst bvs) → Paired (PiA K Hr) bvs (behindOf v.notes i) → (∀ H', Same H9 H' → badTie v.notes i = false → D.nx [some (V.ref q), some (V.ref p), some (.int (i : Int)), some (.ref z), some (.ref bh), u4] H') → tIfS (tAnd (tB (tFld K (tVar 3) (Str.ofString "is_tied")))
          (tNot (tB (tCB (rAll K) (tCons (tLc (iList K (tFld K (tVar 3) (Str.ofString "pitches"))) (gName 5) tYes (tOp (rInD K) (tVar 5) (tVar 4)) [5]) tNil)))))
        (fun D σ H_1 => tMkO A.C_Faulty (sp_Faulty_init K A) [] (tCons (tC (V.int 6)) (tCons (tFld K (tVar 3) (Str.ofString "place")) tNil)) σ H_1 fun cls d H' => E cls d H') tNext D
        [some (V.ref q), some (V.ref p), some (.int (i : Int)), some (.ref z), some (.ref bh), u4] Hr := by
      intro D bh bvs Hr sr sr9 hbh hbp hD
      have hzr := sr _ _ hz1
      refine ⟨_, rfl, z, _, dz, _, _, rfl, hzr, T.cl_Event, T.n_Event_is_tied, l_Event_is_tied, n.tie, rfl, ?_⟩
      cases ht : n.tie with
      | false => exact ite_f rfl (hD Hr sr9 (by rw [ebad, ht]; rfl))
      | true =>
        refine ite_t rfl ?_
        have lps := Paired.length hz3
        refine ⟨_, rfl, z, _, dz, _, _, rfl, hzr, T.cl_Event, T.n_Event_pitches, l_Event_pitches, l, rfl, ⟨_, SqL.of (sr _ _ hz2)⟩, fun D2 nD => lc_it (walk_list (K := K) (a := l) (xs := ps)) (fun i' H' => H' D2 = some (.lst (((n.ps.take i').map fun p => (behindOf v.notes i).contains p).map V.bl)) ∧ Same Hr H') ⟨upd_same, same_new nD⟩ (fun i' H' _ h => SqL.of (h.2 _ _ (sr _ _ hz2))) ?_ ?_⟩
        · rintro i' x Ha Hb hi' ⟨h1, sa⟩ ⟨rfl, hx⟩
          obtain ⟨pt, hpt, hpi⟩ := paired_get hz3 hx
          have sra := sr.trans sa
          refine ⟨rfl, _, rfl, _, rfl, pd pt, (behindOf v.notes i).map pd, (hpi.mono sra).dp, .lst (SqL.of (sa _ _ hbh)) (pis_dp (pairedMono (fun _ _ h => h.mono sa) hbp)), pd_shaped _, pds_shaped _, _, h1, ?_, ?_, fun b o e => ?_⟩
          · have h6 := (hok.evs n (List.mem_of_getElem? hni)).six
            rw [List.length_map, List.length_map, List.length_take, sizeLine_eq]; omega
          · rw [pds_any, take_more hpt, List.map_append, List.map_append]
            exact upd_same
          · rw [upd_ne (ne_of_none e nD)]; exact sa _ _ e
        · rintro Ha ⟨h1, sa⟩
          rw [lps, List.take_length] at h1
          refine ⟨D2, n.ps.map fun p => (behindOf v.notes i).contains p, rfl, SqL.of h1, _, rfl, ?_⟩
          have eall : ((n.ps.map fun p => (behindOf v.notes i).contains p).all id) = (n.ps.all fun p => (behindOf v.notes i).contains p) := by
            rw [List.all_map]; rfl
          cases hal : (n.ps.all fun p => (behindOf v.notes i).contains p) with
          | true =>
            refine ite_f (by rw [eall, hal]; rfl) (hD Ha (sr9.trans sa) (by rw [ebad, ht, hal]; rfl))
          | false =>
            refine ite_t (by rw [eall, hal]; rfl) ?_
            refine ⟨_, rfl, z, _, dz, _, _, rfl, sa _ _ hzr, T.cl_Event, T.n_Event_place, l_Event_place, fault_out ?_⟩
            exact (hE n (loose_some htie hj (by rw [ebad, ht, hal]; rfl) hni)).back (SB.of (sr.trans sa)) fun _ h => h
    have next : ∀ bh H', Same H9 H' → badTie v.notes i = false → ∃ v1 v2 v3 v4, [some (V.ref q), some (V.ref p), some (.int (i : Int)), some (.ref z), some (.ref bh), u4] = [some (V.ref q), some (V.ref p), v1, v2, v3, v4] ∧ Same H1 H' ∧ ∀ j, j < i + 1 → badTie v.notes j = false := fun bh H' s' hb =>
      ⟨_, _, _, _, rfl, s8.trans s', fun j hjl => by
        by_cases hji : j = i
        · rw [hji]; exact hb
        · exact hj j (by omega)⟩
    refine ⟨_, rfl, _, _, rfl, rfl, _, rfl, p, _, rfl, .inl (SqL.of ((s8.trans sb) _ _ hp)), _, _, rfl, rfl, _, rfl, ?_⟩
    rw [les]
    refine iteB (fun hlt => ?_) (fun hlt => ?_)
    · have hlt : i + 1 < v.notes.length := by
        have := of_decide_eq_true hlt
        omega
      have hei : es[i + 1]? = some es[i + 1] := List.getElem?_eq_getElem (by rw [les]; exact hlt)
      obtain ⟨n2, hn2, z2, dz2, l2, f2, ps2, ez, hy1, hy2, hy3, _⟩ := paired_get hes hei
      refine ⟨_, rfl, _, rfl, _, _, rfl, rfl, p, es, _, es[i + 1], rfl, rfl, SqL.of ((s8.trans sb) _ _ hp), atI_nat (j := i + 1) hei, z2, _, dz2, _, _, ez, (s08.trans sb) _ _ hy1, T.cl_Event, T.n_Event_pitches, l_Event_pitches, ?_⟩
      refine fin _ l2 ps2 _ (s08.trans sb) sb ((s08.trans sb) _ _ hy2) ?_ (next l2)
      have e : behindOf v.notes i = n2.ps := by unfold behindOf; rw [hn2]
      rw [e]
      exact pairedMono (fun _ _ h => h.mono (s08.trans sb)) hy3
    · have hlt : ¬ i + 1 < v.notes.length := by
        have := of_decide_eq_false hlt
        omega
      refine fin _ b0 [] _ (s08.trans sb) sb upd_same ?_ (next b0)
      have e : behindOf v.notes i = [] := by
        unfold behindOf
        rw [List.getElem?_eq_none (by omega)]
      rw [e]
      exact .nil
  · rintro σ H7 ⟨u1, u2, u3, u4, rfl, s7, hj⟩
    rw [les] at hj
    exact hq (loose_none htie hj) H7 (s1.trans s7)
def sp_want_alike (K : PySem.W.Frag) (A : Ad) : Sp := sp2 fun x y H Q E => ∃ v f, VoiceA K A H x v ∧ VoiceA K A H y f ∧ VoiceOk v ∧ VoiceOk f ∧ barsSize v.bars ≤ 2000 ∧ barsSize f.bars ≤ 2000 ∧ (∀ p, Sx62.against v.place f.bars v.bars = some p → RaiseF A E [] H 7 p) ∧ (Sx62.against v.place f.bars v.bars = none → ∀ H', Same H H' → Q .non H')
theorem ok_want_alike (T : Txt K mg A) : FnOk P w K mg base (L2N.CX P w) 6 A.a_want_alike A.d_want_alike ["voice", "first"] (sp_want_alike K A) := by
  have G_Bar_length := ok_Bar_length (P := P) (w := w) (base := base) T
  have G_Faulty_init := ok_Faulty_init (P := P) (w := w) (base := base) T
  refine okN T.F_want_alike sc_want_alike (sp2_len) (fun cdv Ar outer s H vs Q E hr h tk => ?_)
  refine ⟨_, (pss_cons (ps_for (passes_of rfl) rfl (pi_enum (by rfl) T.z_enumerate (pa_cons (pe_fld (pv 0) rfl) pa_nil)) (pg_tup (n := 2) rfl (pgs_cons (pg_name (i := 2) sc_want_alike.nd rfl (Or.inl rfl)) (pgs_cons (pg_name (i := 3) sc_want_alike.nd rfl (Or.inl rfl)) pgs_nil))) (pss_one (ps_if (PW.pt (pw_or (pt_cmpR op_ge (pv 2) (pe_callB call_len_seq (by rfl) T.z_len PySem.boot_len (pa_cons (pe_fld (pv 1) rfl) pa_nil)) (nomark _)) (pw_or1 (pt_cmpR (op_neD (hD hr)) (pe_meth0 (pv 3) T.cl_Bar T.m_Bar_length G_Bar_length (hr.mono (by decide)) T.b_Bar_length .nil pass0) (pe_meth0 (pe_ix ix_list (pe_fld (pv 1) rfl) (pv 2) (fun _ _ => rfl)) T.cl_Bar T.m_Bar_length G_Bar_length (hr.mono (by decide)) T.b_Bar_length .nil pass0) (nomark _))))) (pss_one (L2N.ps_raise rfl tk (pmk_oexN T.X_Faulty T.i_Faulty T.t_Faulty G_Faulty_init (hr.mono (by decide)) T.b_Faulty_init pass0 rfl T.g_Faulty (pa_cons (pe_gI T.c_UNLIKE) (pa_cons (pe_fld (pv 3) rfl) pa_nil))))) pss_nil)))
      (pss_one (ps_if (pt_cmpR op_lt (pe_callB call_len_seq (by rfl) T.z_len PySem.boot_len (pa_cons (pe_fld (pv 0) rfl) pa_nil)) (pe_callB call_len_seq (by rfl) T.z_len PySem.boot_len (pa_cons (pe_fld (pv 1) rfl) pa_nil)) (nomark _)) (pss_one (L2N.ps_raise rfl tk (pmk_oexN T.X_Faulty T.i_Faulty T.t_Faulty G_Faulty_init (hr.mono (by decide)) T.b_Faulty_init pass0 rfl T.g_Faulty (pa_cons (pe_gI T.c_UNLIKE) (pa_cons (pe_fld (pv 0) rfl) pa_nil))))) pss_nil))), ?_⟩
  obtain ⟨x, y, rfl, v, f, hv, hf, hvok, hfok, hvs, hfs, hE, hq⟩ := h
  obtain ⟨q, dq, lb, bs, rfl, hq1, hq2, hbs⟩ := hv
  obtain ⟨r, dr, lf, fs, rfl, hr1, hr2, hfb⟩ := hf
  have lbs := Paired.length hbs
  have lfs := Paired.length hfb
  refine ⟨_, rfl, q, _, dq, _, _, rfl, hq1, T.cl_Voice, T.n_Voice_bars, l_Voice_bars, lb, _, rfl, SqL.of hq2, for_it (walk_enum (K := K) (a := lb) (xs := bs)) (fun i σ H' => ∃ u1 u2, σ = [some (.ref q), some (.ref r), u1, u2] ∧ Same H H' ∧ ∀ j, j < i → unlike f.bars v.bars j = false) ⟨none, none, rfl, Same.refl _, fun j h => absurd h (Nat.not_lt_zero _)⟩ (fun i σ H' _ ⟨_, _, _, h, _⟩ => SqL.of (h _ _ hq2)) ?_ ?_⟩
  · rintro i y σ H7 H8 hi ⟨u1, u2, rfl, s7, hj⟩ ⟨t, x1, y1, rfl, nt, rfl, e1, e2⟩
    cases e1
    obtain ⟨b, hbi, hb⟩ := paired_get hbs e2
    have hb' := hb
    obtain ⟨z, dz, lw, le, vs, rfl, hz1, _, _, _⟩ := hb'
    have s8 := s7.trans (same_new (o := .tup [.int (i : Nat), .ref z]) nt)
    refine ⟨t, _, rfl, SqT.of upd_same, rfl, _, _, rfl, _, _, rfl, rfl, ?_⟩
    generalize upd H7 t (.tup [.int (i : Nat), .ref z]) = H9 at s8 ⊢
    have bad : ∀ Hr, Same H Hr → unlike f.bars v.bars i = true → RaiseF A E [] Hr 7 b.place := fun Hr sr hu => (hE b.place (against_some hj hu hbi)).back (SB.of sr) fun _ h => h
    have szb : b.notes.length ≤ 2000 := by
      have := bar_size (List.mem_of_getElem? hbi)
      have := notes_len b
      omega
    refine ⟨_, rfl, _, rfl, r, _, dr, _, _, rfl, s8 _ _ hr1, T.cl_Voice, T.n_Voice_bars, l_Voice_bars, lf, _, rfl, .inl (SqL.of (s8 _ _ hr2)), _, _, rfl, rfl, _, rfl, ?_⟩
    rw [lfs]
    refine iteB (fun hge => ?_) (fun hge => ?_)
    · have hge : f.bars.length ≤ i := by
        have := of_decide_eq_true hge
        omega
      refine ite_t rfl ?_
      refine ⟨_, rfl, z, _, dz, _, _, rfl, s8 _ _ hz1, T.cl_Bar, T.n_Bar_place, l_Bar_place, fault_out (bad _ s8 ?_)⟩
      unfold unlike
      rw [hbi, List.getElem?_eq_none hge]
    · have hge : i < f.bars.length := by
        have := of_decide_eq_false hge
        omega
      have hfi : fs[i]? = some fs[i] := List.getElem?_eq_getElem (by rw [lfs]; exact hge)
      obtain ⟨c, hci, hc⟩ := paired_get hfb hfi
      have hc' := hc
      obtain ⟨zc, dzc, lwc, lec, vsc, ezc, hzc1, _, _, _⟩ := hc'
      rw [ezc] at hfi hc
      have szc : c.notes.length ≤ 2000 := by
        have := bar_size (List.mem_of_getElem? hci)
        have := notes_len c
        omega
      refine ⟨_, rfl, z, dz, _, rfl, s8 _ _ hz1, l_Bar_length, _, rfl, b, hb.mono s8, hvok.bars b (List.mem_of_getElem? hbi), szb, fun g Ha sa hg => ?_⟩
      have s8a := s8.trans sa
      refine ⟨_, rfl, r, _, dr, _, _, rfl, s8a _ _ hr1, T.cl_Voice, T.n_Voice_bars, l_Voice_bars, _, rfl, lf, fs, _, _, rfl, rfl, SqL.of (s8a _ _ hr2), atI_nat (j := i) hfi, ?_⟩
      refine ⟨zc, dzc, _, rfl, s8a _ _ hzc1, l_Bar_length, _, rfl, c, hc.mono s8a, hfok.bars c (List.mem_of_getElem? hci), szc, fun g2 Hb sb hg2 => ?_⟩
      have s8b := s8a.trans sb
      refine ⟨fd b.long, fd c.long, (hg.mono sb).dp, hg2.dp, fd_shaped _, fd_shaped _, _, rfl, ?_⟩
      rw [fd_eqv]
      have eu : unlike f.bars v.bars i = !(c.long == b.long) := by
        unfold unlike
        rw [hbi, hci]
      have ecomm : (b.long == c.long) = (c.long == b.long) := by
        rw [Bool.eq_iff_iff, beq_iff_eq, beq_iff_eq]
        exact ⟨Eq.symm, Eq.symm⟩
      rw [ecomm]
      refine iteB (fun hb => ?_) (fun hb => ?_)
      · refine ⟨_, rfl, z, _, dz, _, _, rfl, s8b _ _ hz1, T.cl_Bar, T.n_Bar_place, l_Bar_place, fault_out (bad _ s8b ?_)⟩
        rw [eu]; exact hb
      · refine ⟨_, _, rfl, s8b, fun j hjl => ?_⟩
        by_cases hji : j = i
        · rw [hji, eu]; exact hb
        · exact hj j (by omega)
  · rintro σ H7 ⟨u1, u2, rfl, s7, hj⟩
    rw [lbs] at hj
    have hag := against_end (e := v.place) hj
    refine ⟨_, rfl, q, _, dq, _, _, rfl, s7 _ _ hq1, T.cl_Voice, T.n_Voice_bars, l_Voice_bars, lb, _, rfl, .inl (SqL.of (s7 _ _ hq2)), ?_⟩
    refine ⟨_, rfl, r, _, dr, _, _, rfl, s7 _ _ hr1, T.cl_Voice, T.n_Voice_bars, l_Voice_bars, lf, _, rfl, .inl (SqL.of (s7 _ _ hr2)), _, _, rfl, rfl, _, rfl, ?_⟩
    rw [lbs, lfs]
    refine iteB (fun hlt => ?_) (fun hlt => ?_)
    · have hlt : v.bars.length < f.bars.length := by
        have := of_decide_eq_true hlt
        omega
      rw [if_pos hlt] at hag
      refine ⟨_, rfl, q, _, dq, _, _, rfl, s7 _ _ hq1, T.cl_Voice, T.n_Voice_place, l_Voice_place, fault_out ?_⟩
      exact (hE _ hag).back (SB.of s7) fun _ h => h
    · have hlt : ¬ v.bars.length < f.bars.length := by
        have := of_decide_eq_false hlt
        omega
      rw [if_neg hlt] at hag
      exact hq hag H7 s7
end
end Sc

set_option Elab.async false
set_option linter.all false
set_option maxRecDepth 100000
set_option maxHeartbeats 4000000
/-! # a text read -/
namespace Sc
open PySem PySem.Spec PyProof.Rows L2 Pf
open Sx62 (Frac Pitch Word Timed Piece)
theorem sg_words_ok {bs : List Nat} (h : bs.length ≤ 1500) : WsOk ((Sx62.words bs).map sgW) ∧ ((Sx62.words bs).map sgW).length ≤ 1501 := by
  obtain ⟨h1, h2, h3⟩ := words_bound bs 0 0 []
  have h1 : (Sx62.words bs).length ≤ bs.length + 0 := h1
  have h2 : ((Sx62.words bs).map fun x => x.text.length).sum ≤ bs.length + 0 := h2
  have h3 : ∀ x ∈ Sx62.words bs, x.text ≠ [] := h3
  have hle : ∀ x ∈ Sx62.words bs, x.text.length ≤ 1500 := fun x hx => by
    have : x.text.length ≤ ((Sx62.words bs).map fun x => x.text.length).sum := by
      have hm : x.text.length ∈ ((Sx62.words bs).map fun x => x.text.length) := List.mem_map.mpr ⟨x, hx, rfl⟩
      generalize ((Sx62.words bs).map fun x => x.text.length) = ls at hm
      induction ls with
      | nil => cases hm
      | cons a ls ih =>
        rw [List.sum_cons]
        rcases List.mem_cons.mp hm with h | h
        · omega
        · have := ih h; omega
    omega
  refine ⟨⟨by rw [List.length_map]; omega, fun x hx => ?_, fun x hx => ?_⟩, by rw [List.length_map]; omega⟩
  · obtain ⟨y, hy, rfl⟩ := List.mem_map.mp hx
    intro z
    exact h3 y hy (List.map_eq_nil_iff.mp z)
  · obtain ⟨y, hy, rfl⟩ := List.mem_map.mp hx
    show (y.text.map sg).length ≤ 2000
    rw [List.length_map]
    have := hle y hy
    omega
theorem ScoreOk.mono {n m : Nat} {s : Sx62.Score} (h : ScoreOk n s) (hm : n ≤ m) : ScoreOk m s := ⟨h.voices, h.ne, h.four, Nat.le_trans h.size hm, h.b0, h.b1, h.u0, h.u1, h.k⟩
theorem ScoreOk.sm {n : Nat} {s : Sx62.Score} (h : ScoreOk n s) : Sm s.metre := by
  have h0 : 0 < s.unit := h.u0
  have h1 : (Sx62.lowest s.beats s.unit).den ≤ s.unit := Nat.le_of_dvd h0 (lowest_den_dvd _ _)
  have h2 : (Sx62.lowest s.beats s.unit).num ≤ s.beats := by rw [lowest_num]; exact Nat.div_le_self _ _
  have h3 := h.b1
  have h4 := h.u1
  exact ⟨lowest_den_pos h0, by show (Sx62.lowest s.beats s.unit).den < _; omega, by show (Sx62.lowest s.beats s.unit).num < _; omega⟩
theorem sum_mem {l : List Nat} {x : Nat} (h : x ∈ l) : x ≤ l.sum := by
  induction l with
  | nil => cases h
  | cons a l ih =>
    rw [List.sum_cons]
    rcases List.mem_cons.mp h with h | h
    · omega
    · have := ih h; omega
theorem ScoreOk.vsize {n : Nat} {s : Sx62.Score} (h : ScoreOk n s) {v : Sx62.Voice} (hv : v ∈ s.voices) : barsSize v.bars ≤ n :=
  Nat.le_trans (sum_mem (List.mem_map.mpr ⟨v, hv, rfl⟩)) h.size
theorem fault_first {s : Sx62.Score} {v0 : Sx62.Voice} (h : s.voices[0]? = some v0) : s.fault = s.voices.findSome? (Sx62.faultOf s.metre v0.bars) := by
  unfold Sx62.Score.fault
  cases hv : s.voices with
  | nil => rw [hv] at h; cases h
  | cons a l =>
    rw [hv] at h
    have : a = v0 := by simpa using h
    subst this
    rfl
section
variable {P : Program} {w : World} {K : PySem.W.Frag} {mg : Str → Option Value} {base : Heap} {A : Ad}
def sp_read_score (K : PySem.W.Frag) (A : Ad) : Sp := sp1 fun x H Q E => ∃ (l : Addr) (bs : List Nat) (M : List Addr), x = .ref l ∧ H l = some (.lst (nvs bs)) ∧ MOk M H ∧ bs.length ≤ 1500 ∧ (∀ x, Sx62.read bs = .error x → RaiseF A E [] H x.kind x.place) ∧
  (∀ s, Sx62.read bs = .ok s → ScoreOk 1501 s → (∀ v ∈ s.voices, Sx62.loose v.notes = none) → ∀ u H', Same H H' → ScoreA K A (hid M H') u s → Q u H')
theorem ok_read_score (T : Txt K mg A) : FnOk P w K mg base (L2N.CX P w) 10 A.a_read_score A.d_read_score ["text"] (sp_read_score K A) := by
  have G_Faulty_init := ok_Faulty_init (P := P) (w := w) (base := base) T
  have G_Reader_init := ok_Reader_init (P := P) (w := w) (base := base) T
  have G_Reader_score := ok_Reader_score (P := P) (w := w) (base := base) T
  have G_bad_byte := ok_bad_byte (P := P) (w := w) (base := base) T
  have G_want_alike := ok_want_alike (P := P) (w := w) (base := base) T
  have G_want_bars := ok_want_bars (P := P) (w := w) (base := base) T
  have G_want_ties := ok_want_ties (P := P) (w := w) (base := base) T
  refine okN T.F_read_score sc_read_score (sp1_len) (fun cdv Ar outer s H vs Q E hr h tk => ?_)
  refine ⟨_, (pss_cons (ps_set (i := 1) sc_read_score.nd rfl (Or.inl rfl) (pe_call G_bad_byte (hr.mono (by decide)) rfl T.g_bad_byte T.F_bad_byte.kp T.b_bad_byte .nil pass0 (pa_cons (pv 0) pa_nil)))
      (pss_cons (ps_if (pt_cmpR op_notN (pv 1) pe_non (nomark _)) (pss_one (L2N.ps_raise rfl tk (pmk_oexN T.X_Faulty T.i_Faulty T.t_Faulty G_Faulty_init (hr.mono (by decide)) T.b_Faulty_init pass0 rfl T.g_Faulty (pa_cons (pe_gI T.c_BAD_BYTE) (pa_cons (pv 1) pa_nil))))) pss_nil)
      (pss_cons (ps_set (i := 2) sc_read_score.nd rfl (Or.inl rfl) (pe_meth0 (pe_make T.M_Reader G_Reader_init (hr.mono (by decide)) rfl T.g_Reader T.b_Reader_init .nil pass0 (pa_cons (pv 0) pa_nil)) T.cl_Reader T.m_Reader_score G_Reader_score (hr.mono (by decide)) T.b_Reader_score .nil (L2N.passes_call tk fun _ _ _ _ h => h)))
      (pss_cons (ps_for (passes_of rfl) rfl (pi_list (pe_fld (pv 2) rfl)) (pg_name (i := 3) sc_read_score.nd rfl (Or.inl rfl)) (pss_cons (ps_expr (pe_call G_want_bars (hr.mono (by decide)) rfl T.g_want_bars T.F_want_bars.kp T.b_want_bars .nil (L2N.passes_call tk fun _ _ _ _ h => h) (pa_cons (pv 3) (pa_cons (pe_fld (pv 2) rfl) pa_nil))))
      (pss_cons (ps_expr (pe_call G_want_ties (hr.mono (by decide)) rfl T.g_want_ties T.F_want_ties.kp T.b_want_ties .nil (L2N.passes_call tk fun _ _ _ _ h => h) (pa_cons (pv 3) pa_nil)))
      (pss_one (ps_expr (pe_call G_want_alike (hr.mono (by decide)) rfl T.g_want_alike T.F_want_alike.kp T.b_want_alike .nil (L2N.passes_call tk fun _ _ _ _ h => h) (pa_cons (pv 3) (pa_cons (pe_ix ix_list (pe_fld (pv 2) rfl) pe_int (fun _ _ => rfl)) pa_nil))))))))
      (pss_one (ps_ret (pv 2))))))), ?_⟩
  obtain ⟨x, rfl, l, bs, M, rfl, hl, hM, hlen, hE, hq⟩ := h
  have hrd : Sx62.read bs = match bs.findIdx? fun c => !Sx62.okByte c with
    | some i => .error ⟨1, i⟩
    | none => match Sx62.parse bs.length (Sx62.words bs) with
      | .error x => .error x
      | .ok s => match s.fault with
        | some x => .error x
        | none => .ok s := rfl
  refine ⟨_, rfl, _, rfl, l, bs, rfl, SqL.of hl, fun H1 s1 => ?_⟩
  cases hbad : (bs.findIdx? fun c => !Sx62.okByte c) with
  | some i =>
    rw [hbad] at hrd
    refine ⟨_, rfl, rfl, _, rfl, ite_t rfl ?_⟩
    refine ⟨_, rfl, fault_out ((hE _ hrd).back (SB.of s1) fun _ h => h)⟩
  | none =>
    rw [hbad] at hrd
    simp only at hrd
    have hok : ∀ c ∈ bs, Sx62.okByte c = true := fun c hc => by
      have := List.findIdx?_eq_none_iff.mp hbad c hc
      simpa using this
    refine ⟨_, rfl, rfl, _, rfl, ite_f rfl ?_⟩
    have hl1 := s1 _ _ hl
    refine ⟨_, rfl, fun q dq nq nd ne => ?_⟩
    have hlq := ne_of_none hl1 nq
    have hld := ne_of_none hl1 nd
    have sq : Same H1 (upd (upd H1 dq (.own q)) q (.ins A.C_Reader dq [])) := fun b o e => by
      rw [upd_ne (ne_of_none e nq), upd_ne (ne_of_none e nd)]; exact e
    refine ⟨_, _, rfl, q, dq, l, bs, rfl, rfl, upd_same, sq _ _ hl1, by omega, hok, fun H2 aw x1 x2 x3 x4 z2 hR => ⟨rfl, ?_⟩⟩
    obtain ⟨dx2, _, ha2, _⟩ := hR.at_
    obtain ⟨hW, hWl⟩ := sg_words_ok hlen
    have nq0 : H q = none := (SB.of (M := []) s1).free nq
    have out : ∀ {H' : Hp}, SB [q] H2 H' → SB [] H H' := fun {H'} z => (SB.of (s1.trans sq)).out (z2.trans z) fun b hb => by
      rw [List.mem_singleton] at hb
      rw [hb]; exact .inr nq0
    refine ⟨q, dx2, _, rfl, ha2, l_Reader_score, ?_⟩
    have hMq : MOk (q :: M) H2 := fun b hb => by
      rcases List.mem_cons.mp hb with hb | hb
      · rw [hb]; exact ⟨_, ha2, trivial⟩
      · exact (hM.sb (M' := []) (SB.of (s1.trans sq))).sb z2 b hb
    have hpsg := parse_sg bs.length (Sx62.words bs)
    refine ⟨_, rfl, q, aw, _, bs.length, q :: M, _, _, _, _, rfl, hR, hW, by simp, hMq, fun x hx => ?_, fun s hs hsok u H3 z3 hS => ?_⟩
    · rw [hpsg] at hx
      rw [hx] at hrd
      exact fun d H' s2 hd => hE x hrd d H' (out s2) hd
    · rw [hpsg] at hs
      rw [hs] at hrd
      simp only at hrd
      have hsok := hsok.mono hWl
      have s3 : Same H H3 := (out z3).same
      have hS3 : ScoreA K A H3 u s := hS.mono (hid_sub (M := q :: M))
      have hSM : ScoreA K A (hid M H3) u s := hS.mono (hid_less (by intro b hb; exact List.mem_cons_of_mem _ hb))
      clear hS z3 z2 hR hMq out sq nq nd ne hlq hld
      have hS3' := hS3
      obtain ⟨sx, dsx, f, lv, vs, rfl, hs1, hf, hs2, hvs⟩ := hS3'
      have lvs := Paired.length hvs
      obtain ⟨v0, hv0⟩ : ∃ v0, s.voices[0]? = some v0 := by
        cases e : s.voices with
        | nil => exact absurd e hsok.ne
        | cons a l => exact ⟨a, rfl⟩
      have hv0m := List.mem_of_getElem? hv0
      rw [fault_first hv0] at hrd
      have hvx0 : vs[0]? = some (vs[0]'(by rw [lvs]; exact (List.getElem?_eq_some_iff.mp hv0).1)) := List.getElem?_eq_getElem _
      generalize vs[0]'(by rw [lvs]; exact (List.getElem?_eq_some_iff.mp hv0).1) = y0 at hvx0
      have hy0 : VoiceA K A H3 y0 v0 := by
        obtain ⟨b, hb1, hb2⟩ := paired_get hvs hvx0
        rw [hv0] at hb1
        cases hb1
        exact hb2
      refine ⟨_, rfl, sx, _, dsx, _, _, rfl, hs1, T.cl_Score, T.n_Score_voices, l_Score_voices, lv, rfl, ⟨_, SqL.of hs2⟩, for_it (walk_list (K := K) (a := lv) (xs := vs)) (fun i σ H' => ∃ u1 u2, σ = [some (.ref l), some u1, some (.ref sx), u2] ∧ Same H3 H' ∧ ∀ j v, j < i → s.voices[j]? = some v → Sx62.faultOf s.metre v0.bars v = none) ⟨_, none, rfl, Same.refl _, fun j v h => absurd h (Nat.not_lt_zero _)⟩ (fun i σ H' _ ⟨_, _, _, h, _⟩ => SqL.of (h _ _ hs2)) ?_ ?_⟩
      · rintro i x σ H7 H8 hi ⟨u1, u2, rfl, s7, hj⟩ ⟨rfl, hx⟩
        obtain ⟨v, hvi, hv⟩ := paired_get hvs hx
        have hvm := List.mem_of_getElem? hvi
        have hvok := hsok.voices v hvm
        have hvsz : barsSize v.bars ≤ 2000 := by
          have := hsok.vsize hvm
          omega
        have hv0sz : barsSize v0.bars ≤ 2000 := by
          have := hsok.vsize hv0m
          omega
        have bad : ∀ x Hr, Sx62.faultOf s.metre v0.bars v = some x → Same H3 Hr → RaiseF A E [] Hr x.kind x.place := fun x Hr hx sr => by
          have := findSome_some hj hvi hx
          rw [this] at hrd
          exact (hE x hrd).back (SB.of (s3.trans sr)) fun _ h => h
        refine ⟨_, rfl, _, rfl, sx, _, dsx, _, _, rfl, s7 _ _ hs1, T.cl_Score, T.n_Score_whole, l_Score_whole, ?_⟩
        refine ⟨_, _, rfl, v, s.metre, hv.mono s7, hvok, hvsz, hf.mono s7, hsok.sm, fun b hb => ?_, fun hn Ha sa => ?_⟩
        · exact bad ⟨5, b.place⟩ _ (by unfold Sx62.faultOf; rw [hb]) s7
        have s7a := s7.trans sa
        refine ⟨_, rfl, _, rfl, v, hv.mono s7a, hvok, hvsz, fun n hn2 => ?_, fun hn2 Hb sb => ?_⟩
        · exact bad ⟨6, n.place⟩ _ (by unfold Sx62.faultOf; rw [hn]; simp only; rw [hn2]) s7a
        have s7b := s7a.trans sb
        refine ⟨_, rfl, _, rfl, sx, _, dsx, _, _, rfl, s7b _ _ hs1, T.cl_Score, T.n_Score_voices, l_Score_voices, lv, vs, 0, _, rfl, rfl, SqL.of (s7b _ _ hs2), atI_nat (j := 0) hvx0, ?_⟩
        refine ⟨_, _, rfl, v, v0, hv.mono s7b, hy0.mono s7b, hvok, hsok.voices v0 hv0m, hvsz, hv0sz, fun pl hpl => ?_, fun hn3 Hc sc => ?_⟩
        · exact bad ⟨7, pl⟩ _ (by unfold Sx62.faultOf; rw [hn]; simp only; rw [hn2]; simp only; rw [hpl]; rfl) s7b
        refine ⟨_, _, rfl, s7b.trans sc, fun j v' hjl hv' => ?_⟩
        by_cases hji : j = i
        · subst hji
          rw [hvi] at hv'
          cases hv'
          unfold Sx62.faultOf
          rw [hn]; simp only; rw [hn2]; simp only; rw [hn3]; rfl
        · exact hj j v' (by omega) hv'
      · rintro σ H7 ⟨u1, u2, rfl, s7, hj⟩
        rw [lvs] at hj
        have hnone := findSome_none hj
        rw [hnone] at hrd
        refine ⟨_, rfl, hq s hrd hsok (fun v hv => ?_) _ H7 (s3.trans s7) (hSM.mono (hid_same (SB.of s7)))⟩
        obtain ⟨j, hj2⟩ := List.mem_iff_getElem?.mp hv
        have := hj j v (List.getElem?_eq_some_iff.mp hj2).1 hj2
        unfold Sx62.faultOf at this
        cases h1 : v.bars.find? (fun b => !Sx62.fits s.metre b) with
        | some b => rw [h1] at this; cases this
        | none =>
          rw [h1] at this
          simp only at this
          cases h2 : Sx62.loose v.notes with
          | some n => rw [h2] at this; cases this
          | none => rfl
end
end Sc

set_option Elab.async false
set_option linter.all false
set_option maxRecDepth 100000
set_option maxHeartbeats 4000000
/-! # a score's one text -/
namespace Sc
open PySem PySem.Spec PyProof.Rows L2 Pf
open Sx62 (Frac Pitch Word Timed Piece)
/-! ### sizes -/
def cost (rs : List (List Nat)) : Nat := (rs.map fun r => r.length + 1).sum
theorem cost_append (a b : List (List Nat)) : cost (a ++ b) = cost a + cost b := by unfold cost; rw [List.map_append, List.sum_append]
theorem cost_cons (a : List Nat) (b : List (List Nat)) : cost (a :: b) = a.length + 1 + cost b := by unfold cost; rw [List.map_cons, List.sum_cons]
theorem len_cost (rs : List (List Nat)) : rs.length ≤ cost rs := by
  induction rs with
  | nil => exact Nat.zero_le _
  | cons a rs ih => rw [cost_cons, List.length_cons]; omega
theorem lined_len (rs : List (List Nat)) : (lined rs).length = cost rs := by
  induction rs with
  | nil => rfl
  | cons a rs ih =>
    have e : lined (a :: rs) = (a ++ [10]) ++ lined rs := rfl
    rw [e, List.length_append, List.length_append, ih, cost_cons]
    rfl
theorem cost_take (rs : List (List Nat)) (i : Nat) : cost (rs.take i) ≤ cost rs := by
  conv => rhs; rw [← List.take_append_drop i rs, cost_append]
  omega
theorem acc_pieces {short : Bool} : ∀ {acc : List Piece}, AccOk short acc → ∀ p ∈ acc, PcOk p
  | [], _, p, h => by cases h
  | q :: acc, ⟨h1, h2, _⟩, p, h => by
    rcases List.mem_cons.mp h with h | h
    · rw [h]; exact h2
    · exact acc_pieces h1 p h
theorem bar_cost {b : Sx62.Bar} (h : BarOk b) : cost (barWords b) ≤ 128 * b.pieces.length + 32 := by
  have hp : ∀ p ∈ b.pieces, PcOk p := fun p hp => acc_pieces h.acc p (List.mem_reverse.mpr hp)
  have h1 : ∀ ps : List Piece, (∀ p ∈ ps, PcOk p) → cost (ps.flatMap pieceWords) ≤ 128 * ps.length := fun ps => by
    induction ps with
    | nil => exact fun _ => Nat.zero_le _
    | cons p ps ih =>
      intro hps
      rw [List.flatMap_cons, cost_append, List.length_cons]
      have i1 := ih fun q hq => hps q (List.mem_cons_of_mem _ hq)
      obtain ⟨w1, w2⟩ := words_small (hps p List.mem_cons_self)
      have h3 : ∀ ws : List (List Nat), (∀ w ∈ ws, w.length ≤ 15) → cost ws ≤ 16 * ws.length := fun ws => by
        induction ws with
        | nil => exact fun _ => Nat.zero_le _
        | cons w ws ih2 =>
          intro hw
          rw [cost_cons, List.length_cons]
          have := hw w List.mem_cons_self
          have := ih2 fun x hx => hw x (List.mem_cons_of_mem _ hx)
          omega
      have := h3 _ w2
      omega
  have h2 := h1 b.pieces hp
  unfold barWords
  rw [cost_append, cost_append]
  have h4 : cost (if b.short = true then [Sx62.SHORT] else []) ≤ 6 := by cases b.short <;> decide
  have h5 : cost ([[124]] : List (List Nat)) = 2 := rfl
  omega
def vrows (v : Sx62.Voice) : List (List Nat) := [Sx62.VOICE ++ 32 :: v.name] ++ (v.bars.map fun b => Sx62.spaced (barWords b)) ++ [Sx62.END]
theorem name_len {n : List Nat} (h : Sx62.isName n = true) : n.length ≤ 8 := by
  unfold Sx62.isName at h
  simp at h
  exact h.2.1
theorem bars_cost {bs : List Sx62.Bar} (h : ∀ b ∈ bs, BarOk b) : cost (bs.map fun b => Sx62.spaced (barWords b)) ≤ 129 * barsSize bs := by
  induction bs with
  | nil => exact Nat.zero_le _
  | cons b bs ih =>
    rw [List.map_cons, cost_cons, barsSize_cons]
    have h1 := bar_cost (h b List.mem_cons_self)
    have h2 : (Sx62.spaced (barWords b)).length ≤ cost (barWords b) := spaced_len _
    have h3 := ih fun c hc => h c (List.mem_cons_of_mem _ hc)
    omega
theorem vrows_cost {v : Sx62.Voice} (h : VoiceOk v) : cost (vrows v) ≤ 129 * barsSize v.bars + 19 := by
  unfold vrows
  rw [cost_append, cost_append]
  have h1 := bars_cost h.bars
  have h2 := name_len h.name
  have h3 : cost [Sx62.VOICE ++ 32 :: v.name] = 7 + v.name.length := by
    rw [cost_cons]
    show (Sx62.VOICE ++ 32 :: v.name).length + 1 + 0 = _
    rw [List.length_append, List.length_cons]
    show 5 + (v.name.length + 1) + 1 + 0 = _
    omega
  have h4 : cost [Sx62.END] = 4 := rfl
  omega
def headRows (s : Sx62.Score) : List (List Nat) := [Sx62.TIME ++ 32 :: (Sx62.dec s.beats ++ 47 :: Sx62.dec s.unit)] ++ (if s.key = 0 then [] else [Sx62.KEY ++ 32 :: keyText s.key])
theorem formRows_eq (s : Sx62.Score) : formRows s = headRows s ++ s.voices.flatMap vrows := rfl
theorem keyText_len (z : Int) : (keyText z).length ≤ 5 := by
  unfold keyText
  have := Pf.dec_len z.natAbs
  split
  · show 0 ≤ 5; omega
  · rw [List.length_append]
    split
    · show 1 + _ ≤ 5; omega
    · show 0 + _ ≤ 5; omega
theorem head_cost (s : Sx62.Score) : cost (headRows s) ≤ 30 := by
  unfold headRows
  rw [cost_append, cost_cons]
  have h1 := Pf.dec_len s.beats
  have h2 := Pf.dec_len s.unit
  have h3 := keyText_len s.key
  have h4 : (Sx62.TIME ++ 32 :: (Sx62.dec s.beats ++ 47 :: Sx62.dec s.unit)).length ≤ 14 := by
    rw [List.length_append, List.length_cons, List.length_append, List.length_cons]
    show 4 + _ ≤ 14
    omega
  have h5 : cost (if s.key = 0 then [] else [Sx62.KEY ++ 32 :: keyText s.key]) ≤ 10 := by
    split
    · exact Nat.zero_le _
    · rw [cost_cons, List.length_append, List.length_cons]
      show 3 + _ + 1 + 0 ≤ 10
      omega
  have h6 : cost ([] : List (List Nat)) = 0 := rfl
  omega
theorem voices_cost : ∀ {vs : List Sx62.Voice}, (∀ v ∈ vs, VoiceOk v) → cost (vs.flatMap vrows) ≤ 129 * (vs.map fun v => barsSize v.bars).sum + 19 * vs.length
  | [], _ => Nat.zero_le _
  | v :: vs, h => by
    rw [List.flatMap_cons, cost_append, List.map_cons, List.sum_cons, List.length_cons]
    have h1 := vrows_cost (h v List.mem_cons_self)
    have h2 := voices_cost (vs := vs) fun x hx => h x (List.mem_cons_of_mem _ hx)
    omega
theorem form_cost {s : Sx62.Score} (h : ScoreOk 1501 s) : cost (formRows s) ≤ 200000 := by
  rw [formRows_eq, cost_append]
  have h1 := head_cost s
  have h2 := voices_cost h.voices
  have h3 := h.size
  have h4 := h.four
  omega
theorem form_len {s : Sx62.Score} (h : ScoreOk 1501 s) : s.form.length ≤ 200000 := by
  rw [form_eq, lined_len]
  exact form_cost h
theorem join_S (ws : List (List Nat)) : Txt.join (S [32]) (ws.map S) = S (Sx62.spaced ws) := by
  rw [eq_of_beq (join_plain_closes (S [32]) (ws.map S))]
  induction ws with
  | nil => rfl
  | cons w ws ih =>
    cases ws with
    | nil => rfl
    | cons x l =>
      rw [spaced_cons w (by simp)]
      show S w ++ S [32] ++ Str.join (S [32]) ((x :: l).map S) = _
      rw [ih, S_app, S_app]
      simp
theorem sum_S (ws : List (List Nat)) : ((ws.map S).map (·.length)).sum + (ws.map S).length * (S [32]).length = cost ws := by
  induction ws with
  | nil => rfl
  | cons w ws ih =>
    have e1 : (S w).length = w.length := S_len w
    have e2 : (S [32]).length = 1 := S_len [32]
    rw [e2] at ih ⊢
    simp only [List.map_cons, List.sum_cons, List.length_cons, List.length_map, cost_cons, e1] at ih ⊢
    omega
section
variable {P : Program} {w : World} {K : PySem.W.Frag} {mg : Str → Option Value} {base : Heap} {A : Ad}
theorem sc_form_of : FnScope ["score", "rows", "voice", "found", "row", "bar", "sign"] ["score"] (defScope s_form_of) := ⟨rfl, rfl, rfl, by decide +kernel, rfl, by decide +kernel, by decide +kernel⟩
theorem timeb_S : Str.ofString "time " = S (Sx62.TIME ++ [32]) := by decide +kernel
theorem keyb_S : Str.ofString "key " = S (Sx62.KEY ++ [32]) := by decide +kernel
theorem voiceb_S : Str.ofString "voice " = S (Sx62.VOICE ++ [32]) := by decide +kernel
theorem blank_S : Str.ofString " " = S [32] := by decide +kernel
theorem if_keyrow (T : Txt K mg A) {q dq R lv : Addr} {f : V} {s : Sx62.Score} {H : Hp} {σ : L2.St} {D : Ends} {r : List (Option V)} (e : σ = some (.ref q) :: some (.ref R) :: r)
    (hq1 : H q = some (.ins A.C_Score dq (F_Score (strV (Sx62.dec s.beats ++ 47 :: Sx62.dec s.unit)) f (strV (keyText s.key)) (.ref lv)))) (hR : H R = some (.lst [strV (Sx62.TIME ++ 32 :: (Sx62.dec s.beats ++ 47 :: Sx62.dec s.unit))])) (hk0 : s.key ≠ 0 → keyText s.key ≠ [])
    (hq : ∀ H', H' R = some (.lst ((headRows s).map strV)) → (∀ b, b ≠ R → H' b = H b) → D.nx σ H') :
    tIfS (tTest (tOp rNe (tFld K (tVar 0) (Str.ofString "key_word")) (tC (V.str (Str.ofString ""))))) (tDrop (tBM K "list" rAppend (tVar 1)
      (tCons (tOp (fun x y H Q => ∃ i j, x = V.str i ∧ y = V.str j ∧ i.length + j.length ≤ sizeLine ∧ Q (V.str (i ++ j)) H) (tC (V.str (Str.ofString "key "))) (tFld K (tVar 0) (Str.ofString "key_word"))) tNil))) tNext D σ H := by
  subst e
  have h3 := keyText_len s.key
  refine ⟨_, rfl, q, _, dq, _, _, rfl, hq1, T.cl_Score, T.n_Score_key_word, l_Score_key_word, rfl, _, rfl, ?_⟩
  rw [empty_S]
  show (if (!decide (V.str (S (keyText s.key)) = V.str (S []))) = true then _ else _)
  rw [decS]
  by_cases hk : s.key = 0
  · have e0 : keyText s.key = [] := by unfold keyText; rw [if_pos hk]
    refine ite_f (by rw [e0]; rfl) (hq H ?_ fun _ _ => rfl)
    rw [hR]
    unfold headRows
    rw [if_pos hk]
    rfl
  · refine ite_t (by simpa using hk0 hk) ?_
    refine ⟨_, rfl, .inl ⟨rfl, _, SqL.of hR⟩, _, rfl, q, _, dq, _, _, rfl, hq1, T.cl_Score, T.n_Score_key_word, l_Score_key_word, _, _, rfl, rfl, ?_, R, _, _, rfl, rfl, hR, by show 1 < sizeLine; decide, hq _ ?_ fun b hb => upd_ne hb⟩
    · rw [keyb_S, S_len, S_len, List.length_append, sizeLine_eq]
      show 3 + 1 + _ ≤ _
      omega
    · rw [upd_same, keyb_S, S_app]
      unfold headRows
      rw [if_neg hk]
      show some (HO.lst ([_] ++ [V.str (S (Sx62.KEY ++ [32] ++ keyText s.key))])) = some (HO.lst [_, V.str (S (Sx62.KEY ++ 32 :: keyText s.key))])
      simp
theorem key_ne {z : Int} (h : z ≠ 0) : keyText z ≠ [] := by
  unfold keyText
  rw [if_neg h]
  intro e
  have hd : Sx62.dec z.natAbs ≠ [] := by
    show Sx62.digits 4 z.natAbs ≠ []
    unfold Sx62.digits
    split
    · simp
    · simp
  split at e
  · simp at e
  · exact hd (by simpa using e)
def sp_form_of (K : PySem.W.Frag) (A : Ad) : Sp := sp1 fun x H Q _ => ∃ s, ScoreA K A H x s ∧ ScoreOk 1501 s ∧ ∀ p H', H p = none → Same H H' → H' p = some (.lst (nvs s.form)) → Q (.ref p) H'
theorem ok_form_of (T : Txt K mg A) : FnOk P w K mg base CX0 1 A.a_form_of A.d_form_of ["score"] (sp_form_of K A) := by
  refine T.F_form_of.ok sc_form_of (sp1_len) (fun cdv Ar outer s H vs Q E hr h => ?_)
  refine ⟨_, (pss_cons (ps_set (i := 1) sc_form_of.nd rfl (Or.inl rfl) (pe_lst (pa_cons (pe_op op_add_str pe_str (pe_fld (pv 0) rfl)) pa_nil)))
      (pss_cons (ps_if (pt_cmpR op_ne (pe_fld (pv 0) rfl) pe_str (nomark _)) (pss_one (ps_expr (pe_bm PySem.F.plainAttrs_list PySem.F.slot_list_append PySem.F.type_list_append mt_append (pv 1) (pa_cons (pe_op op_add_str pe_str (pe_fld (pv 0) rfl)) pa_nil)))) pss_nil)
      (pss_cons (ps_for PassesOwn.never rfl (pi_list (pe_fld (pv 0) rfl)) (pg_name (i := 2) sc_form_of.nd rfl (Or.inl rfl)) (pss_cons (ps_expr (pe_bm PySem.F.plainAttrs_list PySem.F.slot_list_append PySem.F.type_list_append mt_append (pv 1) (pa_cons (pe_op op_add_str pe_str (pe_fld (pv 2) rfl)) pa_nil)))
      (pss_cons (ps_expr (pe_bm PySem.F.plainAttrs_list PySem.F.slot_list_extend PySem.F.type_list_extend mt_extend (pv 1) (pa_cons (pe_lc (own := [("bar", 5)]) (g := gName 5) (tt := tYes) rfl sc_form_of.nd (pi_list (pe_fld (pv 2) rfl)) (blkOk_by (N := ["score", "rows", "voice", "found", "row", "bar", "sign"]) (sc := defScope s_form_of) (by decide +kernel)) (fun _ _ _ _ _ => (pg_name (i := 5) sc_form_of.nd rfl (Or.inl rfl))) (fun _ _ _ _ _ => pts_nil) (fun _ _ _ _ _ => (pe_joinK (K := K) (by rfl) pe_str (pe_fldK (K := K) (by rfl) (pv 5) rfl)))) pa_nil)))
      (pss_one (ps_expr (pe_bm PySem.F.plainAttrs_list PySem.F.slot_list_append PySem.F.type_list_append mt_append (pv 1) (pa_cons pe_str pa_nil)))))))
      (pss_cons (ps_set (i := 3) sc_form_of.nd rfl (Or.inl rfl) (pe_lst pa_nil))
      (pss_cons (ps_for PassesOwn.never rfl (pi_list (pv 1)) (pg_name (i := 4) sc_form_of.nd rfl (Or.inl rfl)) (pss_one (ps_expr (pe_bm PySem.F.plainAttrs_list PySem.F.slot_list_extend PySem.F.type_list_extend mt_extend (pv 3) (pa_cons (pe_op op_cat (pe_lc (own := [("sign", 6)]) (g := gName 6) (tt := tYes) rfl sc_form_of.nd (pi_str (pv 4)) (blkOk_by (N := ["score", "rows", "voice", "found", "row", "bar", "sign"]) (sc := defScope s_form_of) (by decide +kernel)) (fun _ _ _ _ _ => (pg_name (i := 6) sc_form_of.nd rfl (Or.inl rfl))) (fun _ _ _ _ _ => pts_nil) (fun _ _ _ _ _ => (pe_callB call_ord (by rfl) T.z_ord (by decide +kernel) (pa_cons (pv 6) pa_nil)))) (pe_lst (pa_cons (pe_gI T.c_LINE_END) pa_nil))) pa_nil)))))
      (pss_one (ps_ret (pv 3)))))))), ?_⟩
  obtain ⟨x, rfl, s, ⟨q, dq, f, lv, vs, rfl, hq1, hf, hq2, hvs⟩, hok, hq⟩ := h
  have lvs := Paired.length hvs
  have hcost := form_cost hok
  have h1 := Pf.dec_len s.beats
  have h2 := Pf.dec_len s.unit
  have h3 := keyText_len s.key
  refine ⟨_, rfl, q, _, dq, _, _, rfl, hq1, T.cl_Score, T.n_Score_metre, l_Score_metre, _, _, rfl, rfl, ?_, by show 1 ≤ sizeLine; decide, fun R nR => ?_⟩
  · rw [timeb_S, S_len, S_len, sizeLine_eq]
    simp only [List.length_append, List.length_cons, List.length_nil]
    show 4 + 1 + _ ≤ _
    omega
  have sR := same_new (o := .lst [V.str (Str.ofString "time " ++ S (Sx62.dec s.beats ++ 47 :: Sx62.dec s.unit))]) nR
  refine if_keyrow T rfl (sR _ _ hq1) (by rw [upd_same, timeb_S, S_app]; simp [strV]) key_ne fun H1 hR1 k1 => ?_
  have s1 : Same H H1 := fun b o e => by
    rw [k1 b (ne_of_none e nR)]; exact sR b o e
  have hpre : ∀ i, cost ((s.voices.take i).flatMap vrows) ≤ cost (formRows s) := fun i => by
    rw [formRows_eq, cost_append]
    have : cost (s.voices.flatMap vrows) = cost ((s.voices.take i).flatMap vrows) + cost ((s.voices.drop i).flatMap vrows) := by
      conv => lhs; rw [← List.take_append_drop i s.voices]
      rw [List.flatMap_append, cost_append]
    omega
  have hhead := head_cost s
  refine ⟨_, rfl, q, _, dq, _, _, rfl, s1 _ _ hq1, T.cl_Score, T.n_Score_voices, l_Score_voices, lv, rfl, ⟨_, SqL.of (s1 _ _ hq2)⟩, for_it (walk_list (K := K) (a := lv) (xs := vs)) (fun i σ H' => ∃ u, σ = [some (.ref q), some (.ref R), u, none, none, none, none] ∧ Same H H' ∧ H' R = some (.lst ((headRows s ++ (s.voices.take i).flatMap vrows).map strV))) ⟨none, rfl, s1, by rw [List.take_zero]; simpa using hR1⟩ (fun i σ H' _ ⟨_, _, h, _⟩ => SqL.of (h _ _ hq2)) ?_ ?_⟩
  · rintro i x σ H7 H8 hi ⟨u, rfl, s7, hR7⟩ ⟨rfl, hx⟩
    obtain ⟨v, hvi, y, dy, lb, bs, rfl, hy1, hy2, hbs⟩ := paired_get hvs hx
    have hvok := hok.voices v (List.mem_of_getElem? hvi)
    have lbs := Paired.length hbs
    have hnm := name_len hvok.name
    have hci := hpre (i + 1)
    rw [take_more hvi, List.flatMap_append, cost_append] at hci
    have e1 : [v].flatMap vrows = vrows v := by simp
    rw [e1] at hci
    have hl0 : ((headRows s ++ (s.voices.take i).flatMap vrows).map strV).length ≤ 200100 := by
      rw [List.length_map, List.length_append]
      have := len_cost (headRows s)
      have := len_cost ((s.voices.take i).flatMap vrows)
      omega
    refine ⟨_, rfl, .inl ⟨rfl, _, SqL.of hR7⟩, _, rfl, y, _, dy, _, _, rfl, s7 _ _ hy1, T.cl_Voice, T.n_Voice_name, l_Voice_name, _, _, rfl, rfl, ?_, R, _, _, rfl, rfl, hR7, by rw [sizeLine_eq]; omega, ?_⟩
    · rw [voiceb_S, S_len, S_len, List.length_append, sizeLine_eq]
      show 5 + 1 + _ ≤ _
      omega
    generalize hX : ((headRows s ++ (s.voices.take i).flatMap vrows).map strV) = X at hR7 hl0 ⊢
    have s9 : Same H (upd H8 R (.lst (X ++ [V.str (Str.ofString "voice " ++ S v.name)]))) := fun b o e => by rw [upd_ne (ne_of_none e nR)]; exact s7 b o e
    have hR9 : (upd H8 R (.lst (X ++ [V.str (Str.ofString "voice " ++ S v.name)]))) R = some (.lst (X ++ [V.str (Str.ofString "voice " ++ S v.name)])) := upd_same
    generalize upd H8 R (.lst (X ++ [V.str (Str.ofString "voice " ++ S v.name)])) = H9 at s9 hR9 ⊢
    refine ⟨_, rfl, .inl ⟨rfl, _, SqL.of hR9⟩, _, rfl, y, _, dy, _, _, rfl, s9 _ _ hy1, T.cl_Voice, T.n_Voice_bars, l_Voice_bars, lb, rfl, ⟨_, SqL.of (s9 _ _ hy2)⟩, fun D nD => lc_it (walk_list (K := K) (a := lb) (xs := bs)) (fun i' H' => H' D = some (.lst ((v.bars.take i').map fun b => strV (Sx62.spaced (barWords b)))) ∧ Same H9 H') ⟨upd_same, same_new nD⟩ (fun i' H' _ h => SqL.of (h.2 _ _ (s9 _ _ hy2))) ?_ ?_⟩
    · rintro i' x Ha Hb hi' ⟨h1, sa⟩ ⟨rfl, hx⟩
      obtain ⟨b, hbi, z, dz, lw, le, es, rfl, hz1, hz2, _, _⟩ := paired_get hbs hx
      have hbc := bar_cost (hvok.bars b (List.mem_of_getElem? hbi))
      have hbz := bar_size (List.mem_of_getElem? hbi)
      have hvz := hok.vsize (List.mem_of_getElem? hvi)
      have s9a := s9.trans sa
      refine ⟨rfl, ⟨_, rfl⟩, _, rfl, z, _, dz, _, _, rfl, s9a _ _ hz1, T.cl_Bar, T.n_Bar_words, l_Bar_words, S [32], lw, (barWords b).map S, by rw [blank_S], rfl, .inl ?_, ?_, _, h1, ?_, ?_, fun b o e => ?_⟩
      · rw [List.map_map]
        exact SqL.of (s9a _ _ hz2)
      · rw [sum_S]; omega
      · rw [List.length_map, List.length_take, sizeLine_eq]
        have := bars_le v.bars
        omega
      · rw [join_S, take_more hbi, List.map_append]
        exact upd_same
      · rw [upd_ne (ne_of_none e nD)]; exact sa _ _ e
    · rintro Ha ⟨h1, sa⟩
      rw [lbs, List.take_length] at h1
      have hRa := sa _ _ hR9
      have hvz := hok.vsize (List.mem_of_getElem? hvi)
      have hbl := bars_le v.bars
      refine ⟨R, D, _, _, rfl, rfl, hRa, h1, by rw [List.length_append, List.length_map, sizeLine_eq]; simp only [List.length_cons, List.length_nil]; omega, ?_⟩
      refine ⟨_, rfl, .inl ⟨rfl, _, SqL.of upd_same⟩, R, _, _, rfl, rfl, upd_same, by rw [List.length_append, List.length_append, List.length_map, sizeLine_eq]; simp only [List.length_cons, List.length_nil]; omega, ?_⟩
      refine ⟨_, rfl, fun b o e => ?_, ?_⟩
      · rw [upd_ne (ne_of_none e nR), upd_ne (ne_of_none e nR)]; exact sa _ _ (s9 _ _ e)
      · rw [upd_same, take_more hvi, List.flatMap_append, e1, ← List.append_assoc, List.map_append, hX, voiceb_S, S_app, end_S]
        unfold vrows
        simp [strV, Function.comp_def]
  · rintro σ H7 ⟨u, rfl, s7, hR7⟩
    rw [lvs, List.take_length, ← formRows_eq] at hR7
    refine ⟨by show 0 ≤ sizeLine; decide, fun F nF => ?_⟩
    have nF0 : H F = none := s7.free nF
    have sF := same_new (o := .lst []) nF
    refine ⟨_, rfl, R, rfl, ⟨_, SqL.of (sF _ _ hR7)⟩, for_it (walk_list (K := K) (a := R) (xs := (formRows s).map strV)) (fun i σ H' => ∃ u2, σ = [some (.ref q), some (.ref R), u, some (.ref F), u2, none, none] ∧ Same H H' ∧ H' R = some (.lst ((formRows s).map strV)) ∧ H' F = some (.lst (nvs (lined ((formRows s).take i))))) ⟨none, rfl, s7.trans sF, sF _ _ hR7, upd_same⟩ (fun i σ H' _ ⟨_, _, _, h, _⟩ => SqL.of h) ?_ ?_⟩
    · rintro i x σ H8 H9 hi ⟨u2, rfl, s8, hR8, hF8⟩ ⟨rfl, hx⟩
      obtain ⟨row, hrow, rfl⟩ : ∃ row, (formRows s)[i]? = some row ∧ x = strV row := by
        rw [List.getElem?_map] at hx
        cases e : (formRows s)[i]? with
        | none => rw [e] at hx; cases hx
        | some row => rw [e] at hx; exact ⟨row, rfl, (Option.some.inj hx).symm⟩
      have hct := cost_take (formRows s) (i + 1)
      rw [take_more hrow, cost_append, cost_cons] at hct
      have hFl : (nvs (lined ((formRows s).take i))).length = cost ((formRows s).take i) := by rw [nvs_len, lined_len]
      have c0 : cost ([] : List (List Nat)) = 0 := rfl
      refine ⟨_, rfl, .inl ⟨rfl, _, SqL.of hF8⟩, _, rfl, S row, rfl, fun D nD => lc_it (walk_str (z := S row)) (fun i' H' => H' D = some (.lst (nvs (row.take i'))) ∧ Same H9 H') ⟨upd_same, same_new nD⟩ (fun _ _ _ _ => trivial) ?_ ?_⟩
      · rintro i' x Ha Hb hi' ⟨h1, sa⟩ ⟨rfl, c, hc, rfl⟩
        rw [cps_size] at hi'
        refine ⟨rfl, _, rfl, _, rfl, rfl, _, h1, ?_, ?_, fun b o e => ?_⟩
        · rw [nvs_len, List.length_take, sizeLine_eq]; omega
        · rw [take_more (cps_at hc)]
          unfold nvs
          rw [List.map_append]
          exact upd_same
        · rw [upd_ne (ne_of_none e nD)]; exact sa _ _ e
      · rintro Ha ⟨h1, sa⟩
        rw [cps_size, List.take_length] at h1
        refine ⟨by show 1 ≤ sizeLine; decide, fun b nb => ?_⟩
        have sb := same_new (o := .lst [V.int 10]) nb
        refine ⟨D, b, _, _, rfl, rfl, sb _ _ h1, upd_same, by rw [nvs_len, sizeLine_eq]; simp only [List.length_cons, List.length_nil]; omega, fun g ng => ?_⟩
        have sg := same_new (o := .lst (nvs row ++ [V.int 10])) ng
        have sall := (sa.trans sb).trans sg
        refine ⟨F, g, _, _, rfl, rfl, sall _ _ hF8, upd_same, by rw [hFl, List.length_append, nvs_len, sizeLine_eq]; simp only [List.length_cons, List.length_nil]; omega, ?_⟩
        refine ⟨_, rfl, fun b o e => ?_, ?_, ?_⟩
        · rw [upd_ne (ne_of_none e nF0)]; exact sall _ _ (s8 _ _ e)
        · rw [upd_ne (fun z => by rw [z, nF] at hR7; cases hR7)]; exact sall _ _ hR8
        · rw [upd_same, take_more hrow, lined_append]
          congr 2
          unfold nvs lined
          simp
    · rintro σ H8 ⟨u2, rfl, s8, hR8, hF8⟩
      rw [List.length_map, List.take_length, ← form_eq] at hF8
      exact ⟨_, rfl, hq F H8 nF0 s8 hF8⟩
end
end Sc

set_option Elab.async false
set_option linter.all false
set_option maxRecDepth 100000
set_option maxHeartbeats 4000000
/-! # counts, beginnings, places -/
namespace Sc
open PySem PySem.Spec PyProof.Rows L2 Pf Zq
open Sx62 (Frac Pitch Word Timed Piece)
theorem bars_fg {bs : List Sx62.Bar} (h : ∀ b ∈ bs, BarOk b) (hs : barsSize bs ≤ 1600) (i : Nat) : Sm (Sx62.sum ((bs.map Sx62.Bar.long).take i)) := by
  have h1 := fold_fg (bs.take i) ⟨0, 1⟩ 0 fg_zero fun b hb => bar_fg (h b (List.mem_of_mem_take hb))
  rw [← List.map_take]
  refine FG.sm h1 ?_
  have h2 : ((bs.take i).map fun b => b.notes.length).sum ≤ barsSize bs := by
    have e : ∀ cs : List Sx62.Bar, (cs.map fun b => b.notes.length).sum ≤ barsSize cs := fun cs => by
      induction cs with
      | nil => exact Nat.zero_le _
      | cons c cs ih =>
        rw [List.map_cons, List.sum_cons, barsSize_cons]
        have := notes_len c
        omega
    have e2 : barsSize bs = barsSize (bs.take i) + barsSize (bs.drop i) := by
      conv => lhs; rw [← List.take_append_drop i bs]
      unfold barsSize
      rw [List.map_append, List.sum_append]
    have := e (bs.take i)
    omega
  have : 0 + 200 * ((bs.take i).map fun b => b.notes.length).sum ≤ 0 + 200 * 1600 := by omega
  exact Nat.le_trans this (by decide)
section
variable {P : Program} {w : World} {K : PySem.W.Frag} {mg : Str → Option Value} {base : Heap} {A : Ad}
theorem sc_counts_of : FnScope ["voice", "events", "event"] ["voice"] (defScope s_counts_of) := ⟨rfl, rfl, rfl, by decide +kernel, rfl, by decide +kernel, by decide +kernel⟩
theorem sc_begins_of : FnScope ["lengths", "found", "length"] ["lengths"] (defScope s_begins_of) := ⟨rfl, rfl, rfl, by decide +kernel, rfl, by decide +kernel, by decide +kernel⟩
theorem sc_bars_of : FnScope ["score", "lengths", "bar"] ["score"] (defScope s_bars_of) := ⟨rfl, rfl, rfl, by decide +kernel, rfl, by decide +kernel, by decide +kernel⟩
theorem sc_place_of : FnScope ["score", "time", "number", "begin", "length"] ["score", "time"] (defScope s_place_of) := ⟨rfl, rfl, rfl, by decide +kernel, rfl, by decide +kernel, by decide +kernel⟩
theorem sc_is_going_on : FnScope ["events", "k", "pitch"] ["events", "k", "pitch"] (defScope s_is_going_on) := ⟨rfl, rfl, rfl, by decide +kernel, rfl, by decide +kernel, by decide +kernel⟩
theorem sc_sound_length : FnScope ["events", "k", "found", "at"] ["events", "k"] (defScope s_sound_length) := ⟨rfl, rfl, rfl, by decide +kernel, rfl, by decide +kernel, by decide +kernel⟩
theorem sc_sounds_of : FnScope ["voice", "events", "event", "begins", "found", "k", "pitch", "octave", "letter", "sign"] ["voice"] (defScope s_sounds_of) := ⟨rfl, rfl, rfl, by decide +kernel, rfl, by decide +kernel, by decide +kernel⟩
def sp_counts_of (K : PySem.W.Frag) (A : Ad) : Sp := sp1 fun x H Q _ => ∃ v, VoiceA K A H x v ∧ barsSize v.bars ≤ 2000 ∧ ∀ p H', H p = none → Same H H' → H' p = some (.lst (nvs [v.bars.length, v.notes.length, (v.notes.filter fun n => n.ps != []).length])) → Q (.ref p) H'
theorem ok_counts_of (T : Txt K mg A) : FnOk P w K mg base CX0 2 A.a_counts_of A.d_counts_of ["voice"] (sp_counts_of K A) := by
  have G_Voice_all_events := ok_Voice_all_events (P := P) (w := w) (base := base) T
  refine T.F_counts_of.ok sc_counts_of (sp1_len) (fun cdv Ar outer s H vs Q E hr h => ?_)
  refine ⟨_, (pss_cons (ps_set (i := 1) sc_counts_of.nd rfl (Or.inl rfl) (pe_meth0 (pv 0) T.cl_Voice T.m_Voice_all_events G_Voice_all_events (hr.mono (by decide)) T.b_Voice_all_events .nil pass0))
      (pss_one (ps_ret (pe_lst (pa_cons (pe_callB call_len_seq (by rfl) T.z_len PySem.boot_len (pa_cons (pe_fld (pv 0) rfl) pa_nil)) (pa_cons (pe_callB call_len_seq (by rfl) T.z_len PySem.boot_len (pa_cons (pv 1) pa_nil)) (pa_cons (pe_callB call_len_seq (by rfl) T.z_len PySem.boot_len (pa_cons (pe_lc (own := [("event", 2)]) (g := gName 2) rfl sc_counts_of.nd (pi_list (pv 1)) (blkOk_by (N := ["voice", "events", "event"]) (sc := defScope s_counts_of) (by decide +kernel)) (fun _ _ _ _ _ => (pg_name (i := 2) sc_counts_of.nd rfl (Or.inl rfl))) (fun _ _ _ _ _ => (pts_one (pt_cmpR (op_neNilK (K := K) (by rfl) (hU hr)) (pe_fldK (K := K) (by rfl) (pv 2) rfl) (pe_lst pa_nil) (nomark _)))) (fun _ _ _ _ _ => (pv 2))) pa_nil)) pa_nil))))))), ?_⟩
  obtain ⟨x, rfl, v, hv, hsz, hq⟩ := h
  have hv' := hv
  obtain ⟨q, dq, lb, bs, rfl, hq1, hq2, hbs⟩ := hv'
  have hnl : v.notes.length ≤ 2000 := Nat.le_trans (notes_size v.bars) hsz
  refine ⟨_, rfl, q, dq, _, rfl, hq1, l_Voice_all_events, _, rfl, v, hv, hsz, fun p H1 es np s1 hp hes => ?_⟩
  have les := Paired.length hes
  refine ⟨_, rfl, q, _, dq, _, _, rfl, s1 _ _ hq1, T.cl_Voice, T.n_Voice_bars, l_Voice_bars, lb, _, rfl, .inl (SqL.of (s1 _ _ hq2)), ?_⟩
  refine ⟨_, rfl, p, _, rfl, .inl (SqL.of hp), ?_⟩
  refine ⟨_, rfl, p, rfl, ⟨_, SqL.of hp⟩, fun D nD => lc_it (walk_list (K := K) (a := p) (xs := es)) (fun i H' => ∃ us, H' D = some (.lst us) ∧ us.length = ((v.notes.take i).filter fun n => n.ps != []).length ∧ Same H1 H') ⟨[], upd_same, by rw [List.take_zero]; rfl, same_new nD⟩ (fun i H' _ ⟨_, _, _, h⟩ => SqL.of (h _ _ hp)) ?_ ?_⟩
  · rintro i x H7 H8 hi ⟨us, h1, hus, s7⟩ ⟨rfl, hx⟩
    obtain ⟨n, hni, y, dy, l, f, ps, rfl, hy1, hy2, hy3, _⟩ := paired_get hes hx
    have lps := Paired.length hy3
    have s17 := s1.trans s7
    refine ⟨rfl, _, rfl, y, _, dy, _, _, rfl, s17 _ _ hy1, T.cl_Event, T.n_Event_pitches, l_Event_pitches, by show 0 ≤ sizeLine; decide, fun b nb => ⟨l, b, ps, rfl, rfl, SqL.of (same_new nb _ _ (s17 _ _ hy2)), SqL.of upd_same, _, rfl, ?_⟩⟩
    have sb := same_new (o := .lst []) nb
    have e : (!ps.isEmpty) = (n.ps != []) := by
      have : ps.isEmpty = decide (n.ps = []) := by
        rw [Bool.eq_iff_iff, List.isEmpty_iff, decide_eq_true_eq, ← List.length_eq_zero_iff, ← List.length_eq_zero_iff, lps]
      rw [this, Bool.eq_iff_iff]
      simp
    rw [e]
    have hD := sb _ _ h1
    have nDn : D ≠ b := ne_of_none h1 nb
    refine iteB (fun hb => ?_) (fun hb => ?_)
    · have hl : us.length ≤ 2000 := by
        rw [hus]
        exact Nat.le_trans (List.length_filter_le _ _) (Nat.le_trans (List.length_take_le _ _) (by omega))
      refine ⟨_, rfl, us, hD, by rw [sizeLine_eq]; omega, _, upd_same, ?_, fun b' o e' => ?_⟩
      · rw [take_more hni, List.filter_append, List.length_append, List.length_append, hus]
        simp [hb]
      · rw [upd_ne (ne_of_none e' nD)]; exact sb _ _ (s7 _ _ e')
    · refine ⟨us, hD, ?_, s7.trans sb⟩
      rw [take_more hni, List.filter_append, List.length_append, hus]
      simp [hb]
  · rintro H7 ⟨us, h1, hus, s7⟩
    rw [les, List.take_length] at hus
    have s17 := s1.trans s7
    refine ⟨D, us, rfl, .inl (SqL.of h1), by show 3 ≤ sizeLine; decide, fun r nr => ?_⟩
    have lbs := Paired.length hbs
    refine hq r _ (s17.free nr) (s17.trans (same_new nr)) ?_
    rw [upd_same, lbs, les, hus]
    rfl
def sp_begins_of (K : PySem.W.Frag) (A : Ad) : Sp := sp1 fun x H Q _ => ∃ (l : Addr) (vs : List V) (fs : List Frac), x = .ref l ∧ H l = some (.lst vs) ∧ Paired (FrA K H) vs fs ∧ fs.length ≤ 2000 ∧ (∀ f ∈ fs, Sm f) ∧ (∀ i, Sm (Sx62.sum (fs.take i))) ∧
  ∀ p H' us, H p = none → Same H H' → H' p = some (.lst us) → Paired (FrA K H') us ((List.range (fs.length + 1)).map fun j => Sx62.sum (fs.take j)) → Q (.ref p) H'
theorem ok_begins_of (T : Txt K mg A) : FnOk P w K mg base CX0 4 A.a_begins_of A.d_begins_of ["lengths"] (sp_begins_of K A) := by
  have G_plus := ok_plus (P := P) (w := w) (base := base) T
  refine T.F_begins_of.ok sc_begins_of (sp1_len) (fun cdv Ar outer s H vs Q E hr h => ?_)
  refine ⟨_, (pss_cons (ps_set (i := 1) sc_begins_of.nd rfl (Or.inl rfl) (pe_lst (pa_cons (pe_gR T.c_NOUGHT) pa_nil)))
      (pss_cons (ps_for PassesOwn.never rfl (pi_list (pv 0)) (pg_name (i := 2) sc_begins_of.nd rfl (Or.inl rfl)) (pss_one (ps_expr (pe_bm PySem.F.plainAttrs_list PySem.F.slot_list_append PySem.F.type_list_append mt_append (pv 1) (pa_cons (pe_call G_plus (hr.mono (by decide)) rfl T.g_plus T.F_plus.kp T.b_plus .nil pass0 (pa_cons (pe_ix ix_list (pv 1) (pe_un un_neg pe_int) (fun _ _ => rfl)) (pa_cons (pv 2) pa_nil))) pa_nil)))))
      (pss_one (ps_ret (pv 1))))), ?_⟩
  obtain ⟨x, rfl, l, vs, fs, rfl, hl, hvs, hlen, hsm, hsum, hq⟩ := h
  have lvs := Paired.length hvs
  refine ⟨by show 1 ≤ sizeLine; decide, fun p np => ?_⟩
  have sp := same_new (o := .lst [.ref A.t_NOUGHT]) np
  refine ⟨_, rfl, l, rfl, ⟨_, SqL.of (sp _ _ hl)⟩, for_it (walk_list (K := K) (a := l) (xs := vs)) (fun i σ H' => ∃ u us, σ = [some (.ref l), some (.ref p), u] ∧ Same H H' ∧ H' p = some (.lst us) ∧ Paired (FrA K H') us ((List.range (i + 1)).map fun j => Sx62.sum (fs.take j))) ⟨none, _, rfl, sp, upd_same, .cons ⟨_, rfl, T.q_NOUGHT.sq⟩ .nil⟩ (fun i σ H' _ ⟨_, _, _, h, _⟩ => SqL.of (h _ _ hl)) ?_ ?_⟩
  · rintro i x σ H7 H8 hi ⟨u, us, rfl, s7, hp, hus⟩ ⟨rfl, hx⟩
    obtain ⟨f, hfi, hf⟩ := paired_get hvs hx
    rw [List.range_succ, List.map_append, List.map_cons, List.map_nil] at hus
    have lus := Paired.length hus
    rw [List.length_append, List.length_map, List.length_range, List.length_cons, List.length_nil] at lus
    obtain ⟨u0, ul, rfl, hu0, hul⟩ := paired_snoc hus
    refine ⟨_, rfl, .inl ⟨rfl, _, SqL.of hp⟩, _, rfl, _, rfl, p, _, _, ul, rfl, rfl, SqL.of hp, atI_last _ _, _, rfl, ?_⟩
    refine ⟨_, _, rfl, Sx62.sum (fs.take i), f, hul, hf.mono s7, hsum i, hsm f (List.mem_of_getElem? hfi), fun v H9 s9 hv => ?_⟩
    have hp9 := s9 _ _ hp
    have su : SB [p] H9 (upd H9 p (.lst (u0 ++ [ul] ++ [v]))) := SB.upd hp9 trivial trivial (by simp)
    refine ⟨p, _, _, rfl, rfl, hp9, by rw [lus, sizeLine_eq]; omega, _, _, rfl, fun b o e => ?_, upd_same, ?_⟩
    · rw [upd_ne (ne_of_none e np)]; exact s9 _ _ (s7 _ _ e)
    · rw [List.range_succ, List.map_append, List.map_cons, List.map_nil, List.range_succ, List.map_append, List.map_cons, List.map_nil, sum_take hfi]
      exact pairedApp (pairedMono (fun _ _ h => (h.mono s9).sb su) hus) (.cons (hv.sb su) .nil)
  · rintro σ H7 ⟨u, us, rfl, s7, hp, hus⟩
    rw [lvs] at hus
    exact ⟨_, rfl, hq p H7 us np s7 hp hus⟩
def BtA (K : PySem.W.Frag) (H : Hp) (u : V) (x : Frac × Frac) : Prop := ∃ t a b, u = .ref t ∧ H t = some (.tup [a, b]) ∧ FrA K H a x.1 ∧ FrA K H b x.2
theorem BtA.mono {H H' : Hp} {u : V} {x : Frac × Frac} (s : Same H H') (h : BtA K H u x) : BtA K H' u x := by
  obtain ⟨t, a, b, rfl, h1, h2, h3⟩ := h
  exact ⟨t, a, b, rfl, s _ _ h1, h2.mono s, h3.mono s⟩
def sp_bars_of (K : PySem.W.Frag) (A : Ad) : Sp := sp1 fun x H Q _ => ∃ s, ScoreA K A H x s ∧ ScoreOk 1501 s ∧ ∀ p H' us, H p = none → Same H H' → H' p = some (.lst us) → Paired (BtA K H') us s.starts → Q (.ref p) H'
theorem paired_of {α β : Type} {R : α → β → Prop} : ∀ {xs : List α} {ys : List β}, xs.length = ys.length → (∀ (i : Nat) (x : α), xs[i]? = some x → ∃ y, ys[i]? = some y ∧ R x y) → Paired R xs ys
  | [], [], _, _ => .nil
  | [], _ :: _, h, _ => by cases h
  | _ :: _, [], h, _ => by cases h
  | x :: xs, y :: ys, h, hR => by
    obtain ⟨y', e, r⟩ := hR 0 x rfl
    have : y = y' := by simpa using e
    subst this
    exact .cons r (paired_of (by simpa using h) fun i x hx => hR (i + 1) x hx)
theorem ok_bars_of (T : Txt K mg A) : FnOk P w K mg base CX0 6 A.a_bars_of A.d_bars_of ["score"] (sp_bars_of K A) := by
  have G_Bar_length := ok_Bar_length (P := P) (w := w) (base := base) T
  have G_begins_of := ok_begins_of (P := P) (w := w) (base := base) T
  refine T.F_bars_of.ok sc_bars_of (sp1_len) (fun cdv Ar outer s H vs Q E hr h => ?_)
  refine ⟨_, (pss_cons (ps_setLc (i := 1) (own := [("bar", 2)]) (g := gName 2) (tt := tYes) rfl sc_bars_of.nd rfl rfl (sw_true rfl rfl rfl (by decide +kernel)) (pi_list (pe_fld (pe_ix ix_list (pe_fld (pv 0) rfl) pe_int (fun _ _ => rfl)) rfl)) (blkOk_by (N := ["score", "lengths", "bar"]) (sc := defScope s_bars_of) (by decide +kernel)) (fun _ _ _ _ _ => (pg_name (i := 2) sc_bars_of.nd rfl (Or.inl rfl))) (fun _ _ _ _ _ => pts_nil) (fun _ _ _ _ _ => (pe_meth0 (pv 2) T.cl_Bar T.m_Bar_length G_Bar_length (hr.mono (by decide)) T.b_Bar_length .nil pass0)))
      (pss_one (ps_ret (pe_listzip (by rfl) T.z_list (by rfl) T.z_zip (pa_cons (pe_call G_begins_of (hr.mono (by decide)) rfl T.g_begins_of T.F_begins_of.kp T.b_begins_of .nil pass0 (pa_cons (pv 1) pa_nil)) (pa_cons (pv 1) pa_nil)))))), ?_⟩
  obtain ⟨x, rfl, s, ⟨q, dq, f, lv, vs, rfl, hq1, hf, hq2, hvs⟩, hok, hq⟩ := h
  have lvs := Paired.length hvs
  obtain ⟨v0, hv0⟩ : ∃ v0, s.voices[0]? = some v0 := by
    cases e : s.voices with
    | nil => exact absurd e hok.ne
    | cons a l => exact ⟨a, rfl⟩
  have hst : s.starts = Sx62.startsFrom ⟨0, 1⟩ v0.bars := by
    unfold Sx62.Score.starts
    cases hv : s.voices with
    | nil => rw [hv] at hv0; cases hv0
    | cons a l =>
      rw [hv] at hv0
      have : a = v0 := by simpa using hv0
      subst this
      rfl
  have hv0m := List.mem_of_getElem? hv0
  have hvok := hok.voices v0 hv0m
  have hvsz := hok.vsize hv0m
  have hvx0 : vs[0]? = some (vs[0]'(by rw [lvs]; exact (List.getElem?_eq_some_iff.mp hv0).1)) := List.getElem?_eq_getElem _
  generalize vs[0]'(by rw [lvs]; exact (List.getElem?_eq_some_iff.mp hv0).1) = y0 at hvx0
  have hy0 : VoiceA K A H y0 v0 := by
    obtain ⟨b, hb1, hb2⟩ := paired_get hvs hvx0
    rw [hv0] at hb1
    cases hb1
    exact hb2
  obtain ⟨y, dy, lb, bs, rfl, hy1, hy2, hbs⟩ := hy0
  have lbs := Paired.length hbs
  have hbl := bars_le v0.bars
  refine ⟨_, rfl, q, _, dq, _, _, rfl, hq1, T.cl_Score, T.n_Score_voices, l_Score_voices, lv, vs, 0, _, rfl, rfl, SqL.of hq2, atI_nat (j := 0) hvx0, y, _, dy, _, _, rfl, hy1, T.cl_Voice, T.n_Voice_bars, l_Voice_bars, lb, rfl, ⟨_, SqL.of hy2⟩,
    fun D nD => lc_it (walk_list (K := K) (a := lb) (xs := bs)) (fun i H' => ∃ us, H' D = some (.lst us) ∧ Paired (FrA K H') us ((v0.bars.map Sx62.Bar.long).take i) ∧ Same H H') ⟨[], upd_same, .nil, same_new nD⟩ (fun i H' _ ⟨_, _, _, h⟩ => SqL.of (h _ _ hy2)) ?_ ?_⟩
  · rintro i x H7 H8 hi ⟨us, h1, hus, s7⟩ ⟨rfl, hx⟩
    obtain ⟨b, hbi, hb⟩ := paired_get hbs hx
    have hb' := hb
    obtain ⟨z, dz, lw, le, es, rfl, hz1, _, _, _⟩ := hb'
    have hbm := List.mem_of_getElem? hbi
    have lus := Paired.length hus
    rw [List.length_take, List.length_map] at lus
    refine ⟨rfl, _, rfl, z, dz, _, rfl, s7 _ _ hz1, l_Bar_length, _, rfl, b, hb.mono s7, hvok.bars b hbm, ?_, fun g H9 s9 hg => ?_⟩
    · have := bar_size hbm
      have := notes_len b
      omega
    have hD := s9 _ _ h1
    have su : SB [D] H9 (upd H9 D (.lst (us ++ [g]))) := SB.upd hD trivial trivial (by simp)
    refine ⟨us, hD, by rw [lus, sizeLine_eq]; omega, _, upd_same, ?_, fun b' o e' => ?_⟩
    · rw [takeS (l := v0.bars.map Sx62.Bar.long) (i := i) (x := b.long) (by rw [List.getElem?_map, hbi]; rfl)]
      exact pairedApp (pairedMono (fun _ _ h => (h.mono s9).sb su) hus) (.cons (hg.sb su) .nil)
    · rw [upd_ne (ne_of_none e' nD)]; exact s9 _ _ (s7 _ _ e')
  · rintro H7 ⟨us, h1, hus, s7⟩
    have e0 : bs.length = (v0.bars.map Sx62.Bar.long).length := by rw [lbs, List.length_map]
    rw [e0, List.take_length] at hus
    have lus := Paired.length hus
    rw [List.length_map] at lus
    refine ⟨_, rfl, _, rfl, D, us, _, rfl, h1, hus, by rw [List.length_map]; omega, ?_, bars_fg hvok.bars (by omega), fun p H8 gs np s8 hp hgs => ?_⟩
    · intro g hg
      obtain ⟨b, hb, rfl⟩ := List.mem_map.mp hg
      refine bar_sm (hvok.bars b hb) ?_
      have := bar_size hb
      have := notes_len b
      omega
    have lgs := Paired.length hgs
    rw [List.length_map, List.length_range, List.length_map] at lgs
    refine ⟨_, rfl, p, D, gs, us, rfl, SqL.of hp, SqL.of (s8 _ _ h1), by rw [sizeLine_eq]; omega, fun r H9 zs nr s9 hr hzl hzs => ?_⟩
    have s79 := s7.trans s8
    have s9 : Same H8 H9 := s9
    refine hq r H9 zs (s79.free nr) (s79.trans s9) hr ?_
    rw [hst]
    refine paired_of (by rw [hzl, starts_len]; omega) fun i u hu => ?_
    obtain ⟨t, a, b, rfl, e1, e2, e3⟩ := hzs i u hu
    obtain ⟨g1, hg1, hG1⟩ := paired_get hgs e2
    obtain ⟨g2, hg2, hG2⟩ := paired_get hus e3
    rw [List.getElem?_map] at hg2
    cases hbi : v0.bars[i]? with
    | none => rw [hbi] at hg2; cases hg2
    | some bb =>
      rw [hbi] at hg2
      have hg2 : bb.long = g2 := Option.some.inj hg2
      subst hg2
      have hil : i < v0.bars.length := (List.getElem?_eq_some_iff.mp hbi).1
      rw [List.getElem?_map, List.getElem?_range (by rw [List.length_map]; omega)] at hg1
      have hg1 : Sx62.sum ((v0.bars.map Sx62.Bar.long).take i) = g1 := Option.some.inj hg1
      subst hg1
      refine ⟨_, by rw [starts_get, hbi]; rfl, t, a, b, rfl, e1, hG1.mono s9, (hG2.mono s8).mono s9⟩
def lessOk (t b : Frac) : Prop := b.num * t.den ≤ t.num * b.den
def RetPl (K : PySem.W.Frag) (H : Hp) (o : Option (Nat × Frac)) (Q : VK) : Prop := match o with
  | none => ∀ H', Same H H' → Q .non H'
  | some x => ∀ a u H', Same H H' → H' a = some (.tup [.int (x.1 : Int), u]) → FrA K H' u x.2 → Q (.ref a) H'
def sp_place_of (K : PySem.W.Frag) (A : Ad) : Sp := sp2 fun x y H Q _ => ∃ s t, ScoreA K A H x s ∧ ScoreOk 1501 s ∧ FrA K H y t ∧ Sm t ∧ RetPl K H (Sx62.whereFrom t 0 s.starts) Q
theorem starts_sm {s : Sx62.Score} (hok : ScoreOk 1501 s) {i : Nat} {x : Frac × Frac} (h : s.starts[i]? = some x) : Sm x.1 ∧ Sm x.2 ∧ (i = 0 → x.1 = ⟨0, 1⟩) ∧ ∀ y, s.starts[i + 1]? = some y → y.1 = x.1.plus x.2 := by
  obtain ⟨v0, hv0⟩ : ∃ v0, s.voices[0]? = some v0 := by
    cases e : s.voices with
    | nil => exact absurd e hok.ne
    | cons a l => exact ⟨a, rfl⟩
  have hst : s.starts = Sx62.startsFrom ⟨0, 1⟩ v0.bars := by
    unfold Sx62.Score.starts
    cases hv : s.voices with
    | nil => rw [hv] at hv0; cases hv0
    | cons a l =>
      rw [hv] at hv0
      have : a = v0 := by simpa using hv0
      subst this
      rfl
  have hv0m := List.mem_of_getElem? hv0
  have hvok := hok.voices v0 hv0m
  have hvsz := hok.vsize hv0m
  rw [hst, starts_get] at h
  cases hbi : v0.bars[i]? with
  | none => rw [hbi] at h; cases h
  | some b =>
    rw [hbi] at h
    have h : (((v0.bars.map Sx62.Bar.long).take i).foldl Frac.plus ⟨0, 1⟩, b.long) = x := Option.some.inj h
    subst h
    refine ⟨bars_fg hvok.bars (by omega) i, bar_sm (hvok.bars b (List.mem_of_getElem? hbi)) ?_, fun hi => by subst hi; rfl, fun y hy => ?_⟩
    · have := bar_size (List.mem_of_getElem? hbi)
      have := notes_len b
      omega
    · rw [hst, starts_get] at hy
      cases hbj : v0.bars[i + 1]? with
      | none => rw [hbj] at hy; cases hy
      | some c =>
        rw [hbj] at hy
        have hy := Option.some.inj hy
        rw [← hy]
        show ((v0.bars.map Sx62.Bar.long).take (i + 1)).foldl Frac.plus ⟨0, 1⟩ = _
        rw [takeS (l := v0.bars.map Sx62.Bar.long) (i := i) (x := b.long) (by rw [List.getElem?_map, hbi]; rfl), List.foldl_append]
        rfl
theorem plus_sm {s : Sx62.Score} (hok : ScoreOk 1501 s) {i : Nat} {x : Frac × Frac} (h : s.starts[i]? = some x) : Sm (x.1.plus x.2) := by
  obtain ⟨v0, hv0⟩ : ∃ v0, s.voices[0]? = some v0 := by
    cases e : s.voices with
    | nil => exact absurd e hok.ne
    | cons a l => exact ⟨a, rfl⟩
  have hst : s.starts = Sx62.startsFrom ⟨0, 1⟩ v0.bars := by
    unfold Sx62.Score.starts
    cases hv : s.voices with
    | nil => rw [hv] at hv0; cases hv0
    | cons a l =>
      rw [hv] at hv0
      have : a = v0 := by simpa using hv0
      subst this
      rfl
  have hv0m := List.mem_of_getElem? hv0
  have hvok := hok.voices v0 hv0m
  have hvsz := hok.vsize hv0m
  rw [hst, starts_get] at h
  cases hbi : v0.bars[i]? with
  | none => rw [hbi] at h; cases h
  | some b =>
    rw [hbi] at h
    have h : (((v0.bars.map Sx62.Bar.long).take i).foldl Frac.plus ⟨0, 1⟩, b.long) = x := Option.some.inj h
    subst h
    have := bars_fg hvok.bars (by omega) (i + 1)
    rw [sum_take (l := v0.bars.map Sx62.Bar.long) (i := i) (f := b.long) (by rw [List.getElem?_map, hbi]; rfl)] at this
    exact this
theorem ok_place_of (T : Txt K mg A) : FnOk P w K mg base CX0 7 A.a_place_of A.d_place_of ["score", "time"] (sp_place_of K A) := by
  have G_bars_of := ok_bars_of (P := P) (w := w) (base := base) T
  have G_is_below := ok_is_below (P := P) (w := w) (base := base) T
  have G_less := ok_less (P := P) (w := w) (base := base) T
  have G_plus := ok_plus (P := P) (w := w) (base := base) T
  refine T.F_place_of.ok sc_place_of (sp2_len) (fun cdv Ar outer s H vs Q E hr h => ?_)
  refine ⟨_, (pss_cons (ps_for PassesOwn.never rfl (pi_enum (by rfl) T.z_enumerate (pa_cons (pe_call G_bars_of (hr.mono (by decide)) rfl T.g_bars_of T.F_bars_of.kp T.b_bars_of .nil pass0 (pa_cons (pv 0) pa_nil)) pa_nil)) (pg_tup (n := 2) rfl (pgs_cons (pg_name (i := 2) sc_place_of.nd rfl (Or.inl rfl)) (pgs_cons (pg_tup (n := 2) rfl (pgs_cons (pg_name (i := 3) sc_place_of.nd rfl (Or.inl rfl)) (pgs_cons (pg_name (i := 4) sc_place_of.nd rfl (Or.inl rfl)) pgs_nil))) pgs_nil))) (pss_one (ps_if (pt_val (pe_call G_is_below (hr.mono (by decide)) rfl T.g_is_below T.F_is_below.kp T.b_is_below .nil pass0 (pa_cons (pv 1) (pa_cons (pe_call G_plus (hr.mono (by decide)) rfl T.g_plus T.F_plus.kp T.b_plus .nil pass0 (pa_cons (pv 3) (pa_cons (pv 4) pa_nil))) pa_nil)))) (pss_one (ps_ret (pe_tup (pa_cons (pv 2) (pa_cons (pe_call G_less (hr.mono (by decide)) rfl T.g_less T.F_less.kp T.b_less .nil pass0 (pa_cons (pv 1) (pa_cons (pv 3) pa_nil))) pa_nil))))) pss_nil)))
      (pss_one (ps_ret pe_non))), ?_⟩
  obtain ⟨x, y, rfl, s, t, hs, hok, hy, ht, hq⟩ := h
  refine ⟨_, rfl, _, rfl, s, hs, hok, fun p H1 us np s1 hp hus => ?_⟩
  have lus := Paired.length hus
  have hy1 := hy.mono s1
  refine ⟨p, _, rfl, SqL.of hp, for_it (walk_enum (K := K) (a := p) (xs := us)) (fun i σ H' => ∃ u1 u2 u3, σ = [some x, some y, u1, u2, u3] ∧ Same H1 H' ∧ Sx62.whereFrom t 0 s.starts = Sx62.whereFrom t i (s.starts.drop i) ∧ ∀ z, s.starts[i]? = some z → lessOk t z.1) ⟨none, none, none, rfl, Same.refl _, rfl, fun z hz => ?_⟩ (fun i σ H' _ ⟨_, _, _, _, h, _⟩ => SqL.of (h _ _ hp)) ?_ ?_⟩
  · obtain ⟨_, _, h0, _⟩ := starts_sm hok hz
    rw [h0 rfl]
    show 0 * t.den ≤ _
    rw [Nat.zero_mul]
    exact Nat.zero_le _
  · rintro i e σ H7 H8 hi ⟨u1, u2, u3, rfl, s7, hw, hle⟩ ⟨tt, x1, y1, rfl, nt, rfl, e1, e2⟩
    cases e1
    obtain ⟨st, hsi, tb, a, b, rfl, hb1, hb2, hb3⟩ := paired_get hus e2
    obtain ⟨sm1, sm2, _, hnx⟩ := starts_sm hok hsi
    have hps := plus_sm hok hsi
    have s8 := s7.trans (same_new (o := .tup [.int (i : Nat), .ref tb]) nt)
    refine ⟨tt, _, rfl, SqT.of upd_same, rfl, _, _, rfl, _, _, rfl, tb, _, rfl, SqT.of (s8 _ _ hb1), rfl, _, _, rfl, _, _, rfl, rfl, rfl, ?_⟩
    generalize upd H7 tt (.tup [.int (i : Nat), .ref tb]) = H9 at s8 ⊢
    have hy9 := hy1.mono s8
    have hb29 := hb2.mono s8
    refine ⟨_, rfl, _, rfl, _, rfl, _, _, rfl, st.1, st.2, hb29, hb3.mono s8, sm1, sm2, fun v Ha sa hv => ?_⟩
    refine ⟨_, _, rfl, t, st.1.plus st.2, hy9.mono sa, hv, ht, hps, _, rfl, ?_⟩
    have hd := dropS hsi
    have hwf : Sx62.whereFrom t i (s.starts.drop i) = if Sx62.less t (st.1.plus st.2) = true then some (i, lessF t st.1) else Sx62.whereFrom t (i + 1) (s.starts.drop (i + 1)) := by
      rw [hd]
      rfl
    refine iteB (fun hb => ?_) (fun hb => ?_)
    · rw [if_pos hb] at hwf
      rw [hw.trans hwf] at hq
      refine ⟨_, rfl, _, rfl, _, rfl, _, _, rfl, t, st.1, hy9.mono sa, hb29.mono sa, ht, sm1, hle st hsi, fun v2 Hb sb hv2 => ?_⟩
      refine ⟨by show 2 ≤ sizeLine; decide, fun r nr => ?_⟩
      exact hq r v2 _ ((((s1.trans s8).trans sa).trans sb).trans (same_new nr)) upd_same (hv2.mono (same_new nr))
    · rw [if_neg (by rw [hb]; exact Bool.false_ne_true)] at hwf
      refine ⟨_, _, _, rfl, s8.trans sa, hw.trans hwf, fun z hz => ?_⟩
      rw [hnx z hz]
      have : Sx62.less t (st.1.plus st.2) = false := hb
      unfold Sx62.less at this
      have := of_decide_eq_false this
      unfold lessOk
      omega
  · rintro σ H7 ⟨u1, u2, u3, rfl, s7, hw, hle⟩
    have e : s.starts.drop us.length = [] := List.drop_eq_nil_of_le (by omega)
    rw [e] at hw
    have hw : Sx62.whereFrom t 0 s.starts = none := hw
    rw [hw] at hq
    exact hq H7 (s1.trans s7)
end
end Sc

set_option Elab.async false
set_option linter.all false
set_option maxRecDepth 100000
set_option maxHeartbeats 4000000
/-! # sounds -/
namespace Sc
open PySem PySem.Spec PyProof.Rows L2 Pf Zq
open Sx62 (Frac Pitch Word Timed Piece)
section
variable {P : Program} {w : World} {K : PySem.W.Frag} {mg : Str → Option Value} {base : Heap} {A : Ad}
/-- a voice's events, as a list of one's own -/
structure EvL (K : PySem.W.Frag) (A : Ad) (H : Hp) (l : Addr) (es : List V) (ts : List Timed) : Prop where
  at_ : H l = some (.lst es)
  ev : Paired (EvA K A H) es ts
theorem EvL.mono {H H' : Hp} {l : Addr} {es : List V} {ts : List Timed} (s : Same H H') (h : EvL K A H l es ts) : EvL K A H' l es ts := ⟨s _ _ h.at_, pairedMono (fun _ _ h => h.mono s) h.ev⟩
def sp_is_going_on (K : PySem.W.Frag) (A : Ad) : Sp := sp3 fun x y z H Q _ => ∃ (l : Addr) (es : List V) (ts : List Timed) (k : Nat) (p : Pitch), x = .ref l ∧ y = .int (k : Int) ∧ EvL K A H l es ts ∧ k ≤ ts.length ∧ PiA K H z p ∧ Q (.bl ((tiedAt ts k).contains p)) H
theorem ok_is_going_on (T : Txt K mg A) : FnOk P w K mg base CX0 1 A.a_is_going_on A.d_is_going_on ["events", "k", "pitch"] (sp_is_going_on K A) := by
  refine T.F_is_going_on.ok sc_is_going_on (sp3_len) (fun cdv Ar outer s H vs Q E hr h => ?_)
  refine ⟨_, (pss_one (ps_ret (pe_and (pe_cmpR op_gt (pv 1) pe_int (nomark _)) (pe_and (pe_fld (pe_ix ix_list (pv 0) (pe_op op_sub (pv 1) pe_int) (fun _ _ => rfl)) rfl) (pe_one (pe_cmpR (op_inD (hD2 hr)) (pv 2) (pe_fld (pe_ix ix_list (pv 0) (pe_op op_sub (pv 1) pe_int) (fun _ _ => rfl)) rfl) rfl)))))), ?_⟩
  obtain ⟨x, y, z, rfl, l, es, ts, k, p, rfl, rfl, hl, hk, hp, hq⟩ := h
  have les := Paired.length hl.ev
  refine ⟨_, rfl, _, _, rfl, rfl, _, rfl, ?_⟩
  cases k with
  | zero => exact ite_f rfl hq
  | succ k =>
    refine ite_t (by rw [decide_eq_true_eq]; omega) ?_
    have he : es[k]? = some (es[k]'(by omega)) := List.getElem?_eq_getElem _
    generalize es[k]'(by omega) = e0 at he
    obtain ⟨n, hn, y, dy, le, f, ps, rfl, hy1, hy2, hy3, _⟩ := paired_get hl.ev he
    have ek : ((k + 1 : Nat) : Int) - 1 = (k : Int) := by omega
    refine ⟨_, rfl, _, rfl, _, _, rfl, rfl, l, _, _, _, rfl, rfl, SqL.of hl.at_, by rw [ek]; exact atI_nat he, y, _, dy, _, _, rfl, hy1, T.cl_Event, T.n_Event_is_tied, l_Event_is_tied, n.tie, rfl, ?_⟩
    have etd : tiedAt ts (k + 1) = if n.tie = true then n.ps else [] := by
      show (match ts[k]? with | some n => if n.tie = true then n.ps else [] | none => []) = _
      rw [hn]
    rw [etd] at hq
    cases ht : n.tie with
    | false =>
      rw [ht] at hq
      exact ite_f rfl hq
    | true =>
      rw [ht] at hq
      refine ite_t rfl ?_
      refine ⟨_, rfl, _, rfl, _, rfl, _, _, rfl, rfl, l, _, _, _, rfl, rfl, SqL.of hl.at_, by rw [ek]; exact atI_nat he, y, _, dy, _, _, rfl, hy1, T.cl_Event, T.n_Event_pitches, l_Event_pitches, ?_⟩
      refine ⟨pd p, n.ps.map pd, hp.dp, .lst (SqL.of hy2) (pis_dp hy3), pd_shaped _, pds_shaped _, ?_⟩
      rw [pds_any]
      exact hq
structure TsOk (ts : List Timed) : Prop where
  ev : ∀ t ∈ ts, EvOk t
  len : ts.length ≤ 1600
  bad : ∀ j, badTie ts j = false
theorem TsOk.sums {ts : List Timed} (h : TsOk ts) (i : Nat) : Sm (Sx62.sum ((ts.map fun n => n.long).take i)) := by
  refine fg_take (fun f hf => ?_) (by rw [List.length_map]; have := h.len; omega) i
  obtain ⟨t, ht, rfl⟩ := List.mem_map.mp hf
  exact (h.ev t ht).long
def sp_sound_length (K : PySem.W.Frag) (A : Ad) : Sp := sp2 fun x y H Q _ => ∃ (l : Addr) (es : List V) (ts : List Timed) (k : Nat), x = .ref l ∧ y = .int (k : Int) ∧ EvL K A H l es ts ∧ TsOk ts ∧ k < ts.length ∧ RetFr K H (tieSum (ts.drop k)) Q
theorem ok_sound_length (T : Txt K mg A) : FnOk P w K mg base CX0 4 A.a_sound_length A.d_sound_length ["events", "k"] (sp_sound_length K A) := by
  have G_plus := ok_plus (P := P) (w := w) (base := base) T
  refine T.F_sound_length.ok sc_sound_length (sp2_len) (fun cdv Ar outer s H vs Q E hr h => ?_)
  refine ⟨_, (pss_cons (ps_set (i := 2) sc_sound_length.nd rfl (Or.inl rfl) (pe_fld (pe_ix ix_list (pv 0) (pv 1) (fun _ _ => rfl)) rfl))
      (pss_cons (ps_set (i := 3) sc_sound_length.nd rfl (Or.inl rfl) (pv 1))
      (pss_cons (ps_while PassesOwn.never (pt_val (pe_fld (pe_ix ix_list (pv 0) (pv 3) (fun _ _ => rfl)) rfl)) (pss_cons (ps_aug (i := 3) sc_sound_length.nd rfl (Or.inl rfl) pe_int ip_add)
      (pss_one (ps_set (i := 2) sc_sound_length.nd rfl (Or.inl rfl) (pe_call G_plus (hr.mono (by decide)) rfl T.g_plus T.F_plus.kp T.b_plus .nil pass0 (pa_cons (pv 2) (pa_cons (pe_fld (pe_ix ix_list (pv 0) (pv 3) (fun _ _ => rfl)) rfl) pa_nil)))))))
      (pss_one (ps_ret (pv 2)))))), ?_⟩
  obtain ⟨x, y, rfl, l, es, ts, k, rfl, rfl, hl, hok, hk, hq⟩ := h
  have les := Paired.length hl.ev
  have hlen := hok.len
  have evAt : ∀ j, j < ts.length → ∃ e n, es[j]? = some e ∧ ts[j]? = some n ∧ EvA K A H e n := fun j hj => by
    have he : es[j]? = some (es[j]'(by omega)) := List.getElem?_eq_getElem _
    obtain ⟨n, hn, h⟩ := paired_get hl.ev he
    exact ⟨_, n, he, hn, h⟩
  have posd : ∀ j, 0 < (tieSum (ts.drop j)).den := fun j => tieSum_pos fun x hx => (hok.ev x (List.mem_of_mem_drop hx)).long.pos
  obtain ⟨e0, n0, he0, hn0, y0, dy0, l0, f0, ps0, rfl, hy1, _, _, hy4⟩ := evAt k hk
  refine ⟨_, rfl, _, rfl, l, _, _, _, rfl, rfl, SqL.of hl.at_, atI_nat he0, y0, _, dy0, _, _, rfl, hy1, T.cl_Event, T.n_Event_long, l_Event_long, ?_⟩
  refine ⟨_, rfl, ?_⟩
  refine ⟨fun m σ H' => ∃ (at_ : Nat) (v : V) (f : Frac) (n : Timed), m = ts.length - at_ ∧ σ = [some (.ref l), some (.int (k : Int)), some v, some (.int (at_ : Int))] ∧ Same H H' ∧ FrA K H' v f ∧ at_ < ts.length ∧ ts[at_]? = some n ∧ FG (200 * (at_ + 1)) f ∧
    tieSum (ts.drop k) = (if n.tie = true then f.plus (tieSum (ts.drop (at_ + 1))) else f), ⟨_, k, f0, n0.long, n0, rfl, rfl, Same.refl _, hy4, hk, hn0, ((hok.ev n0 (List.mem_of_getElem? hn0)).long.mono (by omega)), by rw [dropS hn0]; rfl⟩, ?_⟩
  rintro m σ H1 ⟨j, v, f, n, rfl, rfl, s1, hv, hj, hn, hfg, hts⟩
  obtain ⟨e1, n1, he1, hn1, y1, dy1, l1, f1, ps1, rfl, hz1, _, _, hz4⟩ := evAt j hj
  rw [hn] at hn1
  cases hn1
  refine ⟨_, rfl, _, rfl, l, _, _, _, rfl, rfl, SqL.of (s1 _ _ hl.at_), atI_nat he1, y1, _, dy1, _, _, rfl, s1 _ _ hz1, T.cl_Event, T.n_Event_is_tied, l_Event_is_tied, n.tie, rfl, ?_⟩
  cases ht : n.tie with
  | false =>
    rw [ht, if_neg Bool.false_ne_true] at hts
    rw [hts] at hq
    refine ite_f rfl ?_
    exact ⟨_, rfl, hq v H1 s1 hv⟩
  | true =>
    rw [ht, if_pos rfl] at hts
    refine ite_t rfl ?_
    have hb := hok.bad j
    have hd := dropS hn
    obtain ⟨yy, r, hdr, _⟩ := tie_next (n := n) (l := ts.drop (j + 1)) (fun h => (hok.ev n (List.mem_of_getElem? hn)).tie h) (by
      rw [← hd, badTie_drop]
      exact hok.bad _) ht
    have hj1 : j + 1 < ts.length := by
      rcases Nat.lt_or_ge (j + 1) ts.length with h | h
      · exact h
      · rw [List.drop_eq_nil_of_le h] at hdr; cases hdr
    obtain ⟨e2, n2, he2, hn2, y2, dy2, l2, f2, ps2, rfl, hw1, _, _, hw4⟩ := evAt (j + 1) hj1
    refine ⟨fun σ' H' => ∃ m', m' < ts.length - j ∧ ∃ (at_ : Nat) (v : V) (f : Frac) (n : Timed), m' = ts.length - at_ ∧ σ' = [some (.ref l), some (.int (k : Int)), some v, some (.int (at_ : Int))] ∧ Same H H' ∧ FrA K H' v f ∧ at_ < ts.length ∧ ts[at_]? = some n ∧ FG (200 * (at_ + 1)) f ∧
      tieSum (ts.drop k) = (if n.tie = true then f.plus (tieSum (ts.drop (at_ + 1))) else f), fun _ _ h => h, ?_⟩
    refine ⟨_, rfl, _, _, rfl, rfl, ?_⟩
    have ej : (j : Int) + 1 = ((j + 1 : Nat) : Int) := by omega
    refine ⟨_, rfl, _, rfl, _, rfl, l, _, _, _, rfl, rfl, SqL.of (s1 _ _ hl.at_), by show atI es ((j : Int) + 1) = _; rw [ej]; exact atI_nat he2, y2, _, dy2, _, _, rfl, s1 _ _ hw1, T.cl_Event, T.n_Event_long, l_Event_long, ?_⟩
    have hn2e := hok.ev n2 (List.mem_of_getElem? hn2)
    refine ⟨_, _, rfl, f, n2.long, hv, hw4.mono s1, hfg.sm (by omega), hn2e.long.sm (by omega), fun v3 H3 s3 hv3 => ?_⟩
    refine ⟨ts.length - (j + 1), by omega, j + 1, v3, f.plus n2.long, n2, rfl, by rw [← ej]; rfl, s1.trans s3, hv3, hj1, hn2, ?_, ?_⟩
    · have := fg_plus hfg hn2e.long
      have e : 200 * (j + 1) + 200 = 200 * (j + 1 + 1) := by omega
      rw [e] at this
      exact this
    · rw [hts, dropS hn2]
      show f.plus (if n2.tie = true then n2.long.plus (tieSum (ts.drop (j + 1 + 1))) else n2.long) = _
      cases n2.tie with
      | false => rfl
      | true =>
        rw [if_pos rfl, if_pos rfl, plus_assoc hfg.pos hn2e.long.pos (posd _)]
def rowsAt (ts : List Timed) (i : Nat) (n : Timed) (j : Nat) : List Sx62.Sound := ((n.ps.take j).filter fun p => !(tiedAt ts i).contains p).map fun p => ⟨p, Sx62.sum ((ts.map fun n => n.long).take i), tieSum (ts.drop i)⟩
theorem sounds_step {ts : List Timed} (hok : TsOk ts) {i : Nat} {n : Timed} (hn : ts[i]? = some n) : Sx62.soundsFrom (Sx62.sum ((ts.map fun n => n.long).take i)) (tiedAt ts i) (ts.drop i) =
    rowsAt ts i n n.ps.length ++ Sx62.soundsFrom (Sx62.sum ((ts.map fun n => n.long).take (i + 1))) (tiedAt ts (i + 1)) (ts.drop (i + 1)) := by
  have hd := dropS hn
  have etd : tiedAt ts (i + 1) = if n.tie = true then n.ps else [] := by
    show (match ts[i]? with | some n => if n.tie = true then n.ps else [] | none => []) = _
    rw [hn]
  rw [etd, sum_take (l := ts.map fun n => n.long) (i := i) (f := n.long) (by rw [List.getElem?_map, hn]; rfl)]
  unfold rowsAt
  rw [List.take_length]
  conv => lhs; rw [hd]
  show ((n.ps.filter fun p => !(tiedAt ts i).contains p).map fun p => Sx62.Sound.mk p (Sx62.sum ((ts.map fun n => n.long).take i)) (if n.tie = true then n.long.plus (Sx62.goesOn p (ts.drop (i + 1))) else n.long)) ++ _ = _
  congr 1
  refine List.map_congr_left fun p hp => ?_
  have hp' := (List.mem_filter.mp hp).1
  rw [sound_tie (n := n) (l := ts.drop (i + 1)) (fun x hx => (hok.ev x (List.mem_of_mem_drop (by rw [hd]; exact hx))).tie) (fun j => by rw [← hd, badTie_drop]; exact hok.bad _) hp', ← hd]
def RowA (H : Hp) (u : V) (r : List Nat) : Prop := ∃ a, u = .ref a ∧ H a = some (.lst (nvs r))
theorem RowA.mono {H H' : Hp} {u : V} {r : List Nat} (s : Same H H') (h : RowA H u r) : RowA H' u r := by
  obtain ⟨a, rfl, h⟩ := h
  exact ⟨a, rfl, s _ _ h⟩
def sp_sounds_of (K : PySem.W.Frag) (A : Ad) : Sp := sp1 fun x H Q _ => ∃ v, VoiceA K A H x v ∧ VoiceOk v ∧ barsSize v.bars ≤ 1501 ∧ Sx62.loose v.notes = none ∧ ∀ r H' us, H r = none → Same H H' → H' r = some (.lst us) → Paired (RowA H') us (v.sounds.map Sx62.soundOut) → v.sounds.length ≤ 10000 → Q (.ref r) H'
theorem ok_sounds_of (T : Txt K mg A) : FnOk P w K mg base CX0 5 A.a_sounds_of A.d_sounds_of ["voice"] (sp_sounds_of K A) := by
  have G_Voice_all_events := ok_Voice_all_events (P := P) (w := w) (base := base) T
  have G_begins_of := ok_begins_of (P := P) (w := w) (base := base) T
  have G_is_going_on := ok_is_going_on (P := P) (w := w) (base := base) T
  have G_sound_length := ok_sound_length (P := P) (w := w) (base := base) T
  refine T.F_sounds_of.ok sc_sounds_of (sp1_len) (fun cdv Ar outer s H vs Q E hr h => ?_)
  refine ⟨_, (pss_cons (ps_set (i := 1) sc_sounds_of.nd rfl (Or.inl rfl) (pe_meth0 (pv 0) T.cl_Voice T.m_Voice_all_events G_Voice_all_events (hr.mono (by decide)) T.b_Voice_all_events .nil pass0))
      (pss_cons (ps_set (i := 3) sc_sounds_of.nd rfl (Or.inl rfl) (pe_call G_begins_of (hr.mono (by decide)) rfl T.g_begins_of T.F_begins_of.kp T.b_begins_of .nil pass0 (pa_cons (pe_lc (own := [("event", 2)]) (g := gName 2) (tt := tYes) rfl sc_sounds_of.nd (pi_list (pv 1)) (blkOk_by (N := ["voice", "events", "event", "begins", "found", "k", "pitch", "octave", "letter", "sign"]) (sc := defScope s_sounds_of) (by decide +kernel)) (fun _ _ _ _ _ => (pg_name (i := 2) sc_sounds_of.nd rfl (Or.inl rfl))) (fun _ _ _ _ _ => pts_nil) (fun _ _ _ _ _ => (pe_fldK (K := K) (by rfl) (pv 2) rfl))) pa_nil)))
      (pss_cons (ps_set (i := 4) sc_sounds_of.nd rfl (Or.inl rfl) (pe_lst pa_nil))
      (pss_cons (ps_for PassesOwn.never rfl (pi_enum (by rfl) T.z_enumerate (pa_cons (pv 1) pa_nil)) (pg_tup (n := 2) rfl (pgs_cons (pg_name (i := 5) sc_sounds_of.nd rfl (Or.inl rfl)) (pgs_cons (pg_name (i := 2) sc_sounds_of.nd rfl (Or.inl rfl)) pgs_nil))) (pss_one (ps_for PassesOwn.never rfl (pi_list (pe_fld (pv 2) rfl)) (pg_name (i := 6) sc_sounds_of.nd rfl (Or.inl rfl)) (pss_one (ps_if (pt_not (pt_val (pe_call G_is_going_on (hr.mono (by decide)) rfl T.g_is_going_on T.F_is_going_on.kp T.b_is_going_on .nil pass0 (pa_cons (pv 1) (pa_cons (pv 5) (pa_cons (pv 6) pa_nil)))))) (pss_cons (ps_asg (pv 6) (pg_tup (n := 3) rfl (pgs_cons (pg_name (i := 7) sc_sounds_of.nd rfl (Or.inl rfl)) (pgs_cons (pg_name (i := 8) sc_sounds_of.nd rfl (Or.inl rfl)) (pgs_cons (pg_name (i := 9) sc_sounds_of.nd rfl (Or.inl rfl)) pgs_nil)))))
      (pss_one (ps_expr (pe_bm PySem.F.plainAttrs_list PySem.F.slot_list_append PySem.F.type_list_append mt_append (pv 4) (pa_cons (pe_op op_cat (pe_op op_cat (pe_lst (pa_cons (pv 8) (pa_cons (pv 9) (pa_cons (pv 7) pa_nil)))) (pe_callTy call_list_of (by rfl) T.z_list (by decide +kernel) (pa_cons (pe_ix ix_list (pv 3) (pv 5) (fun _ _ => rfl)) pa_nil))) (pe_callTy call_list_of (by rfl) T.z_list (by decide +kernel) (pa_cons (pe_call G_sound_length (hr.mono (by decide)) rfl T.g_sound_length T.F_sound_length.kp T.b_sound_length .nil pass0 (pa_cons (pv 1) (pa_cons (pv 5) pa_nil))) pa_nil))) pa_nil))))) pss_nil)))))
      (pss_one (ps_ret (pv 4))))))), ?_⟩
  obtain ⟨x, rfl, v, hv, hok, hsz, hlo, hq⟩ := h
  have hv' := hv
  obtain ⟨q, dq, lb, bs, rfl, hq1, hq2, hbs⟩ := hv'
  have hnl : v.notes.length ≤ 1501 := Nat.le_trans (notes_size v.bars) hsz
  have hts : TsOk v.notes := ⟨hok.evs, by omega, loose_ok (fun t ht => (hok.evs t ht).tie) hlo⟩
  have hvs : v.sounds = Sx62.soundsFrom ⟨0, 1⟩ [] v.notes := rfl
  refine ⟨_, rfl, q, dq, _, rfl, hq1, l_Voice_all_events, _, rfl, v, hv, by omega, fun p H1 es np s1 hp hes0 => ?_⟩
  generalize v.notes = ts at *
  have hes : EvL K A H1 p es ts := ⟨hp, pairedMono (fun _ _ h => h.mono s1) hes0⟩
  have les := Paired.length hes.ev
  refine ⟨_, rfl, p, rfl, ⟨_, SqL.of hp⟩, fun D nD => lc_it (walk_list (K := K) (a := p) (xs := es)) (fun i H' => ∃ us, H' D = some (.lst us) ∧ Paired (FrA K H1) us ((ts.map fun n => n.long).take i) ∧ Same H1 H') ⟨[], upd_same, .nil, same_new nD⟩ (fun i H' _ ⟨_, _, _, h⟩ => SqL.of (h _ _ hp)) ?_ ?_⟩
  · rintro i x H7 H8 hi ⟨us, h1, hus, s7⟩ ⟨rfl, hx⟩
    obtain ⟨n, hni, y, dy, l, f, ps, rfl, hy1, _, _, hf⟩ := paired_get hes.ev hx
    have lus := Paired.length hus
    rw [List.length_take, List.length_map] at lus
    refine ⟨rfl, _, rfl, y, _, dy, _, _, rfl, s7 _ _ hy1, T.cl_Event, T.n_Event_long, l_Event_long, us, h1, by rw [lus, sizeLine_eq]; omega, us ++ [f], upd_same, ?_, fun b o e => ?_⟩
    · rw [takeS (l := ts.map fun n => n.long) (i := i) (x := n.long) (by rw [List.getElem?_map, hni]; rfl)]
      exact pairedApp hus (.cons hf .nil)
    · rw [upd_ne (ne_of_none e nD)]; exact s7 _ _ e
  rintro H2 ⟨us, h1, hus, s2⟩
  have e0 : es.length = (ts.map fun n => n.long).length := by rw [les, List.length_map]
  rw [e0, List.take_length] at hus
  refine ⟨_, rfl, D, us, _, rfl, h1, pairedMono (fun _ _ h => h.mono s2) hus, by rw [List.length_map]; omega, ?_, hts.sums, fun B H3 gs nB s3 hB hgs => ?_⟩
  · intro g hg
    obtain ⟨t, ht, rfl⟩ := List.mem_map.mp hg
    exact (hts.ev t ht).long.sm (by omega)
  have s13 := s2.trans s3
  refine ⟨by show 0 ≤ sizeLine; decide, fun F nF => ?_⟩
  have sF := same_new (o := .lst []) nF
  have hes3 : EvL K A (upd H3 F (.lst [])) p es ts := hes.mono (s13.trans sF)
  refine ⟨_, rfl, p, _, rfl, SqL.of hes3.at_, for_it (walk_enum (K := K) (a := p) (xs := es)) (fun i σ H' => ∃ u1 u2 u3 u4 u5 u6 rows dn, σ = [some (.ref q), some (.ref p), u1, some (.ref B), some (.ref F), u2, u3, u4, u5, u6] ∧ Same H3 H' ∧ H' F = some (.lst rows) ∧ Paired (RowA (hid [F] H')) rows (dn.map Sx62.soundOut) ∧
    v.sounds = dn ++ Sx62.soundsFrom (Sx62.sum ((ts.map fun n => n.long).take i)) (tiedAt ts i) (ts.drop i) ∧ dn.length ≤ 6 * i) ⟨none, none, none, none, none, none, [], [], rfl, sF, upd_same, .nil, by rw [List.drop_zero]; exact hvs, Nat.zero_le _⟩ (fun i σ H' _ ⟨_, _, _, _, _, _, _, _, _, h, _⟩ => SqL.of ((s13.trans h) _ _ hp)) ?_ ?_⟩
  · rintro i y σ H7 H8 hi ⟨u1, u2, u3, u4, u5, u6, rows, dn, rfl, s7, hF7, hrows, hsd, hdn⟩ ⟨t, x1, y1, rfl, nt, rfl, e1, e2⟩
    cases e1
    obtain ⟨n, hni, y, dy, l, f, ps, rfl, hy1, hy2, hy3, _⟩ := paired_get hes.ev e2
    have hevn := hts.ev n (List.mem_of_getElem? hni)
    have lps := Paired.length hy3
    have st := same_new (o := .tup [.int (i : Nat), .ref y]) nt
    have hsd2 := hsd.trans (congrArg (dn ++ ·) (sounds_step hts hni))
    refine ⟨t, _, rfl, SqT.of upd_same, rfl, _, _, rfl, _, _, rfl, rfl, ?_⟩
    have s8 := s7.trans st
    have hF8 := st _ _ hF7
    have hrows8 : Paired (RowA (hid [F] (upd H7 t (.tup [.int (i : Nat), .ref y])))) rows (dn.map Sx62.soundOut) := pairedMono (fun _ _ h => h.mono (hid_same (SB.of st))) hrows
    generalize upd H7 t (.tup [.int (i : Nat), .ref y]) = H9 at s8 hF8 hrows8 ⊢
    have s18 := s13.trans s8
    refine ⟨_, rfl, y, _, dy, _, _, rfl, s18 _ _ hy1, T.cl_Event, T.n_Event_pitches, l_Event_pitches, l, rfl, ⟨_, SqL.of (s18 _ _ hy2)⟩, for_it (walk_list (K := K) (a := l) (xs := ps)) (fun j σ H' => ∃ u3 u4 u5 u6 rows, σ = [some (.ref q), some (.ref p), some (.ref y), some (.ref B), some (.ref F), some (.int (i : Int)), u3, u4, u5, u6] ∧ Same H3 H' ∧ H' F = some (.lst rows) ∧ Paired (RowA (hid [F] H')) rows ((dn ++ rowsAt ts i n j).map Sx62.soundOut)) ⟨u3, u4, u5, u6, rows, rfl, s8, hF8, by
      have : rowsAt ts i n 0 = [] := rfl
      rw [this, List.append_nil]; exact hrows8⟩ (fun i σ H' _ ⟨_, _, _, _, _, _, h, _⟩ => SqL.of ((s13.trans h) _ _ hy2)) ?_ ?_⟩
    · rintro j x σ Ha Hb hj ⟨u3, u4, u5, u6, rows, rfl, sa, hFa, hra⟩ ⟨rfl, hx⟩
      obtain ⟨pt, hpt, hpi⟩ := paired_get hy3 hx
      have s1a := s13.trans sa
      have hlr := Paired.length hra
      rw [List.length_map, List.length_append] at hlr
      have hrl : (rowsAt ts i n j).length ≤ 6 := by
        unfold rowsAt
        rw [List.length_map]
        exact Nat.le_trans (List.length_filter_le _ _) (Nat.le_trans (List.length_take_le' _ _) hevn.six)
      refine ⟨_, rfl, _, rfl, _, rfl, _, _, _, rfl, p, es, ts, i, pt, rfl, rfl, hes.mono s1a, by omega, hpi.mono s1a, _, rfl, ?_⟩
      have hstep : rowsAt ts i n (j + 1) = rowsAt ts i n j ++ if (!(tiedAt ts i).contains pt) = true then [⟨pt, Sx62.sum ((ts.map fun n => n.long).take i), tieSum (ts.drop i)⟩] else [] := by
        unfold rowsAt
        rw [takeS hpt, List.filter_append, List.map_append]
        congr 1
        rw [List.filter_cons]
        cases (tiedAt ts i).contains pt <;> rfl
      cases hgo : (tiedAt ts i).contains pt with
      | true =>
        refine ite_f rfl ?_
        refine ⟨_, _, _, _, rows, rfl, sa, hFa, ?_⟩
        rw [hstep, hgo, if_neg (by decide), List.append_nil]
        exact hra
      | false =>
        refine ite_t rfl ?_
        obtain ⟨pa, rfl, hpa⟩ := hpi.mono s1a
        refine ⟨_, rfl, pa, _, rfl, hpa, rfl, _, _, rfl, _, _, rfl, _, _, rfl, rfl, ?_⟩
        have lgs := Paired.length hgs
        rw [List.length_map, List.length_range, List.length_map] at lgs
        have hgi : gs[i]? = some (gs[i]'(by omega)) := List.getElem?_eq_getElem _
        generalize gs[i]'(by omega) = g0 at hgi
        obtain ⟨fr, hfr, hG⟩ := paired_get hgs hgi
        rw [List.getElem?_map, List.getElem?_range (by rw [List.length_map]; omega)] at hfr
        have hfr : Sx62.sum ((ts.map fun n => n.long).take i) = fr := Option.some.inj hfr
        obtain ⟨ga, rfl, hga⟩ := hG.mono sa
        refine ⟨_, rfl, .inl ⟨rfl, _, SqL.of hFa⟩, _, rfl, _, rfl, _, rfl, by show 3 ≤ sizeLine; decide, fun r1 nr1 => ?_⟩
        have z1 := same_new (o := .lst [.int (pt.letter : Int), .int (pt.sign : Int), .int (pt.octave : Int)]) nr1
        refine ⟨_, rfl, _, rfl, B, _, _, _, rfl, rfl, SqL.of (z1 _ _ (sa _ _ hB)), atI_nat hgi, ga, _, rfl, .inr (sameT z1 hga), fun r2 nr2 => ?_⟩
        have z2 := same_new (o := .lst [.int (fr.num : Int), .int (fr.den : Int)]) nr2
        refine ⟨r1, r2, _, _, rfl, rfl, z2 _ _ upd_same, upd_same, by show 3 + 2 ≤ sizeLine; decide, fun r3 nr3 => ?_⟩
        have z3 := same_new (o := .lst ([V.int (pt.letter : Int), .int (pt.sign : Int), .int (pt.octave : Int)] ++ [.int (fr.num : Int), .int (fr.den : Int)])) nr3
        have z123 := (z1.trans z2).trans z3
        refine ⟨_, rfl, _, rfl, _, _, rfl, p, es, ts, i, rfl, rfl, hes.mono (s1a.trans z123), hts, by omega, fun v4 H4 z4 hv4 => ?_⟩
        obtain ⟨va, rfl, hva⟩ := hv4
        refine ⟨va, _, rfl, .inr hva, fun r4 nr4 => ?_⟩
        have z5 := same_new (o := .lst [V.int ((tieSum (ts.drop i)).num : Int), .int ((tieSum (ts.drop i)).den : Int)]) nr4
        refine ⟨r3, r4, _, _, rfl, rfl, z5 _ _ (z4 _ _ upd_same), upd_same, by show 5 + 2 ≤ sizeLine; decide, fun r5 nr5 => ?_⟩
        have z6 := same_new (o := .lst ([V.int (pt.letter : Int), .int (pt.sign : Int), .int (pt.octave : Int)] ++ [.int (fr.num : Int), .int (fr.den : Int)] ++ [V.int ((tieSum (ts.drop i)).num : Int), .int ((tieSum (ts.drop i)).den : Int)])) nr5
        have zall := ((z123.trans z4).trans z5).trans z6
        have hF6 := zall _ _ hFa
        refine ⟨F, rows, _, rfl, rfl, hF6, by rw [sizeLine_eq]; omega, ?_⟩
        have hr5 := upd_same (H := upd H4 r4 (.lst [V.int ((tieSum (ts.drop i)).num : Int), .int ((tieSum (ts.drop i)).den : Int)])) (a := r5) (o := .lst ([V.int (pt.letter : Int), .int (pt.sign : Int), .int (pt.octave : Int)] ++ [.int (fr.num : Int), .int (fr.den : Int)] ++ [V.int ((tieSum (ts.drop i)).num : Int), .int ((tieSum (ts.drop i)).den : Int)]))
        have nF5 : r5 ≠ F := fun e => by
          have := ((z123.trans z4).trans z5) _ _ hFa
          rw [← e, nr5] at this; cases this
        have hra6 : Paired (RowA (hid [F] _)) rows _ := pairedMono (fun _ _ h => h.mono (hid_same (SB.of zall))) hra
        have s6 := sa.trans zall
        generalize upd (upd H4 r4 (.lst [V.int ((tieSum (ts.drop i)).num : Int), .int ((tieSum (ts.drop i)).den : Int)])) r5 (.lst ([V.int (pt.letter : Int), .int (pt.sign : Int), .int (pt.octave : Int)] ++ [.int (fr.num : Int), .int (fr.den : Int)] ++ [V.int ((tieSum (ts.drop i)).num : Int), .int ((tieSum (ts.drop i)).den : Int)])) = H6 at hF6 hr5 hra6 s6 ⊢
        have su : SB [F] H6 (upd H6 F (.lst (rows ++ [V.ref r5]))) := SB.upd hF6 trivial trivial (by simp)
        refine ⟨_, _, _, _, rows ++ [V.ref r5], rfl, fun b o e => ?_, upd_same, ?_⟩
        · rw [upd_ne (ne_of_none e nF)]; exact s6 _ _ e
        · rw [hstep, hgo, if_pos (by decide), ← List.append_assoc, List.map_append]
          refine pairedApp (pairedMono (fun _ _ h => h.mono (hid_same su)) hra6) (.cons ⟨r5, rfl, ?_⟩ .nil)
          rw [hid_out (by simpa using nF5), upd_ne nF5, hr5, hfr]
          rfl
    · rintro σ Ha ⟨u3, u4, u5, u6, rows, rfl, sa, hFa, hra⟩
      rw [lps] at hra
      refine ⟨_, _, _, _, _, _, rows, dn ++ rowsAt ts i n n.ps.length, rfl, sa, hFa, hra, by rw [hsd2, List.append_assoc], ?_⟩
      have hrl : (rowsAt ts i n n.ps.length).length ≤ 6 := by
        unfold rowsAt
        rw [List.length_map]
        exact Nat.le_trans (List.length_filter_le _ _) (Nat.le_trans (List.length_take_le' _ _) hevn.six)
      rw [List.length_append]
      omega
  · rintro σ Ha ⟨u1, u2, u3, u4, u5, u6, rows, dn, rfl, sa, hFa, hra, hsd, hdn⟩
    rw [les] at hsd hdn
    have e1 : ts.drop ts.length = [] := List.drop_length
    rw [e1] at hsd
    have hsd : v.sounds = dn ++ [] := hsd
    rw [List.append_nil] at hsd
    refine ⟨_, rfl, hq F Ha rows ((s1.trans s13).free nF) ((s1.trans s13).trans sa) hFa ?_ ?_⟩
    · rw [hsd]
      exact pairedMono (fun _ _ h => h.mono hid_sub) hra
    · rw [hsd]; omega
end
end Sc

set_option Elab.async false
set_option linter.all false
set_option maxRecDepth 100000
set_option maxHeartbeats 4000000
/-! # a holder's calls -/
namespace Sc
open PySem PySem.Spec PyProof.Rows L2 Pf Zq
open Sx62 (Frac Pitch Word Timed Piece)
def ivs (l : List Int) : List V := l.map V.int
def nis (l : List Nat) : List Int := l.map fun n : Nat => (n : Int)
theorem nvs_nis (l : List Nat) : nvs l = ivs (nis l) := by unfold nvs ivs nis; rw [List.map_map]; rfl
theorem ivs_append (a b : List Int) : ivs (a ++ b) = ivs a ++ ivs b := List.map_append
theorem ivs_len (a : List Int) : (ivs a).length = a.length := List.length_map ..
theorem nis_len (a : List Nat) : (nis a).length = a.length := List.length_map ..
/-- what is answered -/
def outA (a : Sx62.Ans) : List Int := a.v :: a.l.flatMap fun l => (l.length : Int) :: nis l
section
variable {P : Program} {w : World} {K : PySem.W.Frag} {mg : Str → Option Value} {base : Heap} {A : Ad}
theorem sc_told : FnScope ["rows", "found", "row"] ["rows"] (defScope s_told) := ⟨rfl, rfl, rfl, by decide +kernel, rfl, by decide +kernel, by decide +kernel⟩
theorem sc_Holder_score : FnScope ["self"] ["self"] (defScope s_Holder_score) := ⟨rfl, rfl, rfl, by decide +kernel, rfl, by decide +kernel, by decide +kernel⟩
theorem sc_Holder_read : FnScope ["self", "text", "e"] ["self", "text"] (defScope s_Holder_read) := ⟨rfl, rfl, rfl, by decide +kernel, rfl, by decide +kernel, by decide +kernel⟩
theorem sc_Holder_form : FnScope ["self", "found"] ["self"] (defScope s_Holder_form) := ⟨rfl, rfl, rfl, by decide +kernel, rfl, by decide +kernel, by decide +kernel⟩
theorem sc_Holder_sounds : FnScope ["self", "voice", "score"] ["self", "voice"] (defScope s_Holder_sounds) := ⟨rfl, rfl, rfl, by decide +kernel, rfl, by decide +kernel, by decide +kernel⟩
theorem sc_Holder_bars_told : FnScope ["self", "begin", "length"] ["self"] (defScope s_Holder_bars_told) := ⟨rfl, rfl, rfl, by decide +kernel, rfl, by decide +kernel, by decide +kernel⟩
theorem sc_Holder_same : FnScope ["self", "text", "score", "other"] ["self", "text"] (defScope s_Holder_same) := ⟨rfl, rfl, rfl, by decide +kernel, rfl, by decide +kernel, by decide +kernel⟩
theorem sc_Holder_place_told : FnScope ["self", "upper", "lower", "score", "found"] ["self", "upper", "lower"] (defScope s_Holder_place_told) := ⟨rfl, rfl, rfl, by decide +kernel, rfl, by decide +kernel, by decide +kernel⟩
theorem sc_Holder_called : FnScope ["self", "call", "some", "text", "voice"] ["self", "call", "some", "text"] (defScope s_Holder_called) := ⟨rfl, rfl, rfl, by decide +kernel, rfl, by decide +kernel, by decide +kernel⟩
theorem sc_Holder_answer : FnScope ["self", "call", "some", "text", "found", "e"] ["self", "call", "some", "text"] (defScope s_Holder_answer) := ⟨rfl, rfl, rfl, by decide +kernel, rfl, by decide +kernel, by decide +kernel⟩
theorem sc_answers : FnScope ["calls", "holder", "found", "at", "call", "behind", "some", "text", "begin", "row"] ["calls"] (defScope s_answers) := ⟨rfl, rfl, rfl, by decide +kernel, rfl, by decide +kernel, by decide +kernel⟩
theorem refused_out {E : XK} {H : Hp} {c : Int} (hE : RaiseR A E [] H c) : [V.int c].length ≤ 1000 ∧ ∀ a, H a = none → sp_Refused_init K A (.ref a :: ([V.int c] ++ [])) (upd H a (exo a A.C_Refused none))
    (fun v H2 => v = .non ∧ ∃ (d : Addr) (fs : List (Str × V)), H2 a = some (exo a A.C_Refused (some d)) ∧ H2 d = some (exd d fs) ∧ H d = none ∧ E (.ref A.C_Refused) (some d) (upd (del H2 a) d (.xd fs))) (fun _ _ _ => False) := by
  refine ⟨by show 1 ≤ 1000; decide, fun q nq => ?_⟩
  refine ⟨_, _, rfl, q, rfl, upd_same, fun d H2 nd ne h1 h2 h3 => ⟨rfl, d, _, h1, h2, ?_, ?_⟩⟩
  · rw [upd_ne ne] at nd; exact nd
  · rw [upd_ne ne] at nd
    exact refused_end hE nq nd ne h3
theorem RaiseR.back {E : XK} {M M' : List Addr} {H H' : Hp} {c : Int} (h : RaiseR A E M H c) (s : SB M H H') (hm : ∀ b ∈ M', b ∈ M) : RaiseR A E M' H' c := fun d H2 s2 hd => h d H2 (s.trans (s2.mono hm)) hd
def sp_want (K : PySem.W.Frag) (A : Ad) : Sp := sp2 fun x y H Q E => ∃ (b : Bool) (c : Int), x = .bl b ∧ y = .int c ∧ (b = true → Q .non H) ∧ (b = false → RaiseR A E [] H c)
theorem ok_want (T : Txt K mg A) : FnOk P w K mg base (L2N.CX P w) 3 A.a_want A.d_want ["truth", "code"] (sp_want K A) := by
  have G_Refused_init := ok_Refused_init (P := P) (w := w) (base := base) T
  refine okN T.F_want sc_want (sp2_len) (fun cdv Ar outer s H vs Q E hr h tk => ?_)
  refine ⟨_, (pss_one (ps_if (pt_not (pt_val (pv 0))) (pss_one (L2N.ps_raise rfl tk (pmk_oexN T.X_Refused T.i_Refused T.t_Refused G_Refused_init (hr.mono (by decide)) T.b_Refused_init pass0 rfl T.g_Refused (pa_cons (pv 1) pa_nil)))) pss_nil)), ?_⟩
  obtain ⟨x, y, rfl, b, c, rfl, rfl, hq, hE⟩ := h
  refine ⟨_, rfl, b, rfl, ?_⟩
  cases b with
  | true => exact ite_f rfl (hq rfl)
  | false => exact ite_t rfl ⟨_, rfl, refused_out (hE rfl)⟩
def sp_told (K : PySem.W.Frag) (A : Ad) : Sp := sp1 fun x H Q _ => ∃ (l : Addr) (us : List V) (rows : List (List Nat)), x = .ref l ∧ H l = some (.lst us) ∧ Paired (RowA H) us rows ∧ cost rows ≤ 1000000 ∧ ∀ p H', H p = none → Same H H' → H' p = some (.lst (ivs (outA ⟨(rows.length : Int), rows⟩))) → Q (.ref p) H'
theorem outA_take (v : Int) (rows : List (List Nat)) (i : Nat) : (outA ⟨v, rows.take i⟩).length = 1 + cost (rows.take i) := by
  show ((rows.take i).flatMap fun l => (l.length : Int) :: nis l).length + 1 = _
  have : ∀ rs : List (List Nat), (rs.flatMap fun l => (l.length : Int) :: nis l).length = cost rs := fun rs => by
    induction rs with
    | nil => rfl
    | cons r rs ih => rw [List.flatMap_cons, List.length_append, ih, cost_cons, List.length_cons, nis_len]
  rw [this]; omega
theorem ok_told (T : Txt K mg A) : FnOk P w K mg base CX0 1 A.a_told A.d_told ["rows"] (sp_told K A) := by
  refine T.F_told.ok sc_told (sp1_len) (fun cdv Ar outer s H vs Q E hr h => ?_)
  refine ⟨_, (pss_cons (ps_set (i := 1) sc_told.nd rfl (Or.inl rfl) (pe_lst (pa_cons (pe_callB call_len_seq (by rfl) T.z_len PySem.boot_len (pa_cons (pv 0) pa_nil)) pa_nil)))
      (pss_cons (ps_for PassesOwn.never rfl (pi_list (pv 0)) (pg_name (i := 2) sc_told.nd rfl (Or.inl rfl)) (pss_one (ps_expr (pe_bm PySem.F.plainAttrs_list PySem.F.slot_list_extend PySem.F.type_list_extend mt_extend (pv 1) (pa_cons (pe_op op_cat (pe_lst (pa_cons (pe_callB call_len_seq (by rfl) T.z_len PySem.boot_len (pa_cons (pv 2) pa_nil)) pa_nil)) (pv 2)) pa_nil)))))
      (pss_one (ps_ret (pv 1))))), ?_⟩
  obtain ⟨x, rfl, l, us, rows, rfl, hl, hus, hc, hq⟩ := h
  have lus := Paired.length hus
  refine ⟨_, rfl, l, _, rfl, .inl (SqL.of hl), by show 1 ≤ sizeLine; decide, fun F nF => ?_⟩
  have sF := same_new (o := .lst [V.int (us.length : Int)]) nF
  refine ⟨_, rfl, l, rfl, ⟨_, SqL.of (sF _ _ hl)⟩, for_it (walk_list (K := K) (a := l) (xs := us)) (fun i σ H' => ∃ u, σ = [some (.ref l), some (.ref F), u] ∧ Same H H' ∧ H' F = some (.lst (ivs (outA ⟨(rows.length : Int), rows.take i⟩)))) ⟨none, rfl, sF, by rw [upd_same, lus]; rfl⟩ (fun i σ H' _ ⟨_, _, h, _⟩ => SqL.of (h _ _ hl)) ?_ ?_⟩
  · rintro i x σ H7 H8 hi ⟨u, rfl, s7, hF7⟩ ⟨rfl, hx⟩
    obtain ⟨r, hri, y, rfl, hy⟩ := paired_get hus hx
    have hy8 := s7 _ _ hy
    have hct := cost_take rows (i + 1)
    have hlen := outA_take (rows.length : Int) rows i
    rw [take_more hri, cost_append, cost_cons] at hct
    have c0 : cost ([] : List (List Nat)) = 0 := rfl
    refine ⟨_, rfl, .inl ⟨rfl, _, SqL.of hF7⟩, _, rfl, y, _, rfl, .inl (SqL.of hy8), by show 1 ≤ sizeLine; decide, fun b nb => ?_⟩
    have sb := same_new (o := .lst [V.int ((nvs r).length : Int)]) nb
    refine ⟨_, rfl, b, y, _, _, rfl, rfl, upd_same, sb _ _ hy8, by rw [nvs_len, sizeLine_eq]; simp only [List.length_cons, List.length_nil]; omega, fun g ng => ?_⟩
    have sg := same_new (o := .lst ([V.int ((nvs r).length : Int)] ++ nvs r)) ng
    refine ⟨F, g, _, _, rfl, rfl, (sb.trans sg) _ _ hF7, upd_same, by rw [ivs_len, hlen, List.length_append, nvs_len, sizeLine_eq]; simp only [List.length_cons, List.length_nil]; omega, ?_⟩
    refine ⟨_, rfl, fun b' o e => ?_, ?_⟩
    · rw [upd_ne (ne_of_none e nF)]; exact (sb.trans sg) _ _ (s7 _ _ e)
    · rw [upd_same, take_more hri]
      have e : outA ⟨(rows.length : Int), rows.take i ++ [r]⟩ = outA ⟨(rows.length : Int), rows.take i⟩ ++ ((r.length : Int) :: nis r) := by
        unfold outA
        rw [List.flatMap_append]
        simp
      rw [e, ivs_append, nvs_len, nvs_nis]
      rfl
  · rintro σ H7 ⟨u, rfl, s7, hF7⟩
    rw [lus, List.take_length] at hF7
    exact ⟨_, rfl, hq F H7 nF s7 hF7⟩
/-! ### the holder -/
structure HeldOk (s : Sx62.Score) : Prop where
  ok : ScoreOk 1501 s
  loose : ∀ v ∈ s.voices, Sx62.loose v.notes = none
def HoldA (K : PySem.W.Frag) (A : Ad) (M : List Addr) (H : Hp) (a : Addr) (st : Option Sx62.Score) : Prop := ∃ dx lh, H a = some (.ins A.C_Holder dx (F_Holder (.ref lh))) ∧ lh ∉ M ∧ (match st with
  | none => H lh = some (.lst [])
  | some s => ∃ u, H lh = some (.lst [u]) ∧ ScoreA K A (hid M H) u s ∧ HeldOk s)
theorem HoldA.same {M : List Addr} {H H' : Hp} {a : Addr} {st : Option Sx62.Score} (z : Same H H') (h : HoldA K A M H a st) : HoldA K A M H' a st := by
  obtain ⟨dx, lh, h1, h2, h3⟩ := h
  refine ⟨dx, lh, z _ _ h1, h2, ?_⟩
  cases st with
  | none => exact z _ _ h3
  | some s =>
    obtain ⟨u, e1, e2, e3⟩ := h3
    exact ⟨u, z _ _ e1, e2.mono (hid_same (SB.of z)), e3⟩
def sp_Holder_init (K : PySem.W.Frag) (A : Ad) : Sp := sp1 fun x H Q _ => ∃ a dx : Addr, x = .ref a ∧ H a = some (.ins A.C_Holder dx []) ∧ ∀ H' lh, H lh = none → H' lh = some (.lst []) → H' a = some (.ins A.C_Holder dx (F_Holder (.ref lh))) → (∀ b, b ≠ a → b ≠ lh → H' b = H b) → Q .non H'
theorem ok_Holder_init (T : Txt K mg A) : FnOk P w K mg base CX0 1 A.a_Holder_init A.d_Holder_init ["self"] (sp_Holder_init K A) := by
  refine T.F_Holder_init.ok sc_Holder_init (sp1_len) (fun cdv Ar outer s H vs Q E hr h => ?_)
  refine ⟨_, (pss_one (ps_fld (pv 0) (pe_lst pa_nil) rfl)), ?_⟩
  obtain ⟨x, rfl, a, dx, rfl, ha, hq⟩ := h
  refine ⟨by show 0 ≤ sizeLine; decide, fun l nl => ?_⟩
  have nla := ne_of_none ha nl
  refine ⟨_, rfl, a, _, dx, _, rfl, same_new nl _ _ ha, T.cl_Holder, T.n_Holder_held, by show 0 < 1000; decide, ?_⟩
  refine hq _ l nl (by rw [upd_ne (Ne.symm nla)]; exact upd_same) ?_ fun b h1 h2 => by rw [upd_ne h1, upd_ne h2]
  rw [upd_same]
  rfl
def sp_Holder_score (K : PySem.W.Frag) (A : Ad) : Sp := sp1 fun x H Q E => ∃ (a : Addr) (M : List Addr) (st : Option Sx62.Score), x = .ref a ∧ HoldA K A M H a st ∧ (st = none → RaiseR A E [] H (-1)) ∧ ∀ s, st = some s → ∀ u H', Same H H' → ScoreA K A H' u s → HeldOk s → Q u H'
theorem ok_Holder_score (T : Txt K mg A) : FnOk P w K mg base (L2N.CX P w) 4 A.a_Holder_score A.d_Holder_score ["self"] (sp_Holder_score K A) := by
  have G_want := ok_want (P := P) (w := w) (base := base) T
  refine okN T.F_Holder_score sc_Holder_score (sp1_len) (fun cdv Ar outer s H vs Q E hr h tk => ?_)
  refine ⟨_, (pss_cons (ps_expr (pe_call G_want (hr.mono (by decide)) rfl T.g_want T.F_want.kp T.b_want .nil (L2N.passes_call tk fun _ _ _ _ h => h) (pa_cons (pe_cmpR (op_neNil (hU hr)) (pe_fld (pv 0) rfl) (pe_lst pa_nil) (nomark _)) (pa_cons (pe_gI T.c_NO_SCORE) pa_nil))))
      (pss_one (ps_ret (pe_ix ix_list (pe_fld (pv 0) rfl) pe_int (fun _ _ => rfl))))), ?_⟩
  obtain ⟨x, rfl, a, M, st, rfl, ⟨dx, lh, ha, hM, hst⟩, hE, hq⟩ := h
  cases st with
  | none =>
    refine ⟨_, rfl, a, _, dx, _, _, rfl, ha, T.cl_Holder, T.n_Holder_held, l_Holder_held, by show 0 ≤ sizeLine; decide, fun b nb => ?_⟩
    refine ⟨lh, b, _, rfl, rfl, SqL.of (same_new nb _ _ hst), SqL.of upd_same, ?_⟩
    exact ⟨_, _, rfl, false, -1, rfl, rfl, (fun z => nomatch z), fun _ => (hE rfl).back (SB.of (same_new nb)) fun _ h => h⟩
  | some s =>
    obtain ⟨u, h1, h2, h3⟩ := hst
    refine ⟨_, rfl, a, _, dx, _, _, rfl, ha, T.cl_Holder, T.n_Holder_held, l_Holder_held, by show 0 ≤ sizeLine; decide, fun b nb => ?_⟩
    have sb := same_new (o := .lst []) nb
    refine ⟨lh, b, _, rfl, rfl, SqL.of (sb _ _ h1), SqL.of upd_same, ?_⟩
    refine ⟨_, _, rfl, true, -1, rfl, rfl, fun _ => ?_, fun z => nomatch z⟩
    refine ⟨_, rfl, a, _, dx, _, _, rfl, sb _ _ ha, T.cl_Holder, T.n_Holder_held, l_Holder_held, lh, _, 0, _, rfl, rfl, SqL.of (sb _ _ h1), at0 _ _, ?_⟩
    exact hq s rfl u _ sb ((h2.mono hid_sub).mono sb) h3
/-- a call that only looks -/
def LookR (K : PySem.W.Frag) (A : Ad) (H : Hp) (st : Option Sx62.Score) (f : Sx62.Score → Sx62.Ans) (Q : VK) (E : XK) : Prop := (st = none → RaiseR A E [] H (-1)) ∧ ∀ s, st = some s →
  (∀ c, f s = Sx62.ok c → c < 0 → RaiseR A E [] H c) ∧ (0 ≤ (f s).v → ∀ p H', H p = none → Same H H' → H' p = some (.lst (ivs (outA (f s)))) → Q (.ref p) H')
def sp_Holder_form (K : PySem.W.Frag) (A : Ad) : Sp := sp1 fun x H Q E => ∃ (a : Addr) (M : List Addr) (st : Option Sx62.Score), x = .ref a ∧ HoldA K A M H a st ∧ LookR K A H st (fun x => ⟨Sx62.num x.form.length, [x.form]⟩) Q E
theorem ok_Holder_form (T : Txt K mg A) : FnOk P w K mg base (L2N.CX P w) 5 A.a_Holder_form A.d_Holder_form ["self"] (sp_Holder_form K A) := by
  have G_Holder_score := ok_Holder_score (P := P) (w := w) (base := base) T
  have G_form_of := ok_form_of (P := P) (w := w) (base := base) T
  refine okN T.F_Holder_form sc_Holder_form (sp1_len) (fun cdv Ar outer s H vs Q E hr h tk => ?_)
  refine ⟨_, (pss_cons (ps_set (i := 1) sc_Holder_form.nd rfl (Or.inl rfl) (pe_call G_form_of (hr.mono (by decide)) rfl T.g_form_of T.F_form_of.kp T.b_form_of .nil pass0 (pa_cons (pe_meth0 (pv 0) T.cl_Holder T.m_Holder_score G_Holder_score (hr.mono (by decide)) T.b_Holder_score .nil (L2N.passes_call tk fun _ _ _ _ h => h)) pa_nil)))
      (pss_one (ps_ret (pe_op op_cat (pe_lst (pa_cons (pe_callB call_len_seq (by rfl) T.z_len PySem.boot_len (pa_cons (pv 1) pa_nil)) (pa_cons (pe_callB call_len_seq (by rfl) T.z_len PySem.boot_len (pa_cons (pv 1) pa_nil)) pa_nil))) (pv 1))))), ?_⟩
  obtain ⟨x, rfl, a, M, st, rfl, hH, hE, hq⟩ := h
  have hH' := hH
  obtain ⟨dx, lh, ha, _⟩ := hH'
  refine ⟨_, rfl, a, dx, _, rfl, ha, l_Holder_score, _, rfl, a, M, st, rfl, hH, hE, fun s hs u H1 s1 hS hok => ?_⟩
  obtain ⟨_, hq⟩ := hq s hs
  refine ⟨_, rfl, s, hS, hok.ok, fun p H2 np s2 hp => ?_⟩
  have hfl := form_len hok.ok
  refine ⟨_, rfl, p, _, rfl, .inl (SqL.of hp), _, rfl, p, _, rfl, .inl (SqL.of hp), by show 2 ≤ sizeLine; decide, fun b nb => ?_⟩
  have sb := same_new (o := .lst [V.int ((nvs s.form).length : Int), V.int ((nvs s.form).length : Int)]) nb
  refine ⟨_, rfl, b, p, _, _, rfl, rfl, upd_same, sb _ _ hp, by rw [nvs_len, sizeLine_eq]; simp only [List.length_cons, List.length_nil]; omega, fun r nr => ?_⟩
  have s12 := (s1.trans s2).trans sb
  refine hq (Int.natCast_nonneg _) r _ (s12.free nr) (s12.trans (same_new nr)) ?_
  rw [upd_same, nvs_len, nvs_nis]
  show some (HO.lst _) = some (HO.lst (ivs ((Sx62.num s.form.length) :: [s.form].flatMap fun l => (l.length : Int) :: nis l)))
  simp [ivs, Sx62.num]
end
end Sc

set_option Elab.async false
set_option linter.all false
set_option maxRecDepth 100000
set_option maxHeartbeats 4000000
/-! # a holder's further calls -/
namespace Sc
open PySem PySem.Spec PyProof.Rows L2 Pf Zq
open Sx62 (Frac Pitch Word Timed Piece)
theorem pg_tupK {X : Cx} {K : PySem.W.Frag} {es : List Expr} {k : Nat} {pos : Pos} {n : Nat} {t : TGs} (ek : X.K = K) (hc : X.calm = true) (h : PGs X es t) (hn : (assignEach es X.env).length = n := by rfl) (hst : (assignEach es X.env).findIdx? (·.1) = none := by rfl) : PG X (.Tuple es k pos) (gTup K n t) := by
  subst ek; exact pg_tup hc h hn hst
section
variable {P : Program} {w : World} {K : PySem.W.Frag} {mg : Str → Option Value} {base : Heap} {A : Ad}
theorem LookR.at {H H' : Hp} {st : Option Sx62.Score} {f : Sx62.Score → Sx62.Ans} {Q : VK} {E : XK} (h : LookR K A H st f Q E) {s : Sx62.Score} (hs : st = some s) (z : Same H H') :
    (∀ c, f s = Sx62.ok c → c < 0 → RaiseR A E [] H' c) ∧ (0 ≤ (f s).v → ∀ p H2, H' p = none → Same H' H2 → H2 p = some (.lst (ivs (outA (f s)))) → Q (.ref p) H2) := by
  obtain ⟨h1, h2⟩ := h.2 s hs
  exact ⟨fun c e hc => (h1 c e hc).back (SB.of z) fun _ h => h, fun hv p H2 np s2 hp => h2 hv p H2 (z.free np) (z.trans s2) hp⟩
def soundsAns (v : Nat) (x : Sx62.Score) : Sx62.Ans := match x.voices[v]? with
  | none => Sx62.ok (-2)
  | some y => ⟨Sx62.num y.sounds.length, y.sounds.map Sx62.soundOut⟩
def sp_Holder_sounds (K : PySem.W.Frag) (A : Ad) : Sp := sp2 fun x y H Q E => ∃ (a : Addr) (M : List Addr) (st : Option Sx62.Score) (v : Nat), x = .ref a ∧ y = .int (v : Int) ∧ HoldA K A M H a st ∧ LookR K A H st (soundsAns v) Q E
theorem ok_Holder_sounds (T : Txt K mg A) : FnOk P w K mg base (L2N.CX P w) 6 A.a_Holder_sounds A.d_Holder_sounds ["self", "voice"] (sp_Holder_sounds K A) := by
  have G_Holder_score := ok_Holder_score (P := P) (w := w) (base := base) T
  have G_sounds_of := ok_sounds_of (P := P) (w := w) (base := base) T
  have G_told := ok_told (P := P) (w := w) (base := base) T
  have G_want := ok_want (P := P) (w := w) (base := base) T
  refine okN T.F_Holder_sounds sc_Holder_sounds (sp2_len) (fun cdv Ar outer s H vs Q E hr h tk => ?_)
  refine ⟨_, (pss_cons (ps_set (i := 2) sc_Holder_sounds.nd rfl (Or.inl rfl) (pe_meth0 (pv 0) T.cl_Holder T.m_Holder_score G_Holder_score (hr.mono (by decide)) T.b_Holder_score .nil (L2N.passes_call tk fun _ _ _ _ h => h)))
      (pss_cons (ps_expr (pe_call G_want (hr.mono (by decide)) rfl T.g_want T.F_want.kp T.b_want .nil (L2N.passes_call tk fun _ _ _ _ h => h) (pa_cons (pe_cmpR op_lt (pv 1) (pe_callB call_len_seq (by rfl) T.z_len PySem.boot_len (pa_cons (pe_fld (pv 2) rfl) pa_nil)) (nomark _)) (pa_cons (pe_gI T.c_BAD_NUMBER) pa_nil))))
      (pss_one (ps_ret (pe_call G_told (hr.mono (by decide)) rfl T.g_told T.F_told.kp T.b_told .nil pass0 (pa_cons (pe_call G_sounds_of (hr.mono (by decide)) rfl T.g_sounds_of T.F_sounds_of.kp T.b_sounds_of .nil pass0 (pa_cons (pe_ix ix_list (pe_fld (pv 2) rfl) (pv 1) (fun _ _ => rfl)) pa_nil)) pa_nil)))))), ?_⟩
  obtain ⟨x, y, rfl, a, M, st, v, rfl, rfl, hH, hL⟩ := h
  have hH' := hH
  obtain ⟨dx, lh, ha, _⟩ := hH'
  refine ⟨_, rfl, a, dx, _, rfl, ha, l_Holder_score, _, rfl, a, M, st, rfl, hH, hL.1, fun s hs u H1 s1 hS hok => ?_⟩
  obtain ⟨hE, hq⟩ := hL.at hs s1
  obtain ⟨q, dq, f, lv, vs, rfl, hq1, hf, hq2, hvs⟩ := hS
  have lvs := Paired.length hvs
  refine ⟨_, rfl, _, rfl, q, _, dq, _, _, rfl, hq1, T.cl_Score, T.n_Score_voices, l_Score_voices, lv, _, rfl, .inl (SqL.of hq2), _, _, rfl, rfl, ?_⟩
  refine ⟨_, _, rfl, decide (v < s.voices.length), -2, ?_, rfl, fun hb => ?_, fun hb => ?_⟩
  · rw [lvs]
    show V.bl (decide ((v : Int) < (s.voices.length : Int))) = _
    congr 1
    rw [Bool.eq_iff_iff, decide_eq_true_eq, decide_eq_true_eq]; omega
  · have hv : v < s.voices.length := of_decide_eq_true hb
    have hx : vs[v]? = some (vs[v]'(by omega)) := List.getElem?_eq_getElem _
    generalize vs[v]'(by omega) = y0 at hx
    obtain ⟨vv, hvv, hV⟩ := paired_get hvs hx
    have hm := List.mem_of_getElem? hvv
    have ef : soundsAns v s = ⟨Sx62.num vv.sounds.length, vv.sounds.map Sx62.soundOut⟩ := by unfold soundsAns; rw [hvv]
    rw [ef] at hq
    refine ⟨_, rfl, q, _, dq, _, _, rfl, hq1, T.cl_Score, T.n_Score_voices, l_Score_voices, _, rfl, lv, _, _, _, rfl, rfl, SqL.of hq2, atI_nat hx, ?_⟩
    refine ⟨_, rfl, vv, hV, hok.ok.voices vv hm, hok.ok.vsize hm, hok.loose vv hm, fun r H2 us nr s2 hr hus hl => ?_⟩
    refine ⟨_, rfl, r, us, _, rfl, hr, hus, ?_, fun p H3 np s3 hp => ?_⟩
    · have : ∀ ss : List Sx62.Sound, cost (ss.map Sx62.soundOut) = 8 * ss.length := fun ss => by
        induction ss with
        | nil => rfl
        | cons z ss ih =>
          rw [List.map_cons, cost_cons, ih, List.length_cons]
          show 7 + 1 + _ = _
          omega
      rw [this]; omega
    · rw [List.length_map] at hp
      exact hq (Int.natCast_nonneg _) p H3 (s2.free np) (s2.trans s3) hp
  · have hv : ¬ v < s.voices.length := of_decide_eq_false hb
    refine hE (-2) ?_ (by decide)
    unfold soundsAns
    rw [List.getElem?_eq_none (by omega)]
def barsAns (x : Sx62.Score) : Sx62.Ans := ⟨Sx62.num x.starts.length, x.starts.map fun y => [y.1.num, y.1.den, y.2.num, y.2.den]⟩
def sp_Holder_bars_told (K : PySem.W.Frag) (A : Ad) : Sp := sp1 fun x H Q E => ∃ (a : Addr) (M : List Addr) (st : Option Sx62.Score), x = .ref a ∧ HoldA K A M H a st ∧ LookR K A H st barsAns Q E
theorem starts_few {s : Sx62.Score} (h : ScoreOk 1501 s) : s.starts.length ≤ 1501 := by
  unfold Sx62.Score.starts
  rw [starts_len]
  cases e : s.voices with
  | nil => exact Nat.zero_le _
  | cons v l =>
    show v.bars.length ≤ 1501
    have := bars_le v.bars
    have := h.vsize (v := v) (by rw [e]; exact List.mem_cons_self)
    omega
theorem ok_Holder_bars_told (T : Txt K mg A) : FnOk P w K mg base (L2N.CX P w) 7 A.a_Holder_bars_told A.d_Holder_bars_told ["self"] (sp_Holder_bars_told K A) := by
  have G_Holder_score := ok_Holder_score (P := P) (w := w) (base := base) T
  have G_bars_of := ok_bars_of (P := P) (w := w) (base := base) T
  have G_told := ok_told (P := P) (w := w) (base := base) T
  refine okN T.F_Holder_bars_told sc_Holder_bars_told (sp1_len) (fun cdv Ar outer s H vs Q E hr h tk => ?_)
  refine ⟨_, (pss_one (ps_ret (pe_call G_told (hr.mono (by decide)) rfl T.g_told T.F_told.kp T.b_told .nil pass0 (pa_cons (pe_lc (own := [("begin", 1), ("length", 2)]) (tt := tYes) rfl sc_Holder_bars_told.nd (pi_list (pe_call G_bars_of (hr.mono (by decide)) rfl T.g_bars_of T.F_bars_of.kp T.b_bars_of .nil pass0 (pa_cons (pe_meth0 (pv 0) T.cl_Holder T.m_Holder_score G_Holder_score (hr.mono (by decide)) T.b_Holder_score .nil (L2N.passes_call tk fun _ _ _ _ h => h)) pa_nil))) (blkOk_by (N := ["self", "begin", "length"]) (sc := defScope s_Holder_bars_told) (by decide +kernel)) (fun _ _ _ _ _ => (pg_tupK (K := K) (n := 2) (by rfl) rfl (pgs_cons (pg_name (i := 1) sc_Holder_bars_told.nd rfl (Or.inl rfl)) (pgs_cons (pg_name (i := 2) sc_Holder_bars_told.nd rfl (Or.inl rfl)) pgs_nil)))) (fun _ _ _ _ _ => pts_nil) (fun _ _ _ _ _ => (pe_op op_cat (pe_callTy (call_list_ofK (K := K) (by rfl)) (by rfl) T.z_list (by decide +kernel) (pa_cons (pv 1) pa_nil)) (pe_callTy (call_list_ofK (K := K) (by rfl)) (by rfl) T.z_list (by decide +kernel) (pa_cons (pv 2) pa_nil))))) pa_nil)))), ?_⟩
  obtain ⟨x, rfl, a, M, st, rfl, hH, hL⟩ := h
  have hH' := hH
  obtain ⟨dx, lh, ha, _⟩ := hH'
  refine ⟨_, rfl, a, dx, _, rfl, ha, l_Holder_score, _, rfl, a, M, st, rfl, hH, hL.1, fun s hs u H1 s1 hS hok => ?_⟩
  obtain ⟨hE, hq⟩ := hL.at hs s1
  have hst := starts_few hok.ok
  refine ⟨_, rfl, s, hS, hok.ok, fun b H2 us nb s2 hb hus => ?_⟩
  have lus := Paired.length hus
  refine ⟨b, rfl, ⟨_, SqL.of hb⟩, fun D nD => lc_it (walk_list (K := K) (a := b) (xs := us)) (fun i H' => ∃ gs, H' D = some (.lst gs) ∧ Paired (RowA (hid [D] H')) gs ((s.starts.take i).map fun y => [y.1.num, y.1.den, y.2.num, y.2.den]) ∧ Same H2 H') ⟨[], upd_same, .nil, same_new nD⟩ (fun i H' _ ⟨_, _, _, h⟩ => SqL.of (h _ _ hb)) ?_ ?_⟩
  · rintro i x H7 H8 hi ⟨gs, h1, hgs, s7⟩ ⟨rfl, hx⟩
    obtain ⟨z, hzi, t, y1, y2, rfl, ht, hy1, hy2⟩ := paired_get hus hx
    have lgs := Paired.length hgs
    rw [List.length_map, List.length_take] at lgs
    obtain ⟨f1, rfl, hf1⟩ := hy1.mono s7
    obtain ⟨f2, rfl, hf2⟩ := hy2.mono s7
    refine ⟨t, _, rfl, SqT.of (s7 _ _ ht), rfl, _, _, rfl, _, _, rfl, rfl, rfl, ?_⟩
    refine ⟨_, rfl, f1, _, rfl, .inr hf1, fun r1 nr1 => ?_⟩
    have z1 := same_new (o := .lst [.int (z.1.num : Int), .int (z.1.den : Int)]) nr1
    refine ⟨_, rfl, f2, _, rfl, .inr (sameT z1 hf2), fun r2 nr2 => ?_⟩
    have z2 := same_new (o := .lst [.int (z.2.num : Int), .int (z.2.den : Int)]) nr2
    refine ⟨r1, r2, _, _, rfl, rfl, z2 _ _ upd_same, upd_same, by show 2 + 2 ≤ sizeLine; decide, fun r3 nr3 => ?_⟩
    have z3 := same_new (o := .lst ([V.int (z.1.num : Int), .int (z.1.den : Int)] ++ [.int (z.2.num : Int), .int (z.2.den : Int)])) nr3
    have zall := (z1.trans z2).trans z3
    have hD := zall _ _ h1
    have nD3 : r3 ≠ D := fun e => by
      have := (z1.trans z2) _ _ h1
      rw [← e, nr3] at this; cases this
    have hr3 := upd_same (H := upd (upd H8 r1 (.lst [.int (z.1.num : Int), .int (z.1.den : Int)])) r2 (.lst [.int (z.2.num : Int), .int (z.2.den : Int)])) (a := r3) (o := .lst ([V.int (z.1.num : Int), .int (z.1.den : Int)] ++ [.int (z.2.num : Int), .int (z.2.den : Int)]))
    have hgs3 : Paired (RowA (hid [D] _)) gs _ := pairedMono (fun _ _ h => h.mono (hid_same (SB.of zall))) hgs
    have s3 := s7.trans zall
    generalize upd (upd (upd H8 r1 (.lst [.int (z.1.num : Int), .int (z.1.den : Int)])) r2 (.lst [.int (z.2.num : Int), .int (z.2.den : Int)])) r3 (.lst ([V.int (z.1.num : Int), .int (z.1.den : Int)] ++ [.int (z.2.num : Int), .int (z.2.den : Int)])) = H9 at hD hr3 hgs3 s3 ⊢
    have su : SB [D] H9 (upd H9 D (.lst (gs ++ [V.ref r3]))) := SB.upd hD trivial trivial (by simp)
    refine ⟨gs, hD, by rw [lgs, sizeLine_eq]; omega, _, upd_same, ?_, fun b' o e => ?_⟩
    · rw [take_more hzi, List.map_append]
      refine pairedApp (pairedMono (fun _ _ h => h.mono (hid_same su)) hgs3) (.cons ⟨r3, rfl, ?_⟩ .nil)
      rw [hid_out (by simpa using nD3), upd_ne nD3, hr3]
      rfl
    · rw [upd_ne (ne_of_none e nD)]; exact s3 _ _ e
  · rintro H7 ⟨gs, h1, hgs, s7⟩
    rw [lus, List.take_length] at hgs
    refine ⟨_, rfl, D, gs, _, rfl, h1, pairedMono (fun _ _ h => h.mono hid_sub) hgs, ?_, fun p H3 np s3 hp => ?_⟩
    · have : ∀ ss : List (Frac × Frac), cost (ss.map fun y => [y.1.num, y.1.den, y.2.num, y.2.den]) = 5 * ss.length := fun ss => by
        induction ss with
        | nil => rfl
        | cons z ss ih =>
          rw [List.map_cons, cost_cons, ih]
          simp only [List.length_cons, List.length_nil]
          omega
      rw [this]; omega
    · rw [List.length_map] at hp
      have s27 := s2.trans s7
      exact hq (Int.natCast_nonneg _) p H3 (s27.free np) (s27.trans s3) hp
def placeAns (n d : Nat) (x : Sx62.Score) : Sx62.Ans := if d = 0 ∨ Sx62.FAR < d ∨ Sx62.FAR < n then Sx62.ok (-2) else match Sx62.whereFrom (Sx62.lowest n d) 0 x.starts with
  | none => Sx62.ok (-4)
  | some y => ⟨Sx62.num y.1, [[y.2.num, y.2.den]]⟩
def sp_Holder_place_told (K : PySem.W.Frag) (A : Ad) : Sp := sp3 fun x y z H Q E => ∃ (a : Addr) (M : List Addr) (st : Option Sx62.Score) (n d : Nat), x = .ref a ∧ y = .int (n : Int) ∧ z = .int (d : Int) ∧ HoldA K A M H a st ∧ LookR K A H st (placeAns n d) Q E
theorem ok_Holder_place_told (T : Txt K mg A) : FnOk P w K mg base (L2N.CX P w) 8 A.a_Holder_place_told A.d_Holder_place_told ["self", "upper", "lower"] (sp_Holder_place_told K A) := by
  have G_Holder_score := ok_Holder_score (P := P) (w := w) (base := base) T
  have G_lowest := ok_lowest (P := P) (w := w) (base := base) T
  have G_place_of := ok_place_of (P := P) (w := w) (base := base) T
  have G_want := ok_want (P := P) (w := w) (base := base) T
  refine okN T.F_Holder_place_told sc_Holder_place_told (sp3_len) (fun cdv Ar outer s H vs Q E hr h tk => ?_)
  refine ⟨_, (pss_cons (ps_set (i := 3) sc_Holder_place_told.nd rfl (Or.inl rfl) (pe_meth0 (pv 0) T.cl_Holder T.m_Holder_score G_Holder_score (hr.mono (by decide)) T.b_Holder_score .nil (L2N.passes_call tk fun _ _ _ _ h => h)))
      (pss_cons (ps_expr (pe_call G_want (hr.mono (by decide)) rfl T.g_want T.F_want.kp T.b_want .nil (L2N.passes_call tk fun _ _ _ _ h => h) (pa_cons (pe_and (pe_cmpR op_lt pe_int (pv 2) (nomark _)) (pe_and (pe_cmpR op_le (pv 2) (pe_gI T.c_MOST_NUMBER) (nomark _)) (pe_one (pe_cmpR op_le (pv 1) (pe_gI T.c_MOST_NUMBER) (nomark _))))) (pa_cons (pe_gI T.c_BAD_NUMBER) pa_nil))))
      (pss_cons (ps_set (i := 4) sc_Holder_place_told.nd rfl (Or.inl rfl) (pe_call G_place_of (hr.mono (by decide)) rfl T.g_place_of T.F_place_of.kp T.b_place_of .nil pass0 (pa_cons (pv 3) (pa_cons (pe_call G_lowest (hr.mono (by decide)) rfl T.g_lowest T.F_lowest.kp T.b_lowest .nil pass0 (pa_cons (pv 1) (pa_cons (pv 2) pa_nil))) pa_nil))))
      (pss_cons (ps_expr (pe_call G_want (hr.mono (by decide)) rfl T.g_want T.F_want.kp T.b_want .nil (L2N.passes_call tk fun _ _ _ _ h => h) (pa_cons (pe_cmpR op_notN (pv 4) pe_non (nomark _)) (pa_cons (pe_gI T.c_TOO_LATE) pa_nil))))
      (pss_one (ps_ret (pe_op op_cat (pe_lst (pa_cons (pe_ix ix_tup (pv 4) pe_int (fun _ _ => rfl)) (pa_cons pe_int pa_nil))) (pe_callTy call_list_of (by rfl) T.z_list (by decide +kernel) (pa_cons (pe_ix ix_tup (pv 4) pe_int (fun _ _ => rfl)) pa_nil))))))))), ?_⟩
  obtain ⟨x, y, z, rfl, a, M, st, n, d, rfl, rfl, rfl, hH, hL⟩ := h
  have hH' := hH
  obtain ⟨dx, lh, ha, _⟩ := hH'
  refine ⟨_, rfl, a, dx, _, rfl, ha, l_Holder_score, _, rfl, a, M, st, rfl, hH, hL.1, fun s hs u H1 s1 hS hok => ?_⟩
  obtain ⟨hE, hq⟩ := hL.at hs s1
  have hFAR : Sx62.FAR = 1000000 := rfl
  by_cases hbad : d = 0 ∨ Sx62.FAR < d ∨ Sx62.FAR < n
  · have e2 : placeAns n d s = Sx62.ok (-2) := by unfold placeAns; rw [if_pos hbad]
    have hno : ∀ b : Bool, b = false → sp_want K A [.bl b, .int (-2)] H1 (fun x H' => True) E → True := fun _ _ _ => trivial
    have out : sp_want K A [.bl false, .int (-2)] H1 (fun _ _ => False) E := ⟨_, _, rfl, false, -2, rfl, rfl, (fun z => nomatch z), fun _ => hE (-2) e2 (by decide)⟩
    by_cases h0 : d = 0
    · subst h0
      refine ⟨_, rfl, _, _, rfl, rfl, false, rfl, ?_⟩
      exact ⟨_, _, rfl, false, -2, rfl, rfl, (fun z => nomatch z), fun _ => hE (-2) e2 (by decide)⟩
    · refine ⟨_, rfl, _, _, rfl, rfl, true, by show V.bl (decide ((0 : Int) < (d : Int))) = _; congr 1; rw [decide_eq_true_eq]; omega, ?_⟩
      by_cases h1 : Sx62.FAR < d
      · refine ⟨_, rfl, _, _, rfl, rfl, false, by show V.bl (decide ((d : Int) ≤ 1000000)) = _; congr 1; rw [decide_eq_false_iff_not]; omega, ?_⟩
        exact ⟨_, _, rfl, false, -2, rfl, rfl, (fun z => nomatch z), fun _ => hE (-2) e2 (by decide)⟩
      · refine ⟨_, rfl, _, _, rfl, rfl, true, by show V.bl (decide ((d : Int) ≤ 1000000)) = _; congr 1; rw [decide_eq_true_eq]; omega, ?_⟩
        have h2 : Sx62.FAR < n := by rcases hbad with h | h | h; exact absurd h h0; exact absurd h h1; exact h
        refine ⟨_, rfl, _, _, rfl, rfl, ?_⟩
        exact ⟨_, _, rfl, false, -2, by show V.bl (decide ((n : Int) ≤ 1000000)) = _; congr 1; rw [decide_eq_false_iff_not]; omega, rfl, (fun z => nomatch z), fun _ => hE (-2) e2 (by decide)⟩
  · have hd0 : 0 < d := Nat.pos_of_ne_zero fun z => hbad (.inl z)
    have hd1 : d ≤ 1000000 := Nat.le_of_not_lt fun z => hbad (.inr (.inl z))
    have hn1 : n ≤ 1000000 := Nat.le_of_not_lt fun z => hbad (.inr (.inr z))
    have ep : placeAns n d s = match Sx62.whereFrom (Sx62.lowest n d) 0 s.starts with
        | none => Sx62.ok (-4)
        | some y => ⟨Sx62.num y.1, [[y.2.num, y.2.den]]⟩ := by unfold placeAns; rw [if_neg hbad]
    refine ⟨_, rfl, _, _, rfl, rfl, true, by show V.bl (decide ((0 : Int) < (d : Int))) = _; congr 1; rw [decide_eq_true_eq]; omega, ?_⟩
    refine ⟨_, rfl, _, _, rfl, rfl, true, by show V.bl (decide ((d : Int) ≤ 1000000)) = _; congr 1; rw [decide_eq_true_eq]; omega, ?_⟩
    refine ⟨_, rfl, _, _, rfl, rfl, ?_⟩
    refine ⟨_, _, rfl, true, -2, by show V.bl (decide ((n : Int) ≤ 1000000)) = _; congr 1; rw [decide_eq_true_eq]; omega, rfl, fun _ => ?_, fun z => nomatch z⟩
    have sm : Sm (Sx62.lowest n d) := by
      have h1 : (Sx62.lowest n d).den ≤ d := Nat.le_of_dvd hd0 (lowest_den_dvd _ _)
      have h2 : (Sx62.lowest n d).num ≤ n := by rw [lowest_num]; exact Nat.div_le_self _ _
      exact ⟨lowest_den_pos hd0, by omega, by omega⟩
    refine ⟨_, rfl, _, rfl, _, rfl, _, _, rfl, n, d, rfl, rfl, hd0, Nat.lt_of_le_of_lt hd1 (by decide), fun t H2 s2 ht => ?_⟩
    refine ⟨_, _, rfl, s, _, hS.mono s2, hok.ok, ht, sm, ?_⟩
    cases hw : Sx62.whereFrom (Sx62.lowest n d) 0 s.starts with
    | none =>
      rw [hw] at ep
      intro H3 s3
      refine ⟨_, rfl, rfl, ?_⟩
      exact ⟨_, _, rfl, false, -4, rfl, rfl, (fun z => nomatch z), fun _ => (hE (-4) ep (by decide)).back (SB.of (s2.trans s3)) fun _ h => h⟩
    | some yy =>
      rw [hw] at ep
      simp only at ep
      rw [ep] at hq
      intro pa uf H3 s3 hpa huf
      obtain ⟨fa, rfl, hfa⟩ := huf
      refine ⟨_, rfl, rfl, ?_⟩
      refine ⟨_, _, rfl, true, -4, rfl, rfl, fun _ => ?_, fun z => nomatch z⟩
      refine ⟨_, rfl, pa, _, 0, _, rfl, rfl, SqT.of hpa, at0 _ _, by show 2 ≤ sizeLine; decide, fun b nb => ?_⟩
      have sb := same_new (o := .lst [V.int (yy.1 : Int), .int 2]) nb
      refine ⟨_, rfl, pa, _, 1, _, rfl, rfl, SqT.of (sb _ _ hpa), at1 _ _ _, fa, _, rfl, .inr (sameT sb hfa), fun c nc => ?_⟩
      have sc := same_new (o := .lst [V.int (yy.2.num : Int), .int (yy.2.den : Int)]) nc
      refine ⟨b, c, _, _, rfl, rfl, sc _ _ upd_same, upd_same, by show 2 + 2 ≤ sizeLine; decide, fun r nr => ?_⟩
      have sall := ((s2.trans s3).trans sb).trans sc
      exact hq (Int.natCast_nonneg _) r _ (sall.free nr) (sall.trans (same_new nr)) upd_same
end
end Sc

set_option Elab.async false
set_option linter.all false
set_option maxRecDepth 100000
set_option maxHeartbeats 4000000
/-! # a holder's read -/
namespace Sc
open PySem PySem.Spec PyProof.Rows L2 Pf Zq
open Sx62 (Frac Pitch Word Timed Piece)
section
variable {P : Program} {w : World} {K : PySem.W.Frag} {mg : Str → Option Value} {base : Heap} {A : Ad}
def readTs (A : Ad) (a : Addr) (cls : Value) (d : Option Addr) : TS := tRet (tLst (tCons (tXf a cls d A.C_Faulty (Str.ofString "kind") (tVar 2)) (tCons (tC (.int 1)) (tCons (tXf a cls d A.C_Faulty (Str.ofString "place") (tVar 2)) tNil))))
/-- a read: the state behind it and what is answered -/
def ReadR (K : PySem.W.Frag) (A : Ad) (M : List Addr) (H : Hp) (a : Addr) (st : Option Sx62.Score) (bs : List Nat) (Q : VK) (E : XK) : Prop :=
  (1500 < bs.length → RaiseR A E [] H (-8)) ∧ (bs.length ≤ 1500 → (∀ x, Sx62.read bs = .error x → ∀ p H', H p = none → Same H H' → H' p = some (.lst (ivs [(x.kind : Int), 1, (x.place : Int)])) → Q (.ref p) H') ∧
    ∀ s, Sx62.read bs = .ok s → ∀ p H', H p = none → SB [a] H H' → HoldA K A M H' a (some s) → H' p = some (.lst (ivs [0])) → Q (.ref p) H')
def sp_Holder_read (K : PySem.W.Frag) (A : Ad) : Sp := sp2 fun x y H Q E => ∃ (a : Addr) (M : List Addr) (st : Option Sx62.Score) (l : Addr) (bs : List Nat), x = .ref a ∧ y = .ref l ∧ HoldA K A M H a st ∧ a ∈ M ∧ MOk M H ∧ H l = some (.lst (nvs bs)) ∧ ReadR K A M H a st bs Q E
theorem ok_Holder_read (T : Txt K mg A) : FnOk P w K mg base (L2N.CX P w) 11 A.a_Holder_read A.d_Holder_read ["self", "text"] (sp_Holder_read K A) := by
  have G_read_score := ok_read_score (P := P) (w := w) (base := base) T
  have G_want := ok_want (P := P) (w := w) (base := base) T
  refine okN T.F_Holder_read sc_Holder_read (sp2_len) (fun cdv Ar outer s H vs Q E hr h tk => ?_)
  refine ⟨_, (pss_cons (ps_expr (pe_call G_want (hr.mono (by decide)) rfl T.g_want T.F_want.kp T.b_want .nil (L2N.passes_call tk fun _ _ _ _ h => h) (pa_cons (pe_cmpR op_le (pe_callB call_len_seq (by rfl) T.z_len PySem.boot_len (pa_cons (pv 1) pa_nil)) (pe_gI T.c_MOST_TEXT) (nomark _)) (pa_cons (pe_gI T.c_TOO_LONG) pa_nil))))
      (pss_cons (L2N.ps_try_as (i := 2) (tb := fun W => sFld K (tVar 0) (tLst (tCons (tCallS (sp_read_score K A) (WE W) (tCons (tVar 1) tNil)) tNil)) (Str.ofString "held")) (ts := readTs A) (Wout := fun cls d _ H' => E cls d H') rfl rfl sc_Holder_read.nd rfl rfl ⟨rfl, by decide, Or.inl T.g_Faulty⟩ tk (fun W pn xe tkW _ => pss_one (by exact (ps_fld (pv 0) (pe_lst (pa_cons (by exact (pe_callS G_read_score (hr.mono (by decide)) rfl T.g_read_score T.F_read_score.kp T.b_read_score (fun σ => L2N.passAt tkW σ) (by exact (pa_cons (pv 1) pa_nil)))) pa_nil)) rfl))) (fun a oe cls d pn hz hf => pss_one (by exact (ps_ret (pe_lst (pa_cons (by exact (pe_xf T.V_Faulty T.n_Faulty_kind hz.zc hf (pv 2))) (pa_cons pe_int (pa_cons (by exact (pe_xf T.V_Faulty T.n_Faulty_place hz.zc hf (pv 2))) pa_nil))))))))
      (pss_one (ps_ret (pe_lst (pa_cons pe_int pa_nil)))))), ?_⟩
  obtain ⟨x, y, rfl, a, M, st, l, bs, rfl, rfl, hH, haM, hM, hl, hE, hq⟩ := h
  have hH' := hH
  obtain ⟨dx, lh, ha, hlM, _⟩ := hH'
  refine ⟨_, rfl, l, _, rfl, .inl (SqL.of hl), _, _, rfl, rfl, ?_⟩
  rw [nvs_len]
  refine ⟨_, _, rfl, decide (bs.length ≤ 1500), -8, ?_, rfl, fun hb => ?_, fun hb => ?_⟩
  · show V.bl (decide ((bs.length : Int) ≤ 1500)) = _
    congr 1
    rw [Bool.eq_iff_iff, decide_eq_true_eq, decide_eq_true_eq]; omega
  rotate_left
  · exact hE (by have := of_decide_eq_false hb; omega)
  have hlen : bs.length ≤ 1500 := of_decide_eq_true hb
  obtain ⟨hq1, hq2⟩ := hq hlen
  refine ⟨_, rfl, _, rfl, l, bs, M, rfl, hl, hM, hlen, fun x hx => ?_, fun s hs hok hlo u H2 s2 hS => ?_⟩
  · intro d H2 s2 hd
    refine ⟨true, T.e_Faulty, fun _ q nq => ?_, fun z => nomatch z⟩
    have s12 : Same H H2 := s2.same
    refine ⟨_, rfl, rfl, rfl, d, _, _, rfl, hd, (lk_past (by decide +kernel)).trans lk_here, _, rfl, rfl, rfl, d, _, _, rfl, hd, lk_here, by show 3 ≤ sizeLine; decide, fun p np => ?_⟩
    exact hq1 x hx p _ (s12.free np) (s12.trans (same_new np)) upd_same
  · refine ⟨by show 1 ≤ sizeLine; decide, fun p np => ?_⟩
    have sp := same_new (o := .lst [u]) np
    have s12 := s2.trans sp
    have ha2 := s12 _ _ ha
    refine ⟨_, rfl, a, _, dx, _, rfl, ha2, T.cl_Holder, T.n_Holder_held, by show 1 < 1000; decide, ?_⟩
    have npa : p ≠ a := fun e => by
      have := s2 _ _ ha
      rw [← e, np] at this; cases this
    have hp2 : (upd H2 p (.lst [u])) p = some (.lst [u]) := upd_same
    have hS2 : ScoreA K A (hid M (upd H2 p (.lst [u]))) u s := hS.mono (hid_same (SB.of sp))
    have npM : p ∉ M := (hM.sb (M' := []) (SB.of s2)).new np
    have np0 : H p = none := s2.free np
    generalize upd H2 p (.lst [u]) = H3 at s12 ha2 hp2 hS2 ⊢
    have su : SB [a] H3 (upd H3 a (.ins A.C_Holder dx (putF "held" (.ref p) (F_Holder (.ref lh))))) := SB.upd ha2 trivial trivial (by simp)
    have hp4 := su.at hp2 (by simpa using npa)
    have ha4 : (upd H3 a (.ins A.C_Holder dx (putF "held" (.ref p) (F_Holder (.ref lh))))) a = some (.ins A.C_Holder dx (F_Holder (.ref p))) := by rw [upd_same, u_Holder_held]
    have hS4 := hS2.mono (hid_same (M := M) (su.mono (by intro b hb; rw [List.mem_singleton] at hb; rw [hb]; exact haM)))
    have s14 : SB [a] H (upd H3 a (.ins A.C_Holder dx (putF "held" (.ref p) (F_Holder (.ref lh))))) := (SB.of s12).trans su
    generalize upd H3 a (.ins A.C_Holder dx (putF "held" (.ref p) (F_Holder (.ref lh)))) = H4 at su hp4 ha4 hS4 s14 ⊢
    refine ⟨by show 1 ≤ sizeLine; decide, fun r nr => ?_⟩
    have sr := same_new (o := .lst [V.int 0]) nr
    have hHold : HoldA K A M H4 a (some s) := ⟨dx, p, ha4, npM, u, hp4, hS4, hok, hlo⟩
    exact hq2 s hs r _ (s14.free nr) (s14.trans (SB.of sr)) (hHold.same sr) upd_same
end
end Sc

set_option Elab.async false
set_option linter.all false
set_option maxRecDepth 100000
set_option maxHeartbeats 4000000
/-! # a holder's same -/
namespace Sc
open PySem PySem.Spec PyProof.Rows L2 Pf Zq
open Sx62 (Frac Pitch Word Timed Piece)
theorem cx_up {P : Program} {w : World} {outer : List Env} {H : Hp} {s : Shared} {E : XK} {u : Value} {s' : Shared} (c : L2N.CX P w outer H s E u s') : L2.CX P w outer H s E u s' := by
  obtain ⟨a, B, H', cls, d, e, fl, hok, ub, na, os, ag, hE⟩ := c
  exact ⟨a, B, H', cls, d, e, L2H.flyingZ_imp (fun o z => z.zc) fl, hok, ub, na, os, ag, hE⟩
theorem passU {X : Cx} {W : WX} {E : XK} (tk : L2.Takes X W) (hW : ∀ cls d σ H, E cls d H → W cls d σ H) : Passes (L2N.CX X.prog X.w) X E := fun pins σ H s e s' I c => L2.passes_call tk hW pins σ H s e s' I (cx_up c)
theorem ints_eqvAll : ∀ ns ms : List Int, PyData.eqvAll (ns.map PyData.int) (ms.map PyData.int) = decide (ns = ms)
  | [], [] => by simp [PyData.eqvAll]
  | [], _ :: _ => by simp [PyData.eqvAll]
  | _ :: _, [] => by simp [PyData.eqvAll]
  | a :: r, b :: t => by
    simp only [List.map_cons, PyData.eqvAll, PyData.eqv, ints_eqvAll r t]
    by_cases h : a = b <;> by_cases h' : r = t <;> simp [h, h']
theorem ints_eqv (ns ms : List Int) : PyData.eqv (.list (ns.map PyData.int)) (.list (ms.map PyData.int)) = decide (ns = ms) := by
  rw [← ints_eqvAll]
  simp [PyData.eqv]
theorem ivs_dp {K : PySem.W.Frag} {H : Hp} : ∀ ns : List Int, DpAll K H (ivs ns) (ns.map PyData.int)
  | [] => .nil
  | n :: r => .cons (.int n) (ivs_dp r)
theorem nis_inj {a b : List Nat} : nis a = nis b ↔ a = b := by
  constructor
  · intro h
    have := congrArg (List.map Int.toNat) h
    unfold nis at this
    rw [List.map_map, List.map_map] at this
    have e : (Int.toNat ∘ fun n : Nat => (n : Int)) = id := by funext n; simp
    rw [e, List.map_id, List.map_id] at this
    exact this
  · intro h; rw [h]
section
variable {P : Program} {w : World} {K : PySem.W.Frag} {mg : Str → Option Value} {base : Heap} {A : Ad}
theorem okRH (T : Txt K mg A) : L2H.FnH P w K mg base CX0 1 A.a_Refused_init A.d_Refused_init ["self", "code"] (sp_Refused_init K A) := by
  obtain ⟨oc, od, kV, doc, pm, an, cdv, ct, osl, e, lk, hcd⟩ := T.F_Refused_init.ex
  rw [e] at lk ⊢
  refine L2H.fn_ofH lk hcd sc_Refused_init sp2_len fun Ar outer s H vs Q E p hot hr h => ?_
  refine ⟨_, (pss_cons (ps_expr (pe_veinit (by rfl) T.z_ValueError T.vV (pa_cons (pv 0) (pa_cons pe_str pa_nil))))
      (pss_one (ps_ost (pv 0) (pv 1)))), ?_⟩
  obtain ⟨x, y, rfl, a, rfl, ha, hq⟩ := h
  refine ⟨_, rfl, a, A.C_Refused, _, rfl, by show 1 ≤ 1000; decide, T.X_Refused, ha, ?_⟩
  refine ⟨_, rfl, _, rfl, a, A.C_Refused, rfl, T.X_Refused, T.n_Refused_code, .inl ⟨ha, fun dx nd ne => ?_⟩⟩
  exact hq dx _ nd ne upd_same (by rw [upd_ne ne]; exact upd_same) fun b h1 h2 => by rw [upd_ne h1, upd_ne h2]
def sameTs (K : PySem.W.Frag) (A : Ad) (E : XK) : TS := fun _ σ H_1 => tMkO A.C_Refused (sp_Refused_init K A) [] (tCons (tC (.int (-6))) tNil) σ H_1 fun cls d H' => E cls d H'
def sameAns (bs : List Nat) (x : Sx62.Score) : Sx62.Ans := if Sx62.LONG < bs.length then Sx62.ok (-8) else match Sx62.read bs with
  | .error _ => Sx62.ok (-6)
  | .ok y => Sx62.ok (if x.form = y.form then 1 else 0)
def sp_Holder_same (K : PySem.W.Frag) (A : Ad) : Sp := sp2 fun x y H Q E => ∃ (a : Addr) (M : List Addr) (st : Option Sx62.Score) (l : Addr) (bs : List Nat), x = .ref a ∧ y = .ref l ∧ HoldA K A M H a st ∧ H l = some (.lst (nvs bs)) ∧ LookR K A H st (sameAns bs) Q E
theorem ok_Holder_same (T : Txt K mg A) : FnOk P w K mg base (L2.CX P w) 11 A.a_Holder_same A.d_Holder_same ["self", "text"] (sp_Holder_same K A) := by
  have G_Holder_score := ok_Holder_score (P := P) (w := w) (base := base) T
  have G_Refused_init := ok_Refused_init (P := P) (w := w) (base := base) T
  have G_form_of := ok_form_of (P := P) (w := w) (base := base) T
  have G_read_score := ok_read_score (P := P) (w := w) (base := base) T
  have G_want := ok_want (P := P) (w := w) (base := base) T
  refine okX T.F_Holder_same sc_Holder_same (sp2_len) (fun cdv Ar outer s H vs Q E hr h tk => ?_)
  refine ⟨_, (pss_cons (ps_set (i := 2) sc_Holder_same.nd rfl (Or.inl rfl) (pe_meth0 (pv 0) T.cl_Holder T.m_Holder_score G_Holder_score (hr.mono (by decide)) T.b_Holder_score .nil (passU tk fun _ _ _ _ h => h)))
      (pss_cons (ps_expr (pe_call G_want (hr.mono (by decide)) rfl T.g_want T.F_want.kp T.b_want .nil (passU tk fun _ _ _ _ h => h) (pa_cons (pe_cmpR op_le (pe_callB call_len_seq (by rfl) T.z_len PySem.boot_len (pa_cons (pv 1) pa_nil)) (pe_gI T.c_MOST_TEXT) (nomark _)) (pa_cons (pe_gI T.c_TOO_LONG) pa_nil))))
      (pss_cons (L2H.ps_try_onlyX (tb := fun W => tAsg (tCallS (sp_read_score K A) (WE W) (tCons (tVar 1) tNil)) (gName 3)) (ts := fun _ _ _ => sameTs K A E) (Wout := fun cls d _ H' => E cls d H') rfl rfl ⟨rfl, by decide, Or.inl T.g_Faulty⟩ (fun hd => PassesOwnAt.leaving) tk (fun W pn xe tkN _ _ => pss_one (by exact (ps_set (i := 3) sc_Holder_same.nd rfl (Or.inl rfl) (by exact (pe_callS G_read_score (hr.mono (by decide)) rfl T.g_read_score T.F_read_score.kp T.b_read_score (fun σ => L2N.passAt tkN σ) (by exact (pa_cons (pv 1) pa_nil))))))) (fun a oe cls d pn hz hf tkW hot => pss_one (by exact (L2H.ps_raiseHN hot tkW (by exact (L2H.pmk5_oexH T.X_Refused T.i_Refused T.t_Refused (okRH T) (L2H.roomH_mark (hr.mono (by decide)) _) hot T.b_Refused_init pass0 rfl T.g_Refused (by exact (pa_cons (pe_gI T.c_HAS_FAULT) pa_nil))))))))
      (pss_one (ps_ret (pe_lst (pa_cons (pe_callTy call_int1 (by rfl) T.z_int (by decide +kernel) (pa_cons (pe_cmpR (op_eqD (hD hr)) (pe_call G_form_of (hr.mono (by decide)) rfl T.g_form_of T.F_form_of.kp T.b_form_of .nil pass0 (pa_cons (pv 2) pa_nil)) (pe_call G_form_of (hr.mono (by decide)) rfl T.g_form_of T.F_form_of.kp T.b_form_of .nil pass0 (pa_cons (pv 3) pa_nil)) (nomark _)) pa_nil)) pa_nil))))))), ?_⟩
  obtain ⟨x, y, rfl, a, M, st, l, bs, rfl, rfl, hH, hl, hL⟩ := h
  have hH' := hH
  obtain ⟨dx, lh, ha, _⟩ := hH'
  have hLONG : Sx62.LONG = 1500 := rfl
  refine ⟨_, rfl, a, dx, _, rfl, ha, l_Holder_score, _, rfl, a, M, st, rfl, hH, hL.1, fun s hs u H1 s1 hS hok => ?_⟩
  obtain ⟨hE, hq⟩ := hL.at hs s1
  have hl1 := s1 _ _ hl
  refine ⟨_, rfl, l, _, rfl, .inl (SqL.of hl1), _, _, rfl, rfl, ?_⟩
  rw [nvs_len]
  refine ⟨_, _, rfl, decide (bs.length ≤ 1500), -8, ?_, rfl, fun hb => ?_, fun hb => ?_⟩
  · show V.bl (decide ((bs.length : Int) ≤ 1500)) = _
    congr 1
    rw [Bool.eq_iff_iff, decide_eq_true_eq, decide_eq_true_eq]; omega
  rotate_left
  · refine hE (-8) ?_ (by decide)
    unfold sameAns
    rw [if_pos (by have := of_decide_eq_false hb; omega)]
  have hlen : bs.length ≤ 1500 := of_decide_eq_true hb
  have ea : sameAns bs s = match Sx62.read bs with
      | .error _ => Sx62.ok (-6)
      | .ok y => Sx62.ok (if s.form = y.form then 1 else 0) := by unfold sameAns; rw [if_neg (by omega)]
  refine ⟨_, rfl, _, rfl, l, bs, [], rfl, hl1, (fun b hb => by cases hb), hlen, fun x hx => ?_, fun s2 hs2 hok2 hlo2 u2 H2 z2 hS2 => ?_⟩
  · intro d H2 z2 hd
    rw [hx] at ea
    refine ⟨true, T.e_Faulty, fun _ q nq => ?_, fun z => nomatch z⟩
    exact refused_out ((hE (-6) ea (by decide)).back z2 fun _ h => h)
  · rw [hs2] at ea
    simp only at ea
    have hS2' : ScoreA K A H2 u2 s2 := hS2.mono hid_sub
    refine ⟨_, rfl, _, rfl, s, hS.mono z2, hok.ok, fun p H3 np z3 hp => ?_⟩
    refine ⟨_, rfl, _, rfl, s2, hS2'.mono z3, hok2, fun p2 H4 np2 z4 hp2 => ?_⟩
    have hp4 := z4 _ _ hp
    rw [nvs_nis] at hp4 hp2
    refine ⟨_, _, .lst (SqL.of hp4) (ivs_dp _), .lst (SqL.of hp2) (ivs_dp _), PySem.W.ke_shaped_ints _, PySem.W.ke_shaped_ints _, ?_⟩
    rw [ints_eqv]
    refine .inr ⟨_, rfl, by show 1 ≤ sizeLine; decide, fun r nr => ?_⟩
    have e1 : decide (nis s.form = nis s2.form) = decide (s.form = s2.form) := by
      rw [Bool.eq_iff_iff, decide_eq_true_eq, decide_eq_true_eq, nis_inj]
    rw [ea] at hq
    have s24 := (z2.trans z3).trans z4
    refine hq (by show (0 : Int) ≤ (if s.form = s2.form then 1 else 0); split <;> decide) r _ (s24.free nr) (s24.trans (same_new nr)) ?_
    rw [upd_same, e1]
    by_cases hf : s.form = s2.form
    · rw [if_pos hf, decide_eq_true hf]; rfl
    · rw [if_neg hf, decide_eq_false hf]; rfl
end
end Sc

set_option Elab.async false
set_option linter.all false
set_option maxRecDepth 100000
set_option maxHeartbeats 4000000
/-! # one call -/
namespace Sc
open PySem PySem.Spec PyProof.Rows L2 Pf Zq
open Sx62 (Frac Pitch Word Timed Piece)
/-! ### o.m(e, ..) that may raise by the slots -/
def tMethE (C : Addr) (m : Str) (sp : Sp) (E : L2.St → XK) (ta : TE) (t : TA) : TE := fun σ H Q => ta σ H fun x H1 => ∃ a dx fs, x = .ref a ∧ H1 a = some (.ins C dx fs) ∧ fs.lookup m = none ∧
  t σ H1 fun vs H2 => sp (x :: vs) H2 Q (E σ)
theorem pe_methE {X : Cx} {CX : CXT} {k : Nat} {C f : Addr} {fd : FuncData} {ps : List Str} {sp : Sp} {E : L2.St → XK} {o e : Expr} {es : List Expr} {m : Str} {apos pos : Pos} {ta : TE} {t : TA} {pl : Sem Bool} (he : PE X o ta) (c : Cls X.K C) (hm : Meth X.K C m f)
    (F : FnOk X.prog X.w X.K X.mg X.base CX k f fd ps sp) (hr : Room k X.A) (hb : Binds X.K fd ps []) (hx : ∀ σ, PassesAt CX X σ (E σ)) (ha : PA X (e :: es) t)
    (hst : starEach (e :: es) X.env = (false, eval e X.env) :: starEach es X.env := by rfl) (hpl : (backTo pos (starEach es X.env)).any (·.1) = false := by rfl)
    (ht : eval (.Call (.Attribute o m apos) (e :: es) [] pos) X.env = (do
      let ov ← eval o X.env
      standAt apos.atName
      let (f, first) ← holding [ov] (getMethod ov m pl)
      callWith pos f first (backTo pos (starEach (e :: es) X.env)) (backToKw pos (keywordEach [] X.env))) := by rfl) :
    PE X (.Call (.Attribute o m apos) (e :: es) [] pos) (tMethE C m sp E ta t) := by
  refine ⟨fun pins s σ H Q I h => ?_⟩
  refine PySem.W.methodCall_KW (pl := pl) (thn (he.run pins s σ H _ I h) fun u s1 ⟨x, H1, I1, rx, a, dx, fs, ex, ea, l, q⟩ => ?_) ht
  subst ex
  obtain rfl : u = Value.ref a := rx
  refine getmeth_ok I1 ea c hm l ?_
  refine PySem.W.callWith_K (first := [.ref a]) (h₀ := X.base) I.ok.mod.kin hm.kp (thn (ha.run pos pins s1 σ H1 _ I1 q) fun us s2 ⟨vs, H2, I2, r, q2⟩ => ⟨I2.kIn, ?_⟩) hst hpl
  exact run_fnS (us := .ref a :: us) (vs := .ref a :: vs) F hr hb (hx σ) I2 (.cons rfl r) q2
inductive CallIs : Nat → List Nat → List Nat → Sx62.Call → Prop
  | read (bs : List Nat) : CallIs 0 [] bs (.read bs)
  | form : CallIs 1 [] [] .form
  | counts : CallIs 2 [] [] .counts
  | sounds (v : Nat) : CallIs 3 [v] [] (.sounds v)
  | bars : CallIs 4 [] [] .bars
  | same (bs : List Nat) : CallIs 5 [] bs (.same bs)
  | place (n d : Nat) : CallIs 6 [n, d] [] (.place n d)
section
variable {P : Program} {w : World} {K : PySem.W.Frag} {mg : Str → Option Value} {base : Heap} {A : Ad}
/-- what a call does -/
def StepR (K : PySem.W.Frag) (A : Ad) (M : List Addr) (H : Hp) (a : Addr) (st : Option Sx62.Score) (C : Sx62.Call) (Q : VK) (E : XK) : Prop :=
  (∀ c, Sx62.step st C = (st, Sx62.ok c) → c < 0 → RaiseR A E [] H c) ∧
  (0 ≤ (Sx62.step st C).2.v → ∀ p H', H p = none → SB [a] H H' → HoldA K A M H' a (Sx62.step st C).1 → H' p = some (.lst (ivs (outA (Sx62.step st C).2))) → Q (.ref p) H')
theorem StepR.look {M : List Addr} {H : Hp} {a : Addr} {st : Option Sx62.Score} {C : Sx62.Call} {Q : VK} {E : XK} {f : Sx62.Score → Sx62.Ans} (h : StepR K A M H a st C Q E) (hH : HoldA K A M H a st) (e : Sx62.step st C = Sx62.onScore st f) : LookR K A H st f Q E := by
  obtain ⟨h1, h2⟩ := h
  rw [e] at h1 h2
  refine ⟨fun hs => ?_, fun s hs => ?_⟩
  · subst hs
    exact h1 (-1) rfl (by decide)
  · subst hs
    refine ⟨fun c hc hc0 => h1 c ?_ hc0, fun hv p H' np z hp => h2 hv p H' np (SB.of z) (hH.same z) hp⟩
    show (some s, f s) = _
    rw [hc]
def sp_Holder_called (K : PySem.W.Frag) (A : Ad) : Sp := sp4 fun x y0 y1 y2 H Q E => ∃ (a : Addr) (M : List Addr) (st : Option Sx62.Score) (c : Nat) (l1 : Addr) (ns : List Nat) (l2 : Addr) (bs : List Nat) (C : Sx62.Call), x = .ref a ∧ y0 = .int (c : Int) ∧ y1 = .ref l1 ∧ y2 = .ref l2 ∧ HoldA K A M H a st ∧ a ∈ M ∧ MOk M H ∧
  H l1 = some (.lst (nvs ns)) ∧ H l2 = some (.lst (nvs bs)) ∧ CallIs c ns bs C ∧ StepR K A M H a st C Q E
def countsAns (x : Sx62.Score) : Sx62.Ans := ⟨Sx62.num x.voices.length, x.voices.map fun v => [v.bars.length, v.notes.length, (v.notes.filter fun n => n.ps != []).length]⟩
theorem ok_Holder_called (T : Txt K mg A) : FnOk P w K mg base (L2.CX P w) 12 A.a_Holder_called A.d_Holder_called ["self", "call", "some", "text"] (sp_Holder_called K A) := by
  have G_Holder_bars_told := ok_Holder_bars_told (P := P) (w := w) (base := base) T
  have G_Holder_form := ok_Holder_form (P := P) (w := w) (base := base) T
  have G_Holder_place_told := ok_Holder_place_told (P := P) (w := w) (base := base) T
  have G_Holder_read := ok_Holder_read (P := P) (w := w) (base := base) T
  have G_Holder_same := ok_Holder_same (P := P) (w := w) (base := base) T
  have G_Holder_score := ok_Holder_score (P := P) (w := w) (base := base) T
  have G_Holder_sounds := ok_Holder_sounds (P := P) (w := w) (base := base) T
  have G_counts_of := ok_counts_of (P := P) (w := w) (base := base) T
  have G_told := ok_told (P := P) (w := w) (base := base) T
  refine okX T.F_Holder_called sc_Holder_called (sp4_len) (fun cdv Ar outer s H vs Q E hr h tk => ?_)
  refine ⟨_, (pss_cons (ps_if (pt_cmpR op_eq (pv 1) (pe_gI T.c_READ) (nomark _)) (pss_one (ps_ret (pe_meth (pv 0) T.cl_Holder T.m_Holder_read G_Holder_read (hr.mono (by decide)) T.b_Holder_read .nil (passU tk fun _ _ _ _ h => h) (pa_cons (pv 3) pa_nil)))) pss_nil)
      (pss_cons (ps_if (pt_cmpR op_eq (pv 1) pe_int (nomark _)) (pss_one (ps_ret (pe_meth0 (pv 0) T.cl_Holder T.m_Holder_form G_Holder_form (hr.mono (by decide)) T.b_Holder_form .nil (passU tk fun _ _ _ _ h => h)))) pss_nil)
      (pss_cons (ps_if (pt_cmpR op_eq (pv 1) pe_int (nomark _)) (pss_one (ps_ret (pe_call G_told (hr.mono (by decide)) rfl T.g_told T.F_told.kp T.b_told .nil pass0 (pa_cons (pe_lc (own := [("voice", 4)]) (g := gName 4) (tt := tYes) rfl sc_Holder_called.nd (pi_list (pe_fld (pe_meth0 (pv 0) T.cl_Holder T.m_Holder_score G_Holder_score (hr.mono (by decide)) T.b_Holder_score .nil (passU tk fun _ _ _ _ h => h)) rfl)) (blkOk_by (N := ["self", "call", "some", "text", "voice"]) (sc := defScope s_Holder_called) (by decide +kernel)) (fun _ _ _ _ _ => (pg_name (i := 4) sc_Holder_called.nd rfl (Or.inl rfl))) (fun _ _ _ _ _ => pts_nil) (fun _ _ _ _ _ => (pe_call G_counts_of (hr.mono (by decide)) rfl T.g_counts_of T.F_counts_of.kp T.b_counts_of .nil pass0 (pa_cons (pv 4) pa_nil)))) pa_nil)))) pss_nil)
      (pss_cons (ps_if (pt_cmpR op_eq (pv 1) pe_int (nomark _)) (pss_one (ps_ret (pe_meth (pv 0) T.cl_Holder T.m_Holder_sounds G_Holder_sounds (hr.mono (by decide)) T.b_Holder_sounds .nil (passU tk fun _ _ _ _ h => h) (pa_cons (pe_ix ix_list (pv 2) pe_int (fun _ _ => rfl)) pa_nil)))) pss_nil)
      (pss_cons (ps_if (pt_cmpR op_eq (pv 1) pe_int (nomark _)) (pss_one (ps_ret (pe_meth0 (pv 0) T.cl_Holder T.m_Holder_bars_told G_Holder_bars_told (hr.mono (by decide)) T.b_Holder_bars_told .nil (passU tk fun _ _ _ _ h => h)))) pss_nil)
      (pss_cons (ps_if (pt_cmpR op_eq (pv 1) (pe_gI T.c_SAME) (nomark _)) (pss_one (ps_ret (pe_meth (pv 0) T.cl_Holder T.m_Holder_same G_Holder_same (hr.mono (by decide)) T.b_Holder_same .nil (L2.passes_call tk fun _ _ _ _ h => h) (pa_cons (pv 3) pa_nil)))) pss_nil)
      (pss_one (ps_ret (pe_meth (pv 0) T.cl_Holder T.m_Holder_place_told G_Holder_place_told (hr.mono (by decide)) T.b_Holder_place_told .nil (passU tk fun _ _ _ _ h => h) (pa_cons (pe_ix ix_list (pv 2) pe_int (fun _ _ => rfl)) (pa_cons (pe_ix ix_list (pv 2) pe_int (fun _ _ => rfl)) pa_nil))))))))))), ?_⟩
  obtain ⟨x, y0, y1, y2, rfl, a, M, st, c, l1, ns, l2, bs, C, rfl, rfl, rfl, rfl, hH, haM, hM, hl1, hl2, hC, hS⟩ := h
  have hH' := hH
  obtain ⟨dx, lh, ha, _⟩ := hH'
  cases hC with
  | read =>
    refine ⟨_, rfl, rfl, _, rfl, ite_t rfl ?_⟩
    refine ⟨_, rfl, a, dx, _, rfl, ha, l_Holder_read, _, rfl, _, _, rfl, a, M, st, l2, bs, rfl, rfl, hH, haM, hM, hl2, fun hlong => ?_, fun hlen => ⟨fun x hx p H' np z hp => ?_, fun s hs p H' np z hh hp => ?_⟩⟩
    · refine hS.1 (-8) ?_ (by decide)
      show (if 1500 < bs.length then _ else _) = _
      rw [if_pos hlong]
    · have e : Sx62.step st (.read bs) = (st, ⟨Sx62.num x.kind, [[x.place]]⟩) := by
        show (if 1500 < bs.length then _ else _) = _
        rw [if_neg (by omega), hx]
      have h2 := hS.2
      rw [e] at h2
      exact h2 (Int.natCast_nonneg _) p H' np (SB.of z) (hH.same z) hp
    · have e : Sx62.step st (.read bs) = (some s, Sx62.ok 0) := by
        show (if 1500 < bs.length then _ else _) = _
        rw [if_neg (by omega), hs]
      have h2 := hS.2
      rw [e] at h2
      exact h2 (Int.le_refl _) p H' np z hh hp
  | form =>
    refine ⟨_, rfl, rfl, _, rfl, ite_f rfl ?_⟩
    refine ⟨_, rfl, rfl, _, rfl, ite_t rfl ?_⟩
    exact ⟨_, rfl, a, dx, _, rfl, ha, l_Holder_form, _, rfl, a, M, st, rfl, hH, hS.look hH rfl⟩
  | counts =>
    refine ⟨_, rfl, rfl, _, rfl, ite_f rfl ?_⟩
    refine ⟨_, rfl, rfl, _, rfl, ite_f rfl ?_⟩
    refine ⟨_, rfl, rfl, _, rfl, ite_t rfl ?_⟩
    have hL := hS.look (f := countsAns) hH rfl
    refine ⟨_, rfl, a, dx, _, rfl, ha, l_Holder_score, _, rfl, a, M, st, rfl, hH, hL.1, fun s hs u H1 s1 hSc hok => ?_⟩
    obtain ⟨hE, hq⟩ := hL.at hs s1
    obtain ⟨q, dq, f, lv, vs, rfl, hq1, hf, hq2, hvs⟩ := hSc
    have lvs := Paired.length hvs
    have h4 := hok.ok.four
    refine ⟨q, _, dq, _, _, rfl, hq1, T.cl_Score, T.n_Score_voices, l_Score_voices, lv, rfl, ⟨_, SqL.of hq2⟩, fun D nD => lc_it (walk_list (K := K) (a := lv) (xs := vs)) (fun i H' => ∃ gs, H' D = some (.lst gs) ∧ Paired (RowA (hid [D] H')) gs ((s.voices.take i).map fun v => [v.bars.length, v.notes.length, (v.notes.filter fun n => n.ps != []).length]) ∧ Same H1 H') ⟨[], upd_same, .nil, same_new nD⟩ (fun i H' _ ⟨_, _, _, h⟩ => SqL.of (h _ _ hq2)) ?_ ?_⟩
    · rintro i x H7 H8 hi ⟨gs, h1, hgs, s7⟩ ⟨rfl, hx⟩
      obtain ⟨v, hvi, hv⟩ := paired_get hvs hx
      have hvsz := hok.ok.vsize (List.mem_of_getElem? hvi)
      have lgs := Paired.length hgs
      rw [List.length_map, List.length_take] at lgs
      refine ⟨rfl, _, rfl, _, rfl, v, hv.mono s7, by omega, fun r H9 nr s9 hr9 => ?_⟩
      have hD := s9 _ _ h1
      have nrD : r ≠ D := fun e => by
        rw [e, h1] at nr; cases nr
      have su : SB [D] H9 (upd H9 D (.lst (gs ++ [V.ref r]))) := SB.upd hD trivial trivial (by simp)
      refine ⟨gs, hD, by rw [lgs, sizeLine_eq]; omega, _, upd_same, ?_, fun b' o e => ?_⟩
      · rw [take_more hvi, List.map_append]
        refine pairedApp (pairedMono (fun _ _ h => (h.mono (hid_same (SB.of s9))).mono (hid_same su)) hgs) (.cons ⟨r, rfl, ?_⟩ .nil)
        rw [hid_out (by simpa using nrD), upd_ne nrD, hr9]
      · rw [upd_ne (ne_of_none e nD)]; exact s9 _ _ (s7 _ _ e)
    · rintro H7 ⟨gs, h1, hgs, s7⟩
      rw [lvs, List.take_length] at hgs
      refine ⟨_, rfl, D, gs, _, rfl, h1, pairedMono (fun _ _ h => h.mono hid_sub) hgs, ?_, fun p H3 np s3 hp => ?_⟩
      · have : ∀ ss : List Sx62.Voice, cost (ss.map fun v => [v.bars.length, v.notes.length, (v.notes.filter fun n => n.ps != []).length]) = 4 * ss.length := fun ss => by
          induction ss with
          | nil => rfl
          | cons z ss ih =>
            rw [List.map_cons, cost_cons, ih]
            simp only [List.length_cons, List.length_nil]
            omega
        rw [this]; omega
      · rw [List.length_map] at hp
        exact hq (Int.natCast_nonneg _) p H3 (s7.free np) (s7.trans s3) hp
  | sounds v =>
    refine ⟨_, rfl, rfl, _, rfl, ite_f rfl ?_⟩
    refine ⟨_, rfl, rfl, _, rfl, ite_f rfl ?_⟩
    refine ⟨_, rfl, rfl, _, rfl, ite_f rfl ?_⟩
    refine ⟨_, rfl, rfl, _, rfl, ite_t rfl ?_⟩
    refine ⟨_, rfl, a, dx, _, rfl, ha, l_Holder_sounds, _, rfl, l1, _, 0, _, rfl, rfl, SqL.of hl1, at0 _ _, ?_⟩
    exact ⟨_, _, rfl, a, M, st, v, rfl, rfl, hH, hS.look hH rfl⟩
  | bars =>
    refine ⟨_, rfl, rfl, _, rfl, ite_f rfl ?_⟩
    refine ⟨_, rfl, rfl, _, rfl, ite_f rfl ?_⟩
    refine ⟨_, rfl, rfl, _, rfl, ite_f rfl ?_⟩
    refine ⟨_, rfl, rfl, _, rfl, ite_f rfl ?_⟩
    refine ⟨_, rfl, rfl, _, rfl, ite_t rfl ?_⟩
    exact ⟨_, rfl, a, dx, _, rfl, ha, l_Holder_bars_told, _, rfl, a, M, st, rfl, hH, hS.look hH rfl⟩
  | same =>
    refine ⟨_, rfl, rfl, _, rfl, ite_f rfl ?_⟩
    refine ⟨_, rfl, rfl, _, rfl, ite_f rfl ?_⟩
    refine ⟨_, rfl, rfl, _, rfl, ite_f rfl ?_⟩
    refine ⟨_, rfl, rfl, _, rfl, ite_f rfl ?_⟩
    refine ⟨_, rfl, rfl, _, rfl, ite_f rfl ?_⟩
    refine ⟨_, rfl, rfl, _, rfl, ite_t rfl ?_⟩
    exact ⟨_, rfl, a, dx, _, rfl, ha, l_Holder_same, _, rfl, _, _, rfl, a, M, st, l2, bs, rfl, rfl, hH, hl2, hS.look hH rfl⟩
  | place n d =>
    refine ⟨_, rfl, rfl, _, rfl, ite_f rfl ?_⟩
    refine ⟨_, rfl, rfl, _, rfl, ite_f rfl ?_⟩
    refine ⟨_, rfl, rfl, _, rfl, ite_f rfl ?_⟩
    refine ⟨_, rfl, rfl, _, rfl, ite_f rfl ?_⟩
    refine ⟨_, rfl, rfl, _, rfl, ite_f rfl ?_⟩
    refine ⟨_, rfl, rfl, _, rfl, ite_f rfl ?_⟩
    refine ⟨_, rfl, a, dx, _, rfl, ha, l_Holder_place_told, _, rfl, l1, _, 0, _, rfl, rfl, SqL.of hl1, at0 _ _, _, rfl, l1, _, 1, _, rfl, rfl, SqL.of hl1, at1 _ _ _, ?_⟩
    exact ⟨_, _, _, rfl, a, M, st, n, d, rfl, rfl, rfl, hH, hS.look hH rfl⟩
def ansTs (A : Ad) (a : Addr) (cls : Value) (d : Option Addr) : TS := tAsg (tLst (tCons (tXf a cls d A.C_Refused (Str.ofString "code") (tVar 5)) tNil)) (gName 4)
end
end Sc

set_option Elab.async false
set_option linter.all false
set_option maxRecDepth 100000
set_option maxHeartbeats 4000000
/-! # an answer -/
namespace Sc
open PySem PySem.Spec PyProof.Rows L2 Pf Zq
open Sx62 (Frac Pitch Word Timed Piece)
section
variable {P : Program} {w : World} {K : PySem.W.Frag} {mg : Str → Option Value} {base : Heap} {A : Ad}
def sp_Holder_answer (K : PySem.W.Frag) (A : Ad) : Sp := sp4 fun x y0 y1 y2 H Q _ => ∃ (a : Addr) (M : List Addr) (st : Option Sx62.Score) (c : Nat) (l1 : Addr) (ns : List Nat) (l2 : Addr) (bs : List Nat) (C : Sx62.Call), x = .ref a ∧ y0 = .int (c : Int) ∧ y1 = .ref l1 ∧ y2 = .ref l2 ∧ HoldA K A M H a st ∧ a ∈ M ∧ MOk M H ∧
  H l1 = some (.lst (nvs ns)) ∧ H l2 = some (.lst (nvs bs)) ∧ CallIs c ns bs C ∧ ∀ p H', H p = none → SB [a] H H' → HoldA K A M H' a (Sx62.step st C).1 → H' p = some (.lst (ivs (outA (Sx62.step st C).2))) → Q (.ref p) H'
theorem ok_Holder_answer (T : Txt K mg A) : FnOk P w K mg base CX0 13 A.a_Holder_answer A.d_Holder_answer ["self", "call", "some", "text"] (sp_Holder_answer K A) := by
  have G_Holder_called := ok_Holder_called (P := P) (w := w) (base := base) T
  refine T.F_Holder_answer.ok sc_Holder_answer (sp4_len) (fun cdv Ar outer s H vs Q E hr h => ?_)
  refine ⟨_, (pss_cons (L2.ps_try_as (i := 5) (tb := fun W => tAsg (tMethE A.C_Holder (Str.ofString "called") (sp_Holder_called K A) (WE W) (tVar 0) (tCons (tVar 1) (tCons (tVar 2) (tCons (tVar 3) tNil)))) (gName 4)) (ts := ansTs A) (Wout := fun _ _ _ _ => False) rfl rfl sc_Holder_answer.nd rfl rfl ⟨rfl, by decide, Or.inl T.g_Refused⟩ takes0 (fun W pn xe tkW _ => pss_one (by exact (ps_set (i := 4) sc_Holder_answer.nd rfl (Or.inl rfl) (by exact (pe_methE (pv 0) T.cl_Holder T.m_Holder_called G_Holder_called (hr.mono (by decide)) T.b_Holder_called (fun σ => L2.passAt tkW σ) (by exact (pa_cons (pv 1) (pa_cons (pv 2) (pa_cons (pv 3) pa_nil))))))))) (fun a oe cls d pn hz hf => pss_one (by exact (ps_set (i := 4) sc_Holder_answer.nd rfl (Or.inl rfl) (pe_lst (pa_cons (by exact (pe_xf T.V_Refused T.n_Refused_code hz hf (pv 5))) pa_nil))))))
      (pss_one (ps_ret (pv 4)))), ?_⟩
  obtain ⟨x, y0, y1, y2, rfl, a, M, st, c, l1, ns, l2, bs, C, rfl, rfl, rfl, rfl, hH, haM, hM, hl1, hl2, hC, hq⟩ := h
  have hH' := hH
  obtain ⟨dx, lh, ha, _⟩ := hH'
  refine ⟨_, rfl, a, dx, _, rfl, ha, l_Holder_called, _, rfl, _, rfl, _, rfl, ?_⟩
  refine ⟨_, _, _, _, rfl, a, M, st, c, l1, ns, l2, bs, C, rfl, rfl, rfl, rfl, hH, haM, hM, hl1, hl2, hC, fun code hcode hneg => ?_, fun hpos p H' np z hh hp => ?_⟩
  · intro d H' z hd
    refine ⟨true, T.e_Refused, fun _ q nq => ?_, fun z => nomatch z⟩
    have sHH : Same H H' := z.same
    refine ⟨_, rfl, rfl, rfl, d, _, _, rfl, hd, lk_here, by show 1 ≤ sizeLine; decide, fun p np => ?_⟩
    rw [hcode] at hq
    exact ⟨_, rfl, hq p _ (sHH.free np) ((SB.of sHH).trans (SB.of (same_new np))) ((hH.same sHH).same (same_new np)) upd_same⟩
  · exact ⟨_, rfl, hq p H' np z hh hp⟩
end
end Sc

set_option Elab.async false
set_option linter.all false
set_option maxRecDepth 100000
set_option maxHeartbeats 4000000
/-! # answers -/
namespace Sc
open PySem PySem.Spec PyProof.Rows L2 Pf Zq
open Sx62 (Frac Pitch Word Timed Piece)
structure Dc where
  c : Nat
  ns : List Nat
  bs : List Nat
  C : Sx62.Call
def Dc.enc (d : Dc) : List Nat := d.c :: (d.ns ++ (if d.c = 0 ∨ d.c = 5 then d.bs.length :: d.bs else []))
def DcOk (d : Dc) : Prop := CallIs d.c d.ns d.bs d.C
def encAll (ds : List Dc) : List Nat := ds.flatMap Dc.enc
def playO : Option Sx62.Score → List Dc → List Int
  | _, [] => []
  | st, d :: r => ((outA (Sx62.step st d.C).2).length : Int) :: (outA (Sx62.step st d.C).2 ++ playO (Sx62.step st d.C).1 r)
theorem seg {α : Type} {l a b c : List α} {i k : Nat} (e : l = a ++ (b ++ c)) (hi : a.length = i) (hk : b.length = k) : (l.drop i).take k = b := by
  subst e hi hk
  rw [List.drop_left, List.take_left]
theorem numbers_at {c : Nat} {ns bs : List Nat} {C : Sx62.Call} (h : CallIs c ns bs C) : [V.int 0, .int 0, .int 0, .int 1, .int 0, .int 0, .int 2][c]? = some (.int (ns.length : Int)) := by
  cases h <;> rfl
section
variable {P : Program} {w : World} {K : PySem.W.Frag} {mg : Str → Option Value} {base : Heap} {A : Ad}
def sp_answers (K : PySem.W.Frag) (A : Ad) : Sp := sp1 fun x H Q _ => ∃ (l : Addr) (ds : List Dc), x = .ref l ∧ SqL K H l (nvs (encAll ds)) ∧ (∀ d ∈ ds, DcOk d) ∧ (encAll ds).length ≤ 10000000 ∧ (playO none ds).length ≤ 10000000 ∧ ∀ p H', H' p = some (.lst (ivs (playO none ds))) → Q (.ref p) H'
theorem HoldA.updF {M : List Addr} {H : Hp} {a F : Addr} {st : Option Sx62.Score} {xs ys : List V} (h : HoldA K A M H a st) (hF : H F = some (.lst xs)) (hm : F ∈ M) : HoldA K A M (upd H F (.lst ys)) a st := by
  obtain ⟨dx, lh, h1, h2, h3⟩ := h
  have su : SB [F] H (upd H F (.lst ys)) := SB.upd hF trivial trivial (by simp)
  have nl : lh ≠ F := fun e => h2 (e ▸ hm)
  refine ⟨dx, lh, by rw [upd_ne (ne_of h1 hF (by intro z; cases z))]; exact h1, h2, ?_⟩
  cases st with
  | none => show _ = _; rw [upd_ne nl]; exact h3
  | some s =>
    obtain ⟨u, e1, e2, e3⟩ := h3
    exact ⟨u, by rw [upd_ne nl]; exact e1, e2.mono (hid_same (su.mono (by intro b hb; rw [List.mem_singleton] at hb; rw [hb]; exact hm))), e3⟩
/-- between two calls -/
def AnW (K : PySem.W.Frag) (A : Ad) (l a F : Addr) (ds : List Dc) (H0 : Hp) (m : Nat) (σ : L2.St) (H : Hp) : Prop := ∃ (pre rest : List Dc) (st : Option Sx62.Score) (out : List Int) (u4 u5 u6 u7 u8 u9 : Option V),
  m = rest.length ∧ σ = [some (.ref l), some (.ref a), some (.ref F), some (.int ((encAll pre).length : Int)), u4, u5, u6, u7, u8, u9] ∧ ds = pre ++ rest ∧ Same H0 H ∧ H F = some (.lst (ivs out)) ∧ playO none ds = out ++ playO st rest ∧ HoldA K A [a, F] H a st ∧ MOk [a, F] H ∧ a ≠ F
theorem cut_nat (xs : List V) {i j : Nat} {a b : Int} (ha : a = (i : Int)) (hb : b = (j : Int)) (hi : i ≤ xs.length) (hj : j ≤ xs.length) : cutV xs (some a) (some b) = (xs.drop i).take (j - i) := by
  subst ha hb
  unfold cutV
  rw [HT.sIx_nat, HT.sIx_nat, Nat.min_eq_left hi, Nat.min_eq_left hj]
theorem if_text {l a F t0 : Addr} {xs : List V} {c b1 : Nat} {bs : List Nat} {u3 u6 u8 u9 : Option V} {H : Hp} {σ : L2.St} {D : Ends} (e : σ = [some (.ref l), some (.ref a), some (.ref F), u3, some (.int (c : Int)), some (.int (b1 : Int)), u6, some (.ref t0), u8, u9])
    (hl : SqL K H l xs) (ht : H t0 = some (.lst [])) (hx : c = 0 ∨ c = 5 → xs[b1]? = some (.int (bs.length : Int)) ∧ (xs.drop (b1 + 1)).take bs.length = nvs bs ∧ b1 + 1 + bs.length ≤ xs.length) (hn : ¬ (c = 0 ∨ c = 5) → bs = [])
    (hq : ∀ H' t u8', Same H H' → H' t = some (.lst (nvs bs)) → D.nx [some (.ref l), some (.ref a), some (.ref F), u3, some (.int (c : Int)), some (.int ((if c = 0 ∨ c = 5 then b1 + 1 + bs.length else b1 : Nat) : Int)), u6, some (.ref t), u8', u9] H') :
    tIfS (tTest (tOp (rIn K false) (tVar 4) (tTup (tCons (tC (V.int 0)) (tCons (tC (V.int 5)) tNil)))))
      (tSeq (tAsg (tOp (rI0 fun i j => V.int (i + j)) (tVar 5) (tC (V.int 1))) (gName 8))
        (tSeq (tAsg (tOp (rI0 fun i j => V.int (i + j)) (tVar 8) (tOp (rIxL K) (tVar 0) (tVar 5))) (gName 5))
          (tAsg (tSl (rSlL K) (tVar 0) (tPart (tVar 8)) (tPart (tVar 5))) (gName 7)))) tNext D σ H := by
  subst e
  refine ⟨_, rfl, by show 2 ≤ sizeLine; decide, fun p np => ?_⟩
  have sp := same_new (o := .tup [V.int 0, V.int 5]) np
  refine ⟨p, _, rfl, .inr (SqT.of upd_same), rfl, rfl, _, rfl, ?_⟩
  have e1 : inV (V.int (c : Int)) [V.int 0, V.int 5] = decide (c = 0 ∨ c = 5) := by
    rw [Bool.eq_iff_iff, decide_eq_true_eq]
    simp only [inV, List.any_cons, List.any_nil, eqV, Bool.or_false, Bool.or_eq_true, beq_iff_eq]
    omega
  show (if inV (V.int (c : Int)) [V.int 0, V.int 5] = true then _ else _)
  rw [e1]
  by_cases hc : c = 0 ∨ c = 5
  · obtain ⟨x1, x2, x3⟩ := hx hc
    rw [if_pos hc] at hq
    refine ite_t (decide_eq_true hc) ?_
    have hl1 := sp.seq hl
    refine ⟨_, rfl, _, _, rfl, rfl, ?_⟩
    have eb : (b1 : Int) + 1 = ((b1 + 1 : Nat) : Int) := by omega
    refine ⟨_, rfl, _, rfl, _, rfl, l, xs, _, _, rfl, rfl, hl1, atI_nat x1, _, _, rfl, rfl, ?_⟩
    refine ⟨_, rfl, _, rfl, _, rfl, _, rfl, _, rfl, l, xs, rfl, hl1, fun t nt => ?_⟩
    have ec : cutV xs (some ((b1 : Int) + 1)) (some ((b1 : Int) + 1 + (bs.length : Int))) = nvs bs := by
      rw [cut_nat xs (i := b1 + 1) (j := b1 + 1 + bs.length) (by omega) (by omega) (by omega) x3, Nat.add_sub_cancel_left, x2]
    have := hq (upd (upd H p (.tup [V.int 0, V.int 5])) t (.lst (nvs bs))) t (some (V.int ((b1 : Int) + 1))) (sp.trans (same_new nt)) upd_same
    have e2 : (((b1 + 1 + bs.length : Nat) : Int)) = (b1 : Int) + 1 + (bs.length : Int) := by omega
    rw [e2] at this
    show D.nx _ (upd _ t (.lst (cutV xs (some ((b1 : Int) + 1)) (some ((b1 : Int) + 1 + (bs.length : Int))))))
    rw [ec]
    exact this
  · rw [if_neg hc] at hq
    refine ite_f (decide_eq_false hc) ?_
    have := hn hc
    subst this
    exact hq _ t0 u8 sp (sp _ _ ht)
theorem ok_answers (T : Txt K mg A) : FnOk P w K mg base CX0 14 A.a_answers A.d_answers ["calls"] (sp_answers K A) := by
  have G_Holder_answer := ok_Holder_answer (P := P) (w := w) (base := base) T
  have G_Holder_init := ok_Holder_init (P := P) (w := w) (base := base) T
  refine T.F_answers.ok sc_answers (sp1_len) (fun cdv Ar outer s H vs Q E hr h => ?_)
  refine ⟨_, (pss_cons (ps_set (i := 1) sc_answers.nd rfl (Or.inl rfl) (pe_make0 T.M_Holder G_Holder_init (hr.mono (by decide)) rfl T.g_Holder T.b_Holder_init .nil pass0))
      (pss_cons (ps_set (i := 2) sc_answers.nd rfl (Or.inl rfl) (pe_lst pa_nil))
      (pss_cons (ps_set (i := 3) sc_answers.nd rfl (Or.inl rfl) pe_int)
      (pss_cons (ps_while PassesOwn.never (pt_cmpR op_lt (pv 3) (pe_callB call_len_seq (by rfl) T.z_len PySem.boot_len (pa_cons (pv 0) pa_nil)) (nomark _)) (pss_cons (ps_set (i := 4) sc_answers.nd rfl (Or.inl rfl) (pe_ix ix_list (pv 0) (pv 3) (fun _ _ => rfl)))
      (pss_cons (ps_set (i := 5) sc_answers.nd rfl (Or.inl rfl) (pe_op op_add (pe_op op_add (pv 3) pe_int) (pe_ix ix_tup (pe_gR T.c_NUMBERS) (pv 4) (fun _ _ => rfl))))
      (pss_cons (ps_set (i := 6) sc_answers.nd rfl (Or.inl rfl) (pe_slice sl_list (pv 0) (po_some (pe_op op_add (pv 3) pe_int)) (po_some (pv 5))))
      (pss_cons (ps_set (i := 7) sc_answers.nd rfl (Or.inl rfl) (pe_lst pa_nil))
      (pss_cons (ps_if (pt_cmpR op_in_seq (pv 4) (pe_tup (pa_cons (pe_gI T.c_READ) (pa_cons (pe_gI T.c_SAME) pa_nil))) rfl) (pss_cons (ps_set (i := 8) sc_answers.nd rfl (Or.inl rfl) (pe_op op_add (pv 5) pe_int))
      (pss_cons (ps_set (i := 5) sc_answers.nd rfl (Or.inl rfl) (pe_op op_add (pv 8) (pe_ix ix_list (pv 0) (pv 5) (fun _ _ => rfl))))
      (pss_one (ps_set (i := 7) sc_answers.nd rfl (Or.inl rfl) (pe_slice sl_list (pv 0) (po_some (pv 8)) (po_some (pv 5))))))) pss_nil)
      (pss_cons (ps_set (i := 9) sc_answers.nd rfl (Or.inl rfl) (pe_meth (pv 1) T.cl_Holder T.m_Holder_answer G_Holder_answer (hr.mono (by decide)) T.b_Holder_answer .nil pass0 (pa_cons (pv 4) (pa_cons (pv 6) (pa_cons (pv 7) pa_nil)))))
      (pss_cons (ps_expr (pe_bm PySem.F.plainAttrs_list PySem.F.slot_list_append PySem.F.type_list_append mt_append (pv 2) (pa_cons (pe_callB call_len_seq (by rfl) T.z_len PySem.boot_len (pa_cons (pv 9) pa_nil)) pa_nil)))
      (pss_cons (ps_expr (pe_bm PySem.F.plainAttrs_list PySem.F.slot_list_extend PySem.F.type_list_extend mt_extend (pv 2) (pa_cons (pv 9) pa_nil)))
      (pss_one (ps_set (i := 3) sc_answers.nd rfl (Or.inl rfl) (pv 5))))))))))))
      (pss_one (ps_ret (pv 2))))))), ?_⟩
  obtain ⟨x, rfl, l, ds, rfl, hl, hok, hlen, hshort, hq⟩ := h
  refine fun a da na nd ne => ?_
  have sm : Same H (upd (upd H da (.own a)) a (.ins A.C_Holder da [])) := fun b o e => by
    rw [upd_ne (ne_of_none e na), upd_ne (ne_of_none e nd)]; exact e
  refine ⟨_, rfl, a, da, rfl, upd_same, fun H2 lh nlh hlh ha2 k2 => ⟨rfl, ?_⟩⟩
  have s2 : Same H H2 := fun b o e => by
    have h1 := sm b o e
    rw [k2 b (ne_of_none e na) (ne_of_none h1 nlh)]
    exact h1
  refine ⟨by show 0 ≤ sizeLine; decide, fun F nF => ?_⟩
  have sF := same_new (o := .lst []) nF
  have naF : a ≠ F := ne_of_none ha2 nF
  have nlF : lh ≠ F := ne_of_none hlh nF
  have nla : lh ≠ a := ne_of hlh ha2 (by intro z; cases z)
  have hHold : HoldA K A [a, F] (upd H2 F (.lst [])) a none := ⟨da, lh, sF _ _ ha2, by simp [nlF, nla], sF _ _ hlh⟩
  have hMOk : MOk [a, F] (upd H2 F (.lst [])) := fun b hb => by
    rcases List.mem_cons.mp hb with hb | hb
    · rw [hb]; exact ⟨_, sF _ _ ha2, trivial⟩
    · rw [List.mem_singleton] at hb
      rw [hb]; exact ⟨_, upd_same, trivial⟩
  refine ⟨AnW K A l a F ds H, ⟨_, [], ds, none, [], none, none, none, none, none, none, rfl, rfl, rfl, s2.trans sF, upd_same, rfl, hHold, hMOk, naF⟩, ?_⟩
  rintro m σ H5 ⟨pre, rest, st, out, u4, u5, u6, u7, u8, u9, rfl, rfl, rfl, s05, hF5, hplay, hH5, hM5, _⟩
  have hl5 := s05.seq hl
  have elen : (nvs (encAll (pre ++ rest))).length = (encAll pre).length + (encAll rest).length := by
    rw [nvs_len]; unfold encAll; rw [List.flatMap_append, List.length_append]
  refine ⟨_, rfl, _, rfl, l, _, rfl, .inl hl5, _, _, rfl, rfl, _, rfl, ?_⟩
  rw [elen]
  cases rest with
  | nil =>
    refine ite_f (by rw [decide_eq_false_iff_not]; show ¬ (((encAll pre).length : Int) < (((encAll pre).length + 0 : Nat) : Int)); omega) ?_
    rw [show playO none (pre ++ []) = out from by rw [hplay]; exact List.append_nil _] at hq
    exact ⟨_, rfl, hq F H5 hF5⟩
  | cons d r =>
    have hd : DcOk d := hok d (by simp)
    have encl : (encAll (d :: r)) = d.enc ++ encAll r := rfl
    have all_eq : encAll (pre ++ d :: r) = encAll pre ++ (d.enc ++ encAll r) := by unfold encAll; rw [List.flatMap_append]; rfl
    generalize hat : (encAll pre).length = at0' at *
    have at_i : ∀ (j v : Nat), d.enc[j]? = some v → (nvs (encAll (pre ++ d :: r)))[at0' + j]? = some (.int (v : Int)) := fun j v h => by
      unfold nvs
      rw [List.getElem?_map, all_eq, List.getElem?_append_right (by omega), hat, Nat.add_sub_cancel_left, List.getElem?_append_left (List.getElem?_eq_some_iff.mp h).1, h]
      rfl
    have epos : 1 ≤ d.enc.length := by unfold Dc.enc; rw [List.length_cons]; omega
    refine ite_t (by rw [decide_eq_true_eq, encl, List.length_append]; omega) ?_
    obtain ⟨c, ns, bs, C⟩ := d
    have hd : CallIs c ns bs C := hd
    have hna := numbers_at hd
    have henc : Dc.enc ⟨c, ns, bs, C⟩ = c :: (ns ++ (if c = 0 ∨ c = 5 then bs.length :: bs else [])) := rfl
    have hbs0 : ¬ (c = 0 ∨ c = 5) → bs = [] := fun hc => by
      cases hd with
      | read => exact absurd (.inl rfl) hc
      | same => exact absurd (.inr rfl) hc
      | form => rfl
      | counts => rfl
      | sounds => rfl
      | bars => rfl
      | place => rfl
    refine ⟨fun σ' H' => ∃ m', m' < (Dc.mk c ns bs C :: r).length ∧ AnW K A l a F (pre ++ Dc.mk c ns bs C :: r) H m' σ' H', fun _ _ h => h, ?_⟩
    have g0 := at_i 0 c (by rw [henc]; rfl)
    rw [Nat.add_zero] at g0
    refine ⟨_, rfl, _, rfl, l, _, _, _, rfl, rfl, hl5, atI_nat g0, ?_⟩
    refine ⟨_, rfl, _, _, rfl, rfl, _, rfl, A.t_NUMBERS, _, _, _, rfl, rfl, T.q_NUMBERS.sq, atI_nat hna, _, _, rfl, rfl, ?_⟩
    have els : (encAll (pre ++ Dc.mk c ns bs C :: r)).length = at0' + (1 + ns.length + (if c = 0 ∨ c = 5 then 1 + bs.length else 0)) + (encAll r).length := by
      have := elen
      rw [nvs_len] at this
      rw [this, encl, List.length_append, henc, List.length_cons, List.length_append]
      split
      · rw [List.length_cons]; omega
      · rw [List.length_nil]; omega
    have cut_seg : ∀ (x y z : List Nat) (i k : Nat), encAll (pre ++ Dc.mk c ns bs C :: r) = x ++ (y ++ z) → x.length = i → y.length = k → ((nvs (encAll (pre ++ Dc.mk c ns bs C :: r))).drop i).take k = nvs y := fun x y z i k e hi hk => by
      unfold nvs
      rw [← List.map_drop, ← List.map_take, seg e hi hk]
    have lxs : (nvs (encAll (pre ++ Dc.mk c ns bs C :: r))).length = at0' + (1 + ns.length + (if c = 0 ∨ c = 5 then 1 + bs.length else 0)) + (encAll r).length := by rw [nvs_len]; exact els
    have hsome := cut_seg (encAll pre ++ [c]) ns ((if c = 0 ∨ c = 5 then bs.length :: bs else []) ++ encAll r) (at0' + 1) ns.length (by rw [all_eq, henc]; simp) (by rw [List.length_append, hat]; rfl) rfl
    generalize hXS : nvs (encAll (pre ++ Dc.mk c ns bs C :: r)) = XS at *
    have en1 : ((at0' : Int) + 1 + (ns.length : Int)) = ((at0' + 1 + ns.length : Nat) : Int) := by omega
    refine ⟨_, rfl, _, rfl, _, _, rfl, rfl, _, rfl, _, rfl, _, rfl, l, XS, rfl, hl5, fun p6 np6 => ?_⟩
    rw [cut_nat XS (i := at0' + 1) (j := at0' + 1 + ns.length) (by omega) (by omega) (by rw [lxs]; omega) (by rw [lxs]; omega), Nat.add_sub_cancel_left, hsome]
    have s6 := same_new (o := .lst (nvs ns)) np6
    refine ⟨by show 0 ≤ sizeLine; decide, fun p7 np7 => ?_⟩
    have s7 := same_new (o := .lst []) np7
    have s67 := s6.trans s7
    have hp6 := s7 _ _ (upd_same (H := H5) (a := p6) (o := .lst (nvs ns)))
    have hp7 := upd_same (H := upd H5 p6 (.lst (nvs ns))) (a := p7) (o := .lst [])
    refine if_text (b1 := at0' + 1 + ns.length) (c := c) (bs := bs) (xs := XS) (by rw [← en1]; rfl) (s67.seq hl5) hp7 (fun hc => ⟨?_, ?_, ?_⟩) hbs0 fun H8 t u8' s8 ht => ?_
    · have := at_i (1 + ns.length) bs.length (by rw [henc, if_pos hc, Nat.add_comm 1 ns.length, List.getElem?_cons_succ, List.getElem?_append_right (Nat.le_refl _), Nat.sub_self]; rfl)
      rw [show at0' + 1 + ns.length = at0' + (1 + ns.length) by omega]
      exact this
    · exact cut_seg (encAll pre ++ [c] ++ ns ++ [bs.length]) bs (encAll r) (at0' + 1 + ns.length + 1) bs.length (by rw [all_eq, henc, if_pos hc]; simp) (by simp only [List.length_append, List.length_cons, List.length_nil, hat]) rfl
    · rw [if_pos hc] at lxs; omega
    have s68 := s67.trans s8
    have hH8 := hH5.same s68
    have hM8 : MOk [a, F] H8 := hM5.sb (M' := []) (SB.of s68)
    obtain ⟨dx8, lh8, ha8, _⟩ := id hH8
    refine ⟨_, rfl, a, dx8, _, rfl, ha8, l_Holder_answer, _, rfl, _, rfl, _, rfl, ?_⟩
    refine ⟨_, _, _, _, rfl, a, [a, F], st, c, p6, ns, t, bs, C, rfl, rfl, rfl, rfl, hH8, by simp, hM8, s8 _ _ hp6, ht, hd, fun p9 H9 np9 z9 hh9 hp9 => ?_⟩
    have hF9 : H9 F = some (.lst (ivs out)) := z9.at (s68 _ _ hF5) (by simpa using Ne.symm naF)
    have hM9 := hM8.sb z9
    have hplay2 : playO none (pre ++ Dc.mk c ns bs C :: r) = out ++ (((outA (Sx62.step st C).2).length : Int) :: (outA (Sx62.step st C).2 ++ playO (Sx62.step st C).1 r)) := hplay
    have hbd : out.length + (1 + ((outA (Sx62.step st C).2).length + (playO (Sx62.step st C).1 r).length)) ≤ 10000000 := by
      have h := hshort
      rw [hplay2, List.length_append, List.length_cons, List.length_append] at h
      omega
    generalize hO : outA (Sx62.step st C).2 = O at *
    have n9F : p9 ≠ F := fun e => by
      have := s68 _ _ hF5
      rw [← e, np9] at this; cases this
    refine ⟨_, rfl, .inl ⟨rfl, _, SqL.of hF9⟩, _, rfl, p9, _, rfl, .inl (SqL.of hp9), F, _, _, rfl, rfl, hF9, by rw [ivs_len, sizeLine_eq]; omega, ?_⟩
    have su1 : SB [F] H9 (upd H9 F (.lst (ivs out ++ [V.int ((ivs O).length : Int)]))) := SB.upd hF9 trivial trivial (by simp)
    have hp9' := su1.at hp9 (by simpa using n9F)
    have hFa := upd_same (H := H9) (a := F) (o := .lst (ivs out ++ [V.int ((ivs O).length : Int)]))
    have hh10 := hh9.updF (ys := ivs out ++ [V.int ((ivs O).length : Int)]) hF9 (by simp)
    have hM10 := hM9.sb su1
    refine ⟨_, rfl, .inl ⟨rfl, _, SqL.of hFa⟩, _, rfl, F, p9, _, _, rfl, rfl, hFa, hp9', by rw [List.length_append, ivs_len, ivs_len, sizeLine_eq]; simp only [List.length_cons, List.length_nil]; omega, ?_⟩
    have su2 : SB [F] (upd H9 F (.lst (ivs out ++ [V.int ((ivs O).length : Int)]))) (upd (upd H9 F (.lst (ivs out ++ [V.int ((ivs O).length : Int)]))) F (.lst (ivs out ++ [V.int ((ivs O).length : Int)] ++ ivs O))) := SB.upd hFa trivial trivial (by simp)
    have hh11 := hh10.updF (ys := ivs out ++ [V.int ((ivs O).length : Int)] ++ ivs O) hFa (by simp)
    have hM11 := hM10.sb su2
    have hpl : (encAll (pre ++ [Dc.mk c ns bs C])).length = if c = 0 ∨ c = 5 then at0' + 1 + ns.length + 1 + bs.length else at0' + 1 + ns.length := by
      have e : encAll (pre ++ [Dc.mk c ns bs C]) = encAll pre ++ Dc.enc ⟨c, ns, bs, C⟩ := by unfold encAll; rw [List.flatMap_append]; simp
      rw [e, List.length_append, hat, henc, List.length_cons, List.length_append]
      split
      · rw [List.length_cons]; omega
      · rw [List.length_nil]; omega
    refine ⟨_, rfl, r.length, Nat.lt_succ_self _, pre ++ [Dc.mk c ns bs C], r, (Sx62.step st C).1, out ++ ((O.length : Int) :: O), some (V.int (c : Int)), some (V.int ((if c = 0 ∨ c = 5 then at0' + 1 + ns.length + 1 + bs.length else at0' + 1 + ns.length : Nat) : Int)), some (V.ref p6), some (V.ref t), u8', some (V.ref p9), rfl, ?_, by simp, fun b o e => ?_, ?_, ?_, hh11, hM11, naF⟩
    · rw [hpl]; rfl
    · have nb := ne_of_none e na
      have nbF := ne_of_none e (s2.free nF)
      rw [upd_ne nbF, upd_ne nbF]
      exact z9.at (s68 _ _ (s05 _ _ e)) (by simpa using nb)
    · rw [upd_same, ivs_append, ivs_len]
      show some (HO.lst (ivs out ++ [V.int (O.length : Int)] ++ ivs O)) = some (HO.lst (ivs out ++ (V.int (O.length : Int) :: ivs O)))
      simp
    · rw [hplay2]; simp
end
end Sc

set_option Elab.async false
set_option linter.all false
set_option maxRecDepth 100000
set_option maxHeartbeats 4000000
/-! # a request, and what's due -/
namespace Sc
open PySem PySem.Spec PyProof.Rows L2 Pf Zq
theorem nis_nats {l : List Int} (h : ∀ z ∈ l, 0 ≤ z) : nis (Sx62Neutral.nats l) = l := by
  induction l with
  | nil => rfl
  | cons z l ih =>
    have e : nis (Sx62Neutral.nats (z :: l)) = (z.toNat : Int) :: nis (Sx62Neutral.nats l) := rfl
    rw [e, ih fun y hy => h y (List.mem_cons_of_mem _ hy), Int.toNat_of_nonneg (h z List.mem_cons_self)]
theorem nats_len (l : List Int) : (Sx62Neutral.nats l).length = l.length := List.length_map ..
theorem small_pos {l : List Int} (h : l.all Sx62Neutral.small = true) : ∀ z ∈ l, 0 ≤ z := fun z hz => by
  have := List.all_eq_true.mp h z hz
  unfold Sx62Neutral.small at this
  exact of_decide_eq_true (Bool.and_eq_true_iff.mp this).1
theorem told_out (a : Sx62.Ans) : Sx62Neutral.told a = outA a := rfl
theorem step_of {c : List (List Int)} {C : Sx62.Call} (h : Sx62Neutral.callOf (c.headD []) = some C) (s : Sx62.State) : Sx62Neutral.step s c = ((Sx62.step s C).1, outA (Sx62.step s C).2) := by
  unfold Sx62Neutral.step
  rw [h]
  rfl
theorem call_dc {c : List (List Int)} (h : PyFlat.okCall PySx62.shape c) (ha : Sx62Neutral.asked1 ((PySx62.whole c).headD []) = true) : ∃ d : Dc, PyFlat.put1 c = nis d.enc ∧ DcOk d ∧ d.enc.length ≤ 2003 ∧ ∀ s, Sx62Neutral.step s (PySx62.whole c) = ((Sx62.step s d.C).1, outA (Sx62.step s d.C).2) := by
  obtain ⟨p, a, xs, rfl, hs⟩ := h
  unfold Sx62Neutral.asked1 at ha
  obtain ⟨ha1, ha2⟩ := Bool.and_eq_true_iff.mp ha
  obtain ⟨ha2, ha3⟩ := Bool.and_eq_true_iff.mp ha2
  obtain ⟨ha3, _⟩ := Bool.and_eq_true_iff.mp ha3
  have hpos := small_pos ha2
  have hlen := of_decide_eq_true ha3
  clear ha ha1 ha2 ha3
  unfold PySx62.shape at hs
  split at hs
  · rename_i e; subst e
    have hs := Option.some.inj hs
    obtain ⟨e1, e2⟩ := Prod.mk.inj hs
    cases a with
    | cons _ _ => cases e1
    | nil =>
      match xs, e2 with
      | [r0], _ =>
        have hp : ∀ z ∈ r0, 0 ≤ z := fun z hz => hpos z (by show z ∈ (0 :: r0 : List Int); exact List.mem_cons_of_mem _ hz)
        have hl : r0.length + 1 ≤ 2001 := hlen
        refine ⟨⟨0, [], Sx62Neutral.nats r0, .read (Sx62Neutral.nats r0)⟩, ?_, .read _, ?_, fun s => step_of rfl s⟩
        · show (0 : Int) :: ((r0.length : Int) :: r0 ++ []) = nis (0 :: ([] ++ ((Sx62Neutral.nats r0).length :: Sx62Neutral.nats r0)))
          have e : nis (0 :: ([] ++ ((Sx62Neutral.nats r0).length :: Sx62Neutral.nats r0))) = (0 : Int) :: ((Sx62Neutral.nats r0).length : Int) :: nis (Sx62Neutral.nats r0) := rfl
          rw [e, nis_nats hp, nats_len]
          simp
        · show ((Sx62Neutral.nats r0).length + 1) + 1 ≤ 2003
          rw [nats_len]; omega
  · split at hs
    · rename_i e; subst e
      obtain ⟨e1, e2⟩ := Prod.mk.inj (Option.some.inj hs)
      cases a with
      | cons _ _ => cases e1
      | nil =>
        cases xs with
        | cons _ _ => cases e2
        | nil => exact ⟨⟨1, [], [], .form⟩, rfl, .form, by show 1 ≤ 2003; decide, fun s => step_of rfl s⟩
    · split at hs
      · rename_i e; subst e
        obtain ⟨e1, e2⟩ := Prod.mk.inj (Option.some.inj hs)
        cases a with
        | cons _ _ => cases e1
        | nil =>
          cases xs with
          | cons _ _ => cases e2
          | nil => exact ⟨⟨2, [], [], .counts⟩, rfl, .counts, by show 1 ≤ 2003; decide, fun s => step_of rfl s⟩
      · split at hs
        · rename_i e; subst e
          obtain ⟨e1, e2⟩ := Prod.mk.inj (Option.some.inj hs)
          cases xs with
          | cons _ _ => cases e2
          | nil =>
            match a, e1 with
            | [v], _ =>
              have hv : 0 ≤ v := hpos v (by show v ∈ ([3, v] : List Int); simp)
              refine ⟨⟨3, [v.toNat], [], .sounds v.toNat⟩, ?_, .sounds _, by show 2 ≤ 2003; decide, fun s => step_of rfl s⟩
              show [(3 : Int), v] = [((3 : Nat) : Int), (v.toNat : Int)]
              rw [Int.toNat_of_nonneg hv]; rfl
        · split at hs
          · rename_i e; subst e
            obtain ⟨e1, e2⟩ := Prod.mk.inj (Option.some.inj hs)
            cases a with
            | cons _ _ => cases e1
            | nil =>
              cases xs with
              | cons _ _ => cases e2
              | nil => exact ⟨⟨4, [], [], .bars⟩, rfl, .bars, by show 1 ≤ 2003; decide, fun s => step_of rfl s⟩
          · split at hs
            · rename_i e; subst e
              obtain ⟨e1, e2⟩ := Prod.mk.inj (Option.some.inj hs)
              cases a with
              | cons _ _ => cases e1
              | nil =>
                match xs, e2 with
                | [r0], _ =>
                  have hp : ∀ z ∈ r0, 0 ≤ z := fun z hz => hpos z (by show z ∈ (5 :: r0 : List Int); exact List.mem_cons_of_mem _ hz)
                  have hl : r0.length + 1 ≤ 2001 := hlen
                  refine ⟨⟨5, [], Sx62Neutral.nats r0, .same (Sx62Neutral.nats r0)⟩, ?_, .same _, ?_, fun s => step_of rfl s⟩
                  · show (5 : Int) :: ((r0.length : Int) :: r0 ++ []) = nis (5 :: ([] ++ ((Sx62Neutral.nats r0).length :: Sx62Neutral.nats r0)))
                    have e : nis (5 :: ([] ++ ((Sx62Neutral.nats r0).length :: Sx62Neutral.nats r0))) = (5 : Int) :: ((Sx62Neutral.nats r0).length : Int) :: nis (Sx62Neutral.nats r0) := rfl
                    rw [e, nis_nats hp, nats_len]
                    simp
                  · show ((Sx62Neutral.nats r0).length + 1) + 1 ≤ 2003
                    rw [nats_len]; omega
            · split at hs
              · rename_i e; subst e
                obtain ⟨e1, e2⟩ := Prod.mk.inj (Option.some.inj hs)
                cases xs with
                | cons _ _ => cases e2
                | nil =>
                  match a, e1 with
                  | [n, d], _ =>
                    have hn : 0 ≤ n := hpos n (by show n ∈ ([6, n, d] : List Int); simp)
                    have hd : 0 ≤ d := hpos d (by show d ∈ ([6, n, d] : List Int); simp)
                    refine ⟨⟨6, [n.toNat, d.toNat], [], .place n.toNat d.toNat⟩, ?_, .place _ _, by show 3 ≤ 2003; decide, fun s => step_of rfl s⟩
                    show [(6 : Int), n, d] = [((6 : Nat) : Int), (n.toNat : Int), (d.toNat : Int)]
                    rw [Int.toNat_of_nonneg hn, Int.toNat_of_nonneg hd]; rfl
              · cases hs
theorem calls_dc : ∀ raw : List (List (List Int)), (∀ c ∈ raw, PyFlat.okCall PySx62.shape c) → (∀ c ∈ raw, Sx62Neutral.asked1 ((PySx62.whole c).headD []) = true) → ∃ ds : List Dc, PyFlat.put raw = nis (encAll ds) ∧ (∀ d ∈ ds, DcOk d) ∧ (encAll ds).length ≤ 2003 * raw.length ∧ ∀ s, PyFlat.told (PyFlat.played Sx62Neutral.step s (raw.map PySx62.whole)) = playO s ds
  | [], _, _ => ⟨[], rfl, (fun _ h => by cases h), Nat.zero_le _, fun _ => rfl⟩
  | c :: raw, h1, h2 => by
    obtain ⟨d, e1, e2, e3, e4⟩ := call_dc (h1 c List.mem_cons_self) (h2 c List.mem_cons_self)
    obtain ⟨ds, f1, f2, f3, f4⟩ := calls_dc raw (fun x hx => h1 x (List.mem_cons_of_mem _ hx)) fun x hx => h2 x (List.mem_cons_of_mem _ hx)
    refine ⟨d :: ds, ?_, fun x hx => ?_, ?_, fun s => ?_⟩
    · show PyFlat.put1 c ++ PyFlat.put raw = nis (d.enc ++ encAll ds)
      rw [e1, f1]
      unfold nis
      rw [List.map_append]
    · rcases List.mem_cons.mp hx with hx | hx
      · rw [hx]; exact e2
      · exact f2 x hx
    · show (d.enc ++ encAll ds).length ≤ _
      rw [List.length_append, List.length_cons]; omega
    · show ((Sx62Neutral.step s (PySx62.whole c)).2.length : Int) :: ((Sx62Neutral.step s (PySx62.whole c)).2 ++ PyFlat.told (PyFlat.played Sx62Neutral.step (Sx62Neutral.step s (PySx62.whole c)).1 (raw.map PySx62.whole))) = _
      rw [e4 s, f4]
      rfl
theorem asked_dc {l : List Int} (h : PySx62.answers_asked l = true) : ∃ ds : List Dc, l = nis (encAll ds) ∧ (∀ d ∈ ds, DcOk d) ∧ (encAll ds).length ≤ 10000000 ∧ (playO none ds).length ≤ 10000000 ∧ PySx62.answers l = playO none ds := by
  unfold PySx62.answers_asked at h
  cases hc : PyFlat.calls PySx62.shape l.length l with
  | none => rw [hc] at h; cases h
  | some raw =>
    rw [hc] at h
    simp only at h
    obtain ⟨h, h5⟩ := Bool.and_eq_true_iff.mp h
    obtain ⟨h, h4⟩ := Bool.and_eq_true_iff.mp h
    obtain ⟨h, h3⟩ := Bool.and_eq_true_iff.mp h
    obtain ⟨h1, h2⟩ := Bool.and_eq_true_iff.mp h
    obtain ⟨p1, p2⟩ := PyFlat.put_calls _ _ _ hc
    unfold Sx62Neutral.asked at h4
    obtain ⟨_, h4⟩ := Bool.and_eq_true_iff.mp h4
    obtain ⟨_, h4⟩ := Bool.and_eq_true_iff.mp h4
    obtain ⟨h4, _⟩ := Bool.and_eq_true_iff.mp h4
    have ha : ∀ c ∈ raw, Sx62Neutral.asked1 ((PySx62.whole c).headD []) = true := fun c hcm => by
      have := List.all_eq_true.mp h4 (PySx62.whole c) (List.mem_map.mpr ⟨c, hcm, rfl⟩)
      exact (Bool.and_eq_true_iff.mp this).2
    obtain ⟨ds, e1, e2, e3, e4⟩ := calls_dc raw p2 ha
    have hlen : raw.length ≤ 30 := of_decide_eq_true h2
    have hans : PySx62.answers l = playO none ds := by
      unfold PySx62.answers PySx62.calls
      rw [hc]
      exact e4 none
    refine ⟨ds, by rw [p1]; exact e1, e2, by omega, ?_, hans⟩
    rw [← hans]
    exact of_decide_eq_true h5
end Sc

set_option Elab.async false
set_option linter.all false
set_option maxRecDepth 100000
set_option maxHeartbeats 4000000
/-! # what the top has written -/
namespace Sc
open PySem PySem.Spec PyProof.Rows L2 Pf Zq
def sp_fin (K : PySem.W.Frag) : Sp := sp1 fun x H Q _ => ∃ (l : Addr) (ds : List Dc), x = .ref l ∧ SqL K H l (nvs (encAll ds)) ∧ (∀ d ∈ ds, DcOk d) ∧ (encAll ds).length ≤ 10000000 ∧ (playO none ds).length ≤ 10000000 ∧ ∀ p H', H' p = some (.lst (ivs (playO none ds))) → Q (.ref p) H'
theorem all_mk {K : PySem.W.Frag} {h : Heap} {mg : Str → Option Value} {fa : Addr} (X : K.In h) (G : h.Ns mainGlobals mg) (hfa : mg "answers" = some (.ref fa))
    {a_common a_lowest a_plus a_less a_times a_is_below a_total a_bad_byte a_words_of a_number_in a_is_from a_metre_in a_is_key a_is_name a_pitch_in a_pitch_word a_length_in a_note_in a_rest_in a_chord_end_in a_tuplet_in a_Faulty_init a_Event_init a_Bar_init a_Bar_length a_Voice_init a_Voice_all_events a_Score_init a_Reader_init a_Reader_look a_Reader_here a_Reader_want a_Reader_take a_Reader_take_word a_Reader_score a_Reader_voice a_Reader_bar a_Reader_piece_word a_Reader_one_more a_Reader_put a_Reader_single a_Reader_chord a_want_bars a_want_ties a_want_alike a_read_score a_form_of a_counts_of a_begins_of a_bars_of a_is_going_on a_sound_length a_sounds_of a_place_of a_Refused_init a_want a_told a_Holder_init a_Holder_score a_Holder_read a_Holder_form a_Holder_sounds a_Holder_bars_told a_Holder_same a_Holder_place_told a_Holder_called a_Holder_answer a_answers C_Faulty C_Event C_Bar C_Voice C_Score C_Reader C_Refused C_Holder t_NOUGHT t_ONE t_ACCIDENTALS t_METRE_PARTS t_KINDS t_DOTTED t_DOTTED0 t_DOTTED1 t_DOTTED2 t_NUMBERS : Addr}
    {oc_common kV_common dc_common pm_common cd_common ct_common oc_lowest kV_lowest dc_lowest pm_lowest cd_lowest ct_lowest oc_plus kV_plus dc_plus pm_plus cd_plus ct_plus oc_less kV_less dc_less pm_less cd_less ct_less oc_times kV_times dc_times pm_times cd_times ct_times oc_is_below kV_is_below dc_is_below pm_is_below cd_is_below ct_is_below oc_total kV_total dc_total pm_total cd_total ct_total oc_bad_byte kV_bad_byte dc_bad_byte pm_bad_byte cd_bad_byte ct_bad_byte oc_words_of kV_words_of dc_words_of pm_words_of cd_words_of ct_words_of oc_number_in kV_number_in dc_number_in pm_number_in cd_number_in ct_number_in oc_is_from kV_is_from dc_is_from pm_is_from cd_is_from ct_is_from oc_metre_in kV_metre_in dc_metre_in pm_metre_in cd_metre_in ct_metre_in oc_is_key kV_is_key dc_is_key pm_is_key cd_is_key ct_is_key oc_is_name kV_is_name dc_is_name pm_is_name cd_is_name ct_is_name oc_pitch_in kV_pitch_in dc_pitch_in pm_pitch_in cd_pitch_in ct_pitch_in oc_pitch_word kV_pitch_word dc_pitch_word pm_pitch_word cd_pitch_word ct_pitch_word oc_length_in kV_length_in dc_length_in pm_length_in cd_length_in ct_length_in oc_note_in kV_note_in dc_note_in pm_note_in cd_note_in ct_note_in oc_rest_in kV_rest_in dc_rest_in pm_rest_in cd_rest_in ct_rest_in oc_chord_end_in kV_chord_end_in dc_chord_end_in pm_chord_end_in cd_chord_end_in ct_chord_end_in oc_tuplet_in kV_tuplet_in dc_tuplet_in pm_tuplet_in cd_tuplet_in ct_tuplet_in oc_Faulty_init kV_Faulty_init dc_Faulty_init pm_Faulty_init cd_Faulty_init ct_Faulty_init oc_Event_init kV_Event_init dc_Event_init pm_Event_init cd_Event_init ct_Event_init oc_Bar_init kV_Bar_init dc_Bar_init pm_Bar_init cd_Bar_init ct_Bar_init oc_Bar_length kV_Bar_length dc_Bar_length pm_Bar_length cd_Bar_length ct_Bar_length oc_Voice_init kV_Voice_init dc_Voice_init pm_Voice_init cd_Voice_init ct_Voice_init oc_Voice_all_events kV_Voice_all_events dc_Voice_all_events pm_Voice_all_events cd_Voice_all_events ct_Voice_all_events oc_Score_init kV_Score_init dc_Score_init pm_Score_init cd_Score_init ct_Score_init oc_Reader_init kV_Reader_init dc_Reader_init pm_Reader_init cd_Reader_init ct_Reader_init oc_Reader_look kV_Reader_look dc_Reader_look pm_Reader_look cd_Reader_look ct_Reader_look oc_Reader_here kV_Reader_here dc_Reader_here pm_Reader_here cd_Reader_here ct_Reader_here oc_Reader_want kV_Reader_want dc_Reader_want pm_Reader_want cd_Reader_want ct_Reader_want oc_Reader_take kV_Reader_take dc_Reader_take pm_Reader_take cd_Reader_take ct_Reader_take oc_Reader_take_word kV_Reader_take_word dc_Reader_take_word pm_Reader_take_word cd_Reader_take_word ct_Reader_take_word oc_Reader_score kV_Reader_score dc_Reader_score pm_Reader_score cd_Reader_score ct_Reader_score oc_Reader_voice kV_Reader_voice dc_Reader_voice pm_Reader_voice cd_Reader_voice ct_Reader_voice oc_Reader_bar kV_Reader_bar dc_Reader_bar pm_Reader_bar cd_Reader_bar ct_Reader_bar oc_Reader_piece_word kV_Reader_piece_word dc_Reader_piece_word pm_Reader_piece_word cd_Reader_piece_word ct_Reader_piece_word oc_Reader_one_more kV_Reader_one_more dc_Reader_one_more pm_Reader_one_more cd_Reader_one_more ct_Reader_one_more oc_Reader_put kV_Reader_put dc_Reader_put pm_Reader_put cd_Reader_put ct_Reader_put oc_Reader_single kV_Reader_single dc_Reader_single pm_Reader_single cd_Reader_single ct_Reader_single oc_Reader_chord kV_Reader_chord dc_Reader_chord pm_Reader_chord cd_Reader_chord ct_Reader_chord oc_want_bars kV_want_bars dc_want_bars pm_want_bars cd_want_bars ct_want_bars oc_want_ties kV_want_ties dc_want_ties pm_want_ties cd_want_ties ct_want_ties oc_want_alike kV_want_alike dc_want_alike pm_want_alike cd_want_alike ct_want_alike oc_read_score kV_read_score dc_read_score pm_read_score cd_read_score ct_read_score oc_form_of kV_form_of dc_form_of pm_form_of cd_form_of ct_form_of oc_counts_of kV_counts_of dc_counts_of pm_counts_of cd_counts_of ct_counts_of oc_begins_of kV_begins_of dc_begins_of pm_begins_of cd_begins_of ct_begins_of oc_bars_of kV_bars_of dc_bars_of pm_bars_of cd_bars_of ct_bars_of oc_is_going_on kV_is_going_on dc_is_going_on pm_is_going_on cd_is_going_on ct_is_going_on oc_sound_length kV_sound_length dc_sound_length pm_sound_length cd_sound_length ct_sound_length oc_sounds_of kV_sounds_of dc_sounds_of pm_sounds_of cd_sounds_of ct_sounds_of oc_place_of kV_place_of dc_place_of pm_place_of cd_place_of ct_place_of oc_Refused_init kV_Refused_init dc_Refused_init pm_Refused_init cd_Refused_init ct_Refused_init oc_want kV_want dc_want pm_want cd_want ct_want oc_told kV_told dc_told pm_told cd_told ct_told oc_Holder_init kV_Holder_init dc_Holder_init pm_Holder_init cd_Holder_init ct_Holder_init oc_Holder_score kV_Holder_score dc_Holder_score pm_Holder_score cd_Holder_score ct_Holder_score oc_Holder_read kV_Holder_read dc_Holder_read pm_Holder_read cd_Holder_read ct_Holder_read oc_Holder_form kV_Holder_form dc_Holder_form pm_Holder_form cd_Holder_form ct_Holder_form oc_Holder_sounds kV_Holder_sounds dc_Holder_sounds pm_Holder_sounds cd_Holder_sounds ct_Holder_sounds oc_Holder_bars_told kV_Holder_bars_told dc_Holder_bars_told pm_Holder_bars_told cd_Holder_bars_told ct_Holder_bars_told oc_Holder_same kV_Holder_same dc_Holder_same pm_Holder_same cd_Holder_same ct_Holder_same oc_Holder_place_told kV_Holder_place_told dc_Holder_place_told pm_Holder_place_told cd_Holder_place_told ct_Holder_place_told oc_Holder_called kV_Holder_called dc_Holder_called pm_Holder_called cd_Holder_called ct_Holder_called oc_Holder_answer kV_Holder_answer dc_Holder_answer pm_Holder_answer cd_Holder_answer ct_Holder_answer oc_answers kV_answers dc_answers pm_answers cd_answers ct_answers : Value}
    {od_common an_common od_lowest an_lowest od_plus an_plus od_less an_less od_times an_times od_is_below an_is_below od_total an_total od_bad_byte an_bad_byte od_words_of an_words_of od_number_in an_number_in od_is_from an_is_from od_metre_in an_metre_in od_is_key an_is_key od_is_name an_is_name od_pitch_in an_pitch_in od_pitch_word an_pitch_word od_length_in an_length_in od_note_in an_note_in od_rest_in an_rest_in od_chord_end_in an_chord_end_in od_tuplet_in an_tuplet_in od_Faulty_init an_Faulty_init od_Event_init an_Event_init od_Bar_init an_Bar_init od_Bar_length an_Bar_length od_Voice_init an_Voice_init od_Voice_all_events an_Voice_all_events od_Score_init an_Score_init od_Reader_init an_Reader_init od_Reader_look an_Reader_look od_Reader_here an_Reader_here od_Reader_want an_Reader_want od_Reader_take an_Reader_take od_Reader_take_word an_Reader_take_word od_Reader_score an_Reader_score od_Reader_voice an_Reader_voice od_Reader_bar an_Reader_bar od_Reader_piece_word an_Reader_piece_word od_Reader_one_more an_Reader_one_more od_Reader_put an_Reader_put od_Reader_single an_Reader_single od_Reader_chord an_Reader_chord od_want_bars an_want_bars od_want_ties an_want_ties od_want_alike an_want_alike od_read_score an_read_score od_form_of an_form_of od_counts_of an_counts_of od_begins_of an_begins_of od_bars_of an_bars_of od_is_going_on an_is_going_on od_sound_length an_sound_length od_sounds_of an_sounds_of od_place_of an_place_of od_Refused_init an_Refused_init od_want an_want od_told an_told od_Holder_init an_Holder_init od_Holder_score an_Holder_score od_Holder_read an_Holder_read od_Holder_form an_Holder_form od_Holder_sounds an_Holder_sounds od_Holder_bars_told an_Holder_bars_told od_Holder_same an_Holder_same od_Holder_place_told an_Holder_place_told od_Holder_called an_Holder_called od_Holder_answer an_Holder_answer od_answers an_answers : Option Addr} {sl_common sl_lowest sl_plus sl_less sl_times sl_is_below sl_total sl_bad_byte sl_words_of sl_number_in sl_is_from sl_metre_in sl_is_key sl_is_name sl_pitch_in sl_pitch_word sl_length_in sl_note_in sl_rest_in sl_chord_end_in sl_tuplet_in sl_Faulty_init sl_Event_init sl_Bar_init sl_Bar_length sl_Voice_init sl_Voice_all_events sl_Score_init sl_Reader_init sl_Reader_look sl_Reader_here sl_Reader_want sl_Reader_take sl_Reader_take_word sl_Reader_score sl_Reader_voice sl_Reader_bar sl_Reader_piece_word sl_Reader_one_more sl_Reader_put sl_Reader_single sl_Reader_chord sl_want_bars sl_want_ties sl_want_alike sl_read_score sl_form_of sl_counts_of sl_begins_of sl_bars_of sl_is_going_on sl_sound_length sl_sounds_of sl_place_of sl_Refused_init sl_want sl_told sl_Holder_init sl_Holder_score sl_Holder_read sl_Holder_form sl_Holder_sounds sl_Holder_bars_told sl_Holder_same sl_Holder_place_told sl_Holder_called sl_Holder_answer sl_answers : Array (Option Value)}
    {nm_Faulty q_Faulty : Str} {N_Faulty : Addr} {bs_Faulty : List Value} {sn_Faulty : List Str} {sub_Faulty : List Value} {ab_Faulty : Bool} {col_Faulty : Option Bool} {dd_Faulty : Option Addr} {m0_Faulty m1_Faulty m2_Faulty m3_Faulty m5_Faulty : Option Value}
    {nm_Refused q_Refused : Str} {N_Refused : Addr} {bs_Refused : List Value} {sn_Refused : List Str} {sub_Refused : List Value} {ab_Refused : Bool} {col_Refused : Option Bool} {dd_Refused : Option Addr} {m0_Refused m1_Refused m2_Refused m3_Refused m5_Refused : Option Value}
    {t_c_LINE_END t_c_BLANK t_c_LAST_SIGN t_c_MOST_METRE t_c_MOST_KEY t_c_MOST_NAME t_c_MOST_FIGURES t_c_LEAST_TUPLET t_c_MOST_TUPLET t_c_BAD_BYTE t_c_BAD_WORD t_c_TOO_DEEP t_c_BAD_NAME t_c_BAD_BAR t_c_BAD_TIE t_c_UNLIKE t_c_MOST_VOICES t_c_DEEPEST t_c_LEAST_CHORD t_c_MOST_CHORD t_c_NO_SCORE t_c_BAD_NUMBER t_c_TOO_LATE t_c_HAS_FAULT t_c_TOO_LONG t_c_MOST_TEXT t_c_MOST_NUMBER t_c_READ t_c_SAME t_c_SIGNS t_c_FIGURES t_c_NAME_LETTERS t_c_LETTERS t_NOUGHT_0 t_NOUGHT_1 t_ONE_0 t_ONE_1 t_ACCIDENTALS_0 t_ACCIDENTALS_1 t_ACCIDENTALS_2 t_ACCIDENTALS_3 t_ACCIDENTALS_4 t_METRE_PARTS_0 t_METRE_PARTS_1 t_METRE_PARTS_2 t_METRE_PARTS_3 t_METRE_PARTS_4 t_METRE_PARTS_5 t_KINDS_0 t_KINDS_1 t_KINDS_2 t_KINDS_3 t_KINDS_4 t_KINDS_5 t_KINDS_6 t_DOTTED0_0 t_DOTTED0_1 t_DOTTED1_0 t_DOTTED1_1 t_DOTTED2_0 t_DOTTED2_1 t_NUMBERS_0 t_NUMBERS_1 t_NUMBERS_2 t_NUMBERS_3 t_NUMBERS_4 t_NUMBERS_5 t_NUMBERS_6 : Tok} {z_NOUGHT z_ONE z_ACCIDENTALS z_METRE_PARTS z_KINDS z_DOTTED z_DOTTED0 z_DOTTED1 z_DOTTED2 z_NUMBERS : Nat} {sl_q_NOUGHT sl_q_ONE sl_q_ACCIDENTALS sl_q_METRE_PARTS sl_q_KINDS sl_q_DOTTED sl_q_DOTTED0 sl_q_DOTTED1 sl_q_DOTTED2 sl_q_NUMBERS : Array (Option Value)}
    (g_common : PySem.W.nsIn K mainGlobals "common" = some (some (.ref a_common)))
    (l_common : K.lookup a_common = some ⟨oc_common, od_common, .func (PySem.W.fnOf "common" "common" (defArgs s_common) (defBody s_common) (defScope s_common) .none kV_common dc_common pm_common an_common cd_common ct_common), sl_common⟩)
    (co_common : PySem.W.codeIn K cd_common "common" = true)
    (k_common : PySem.W.keepIn K (.ref a_common) = true)
    (g_lowest : PySem.W.nsIn K mainGlobals "lowest" = some (some (.ref a_lowest)))
    (l_lowest : K.lookup a_lowest = some ⟨oc_lowest, od_lowest, .func (PySem.W.fnOf "lowest" "lowest" (defArgs s_lowest) (defBody s_lowest) (defScope s_lowest) .none kV_lowest dc_lowest pm_lowest an_lowest cd_lowest ct_lowest), sl_lowest⟩)
    (co_lowest : PySem.W.codeIn K cd_lowest "lowest" = true)
    (k_lowest : PySem.W.keepIn K (.ref a_lowest) = true)
    (g_plus : PySem.W.nsIn K mainGlobals "plus" = some (some (.ref a_plus)))
    (l_plus : K.lookup a_plus = some ⟨oc_plus, od_plus, .func (PySem.W.fnOf "plus" "plus" (defArgs s_plus) (defBody s_plus) (defScope s_plus) .none kV_plus dc_plus pm_plus an_plus cd_plus ct_plus), sl_plus⟩)
    (co_plus : PySem.W.codeIn K cd_plus "plus" = true)
    (k_plus : PySem.W.keepIn K (.ref a_plus) = true)
    (g_less : PySem.W.nsIn K mainGlobals "less" = some (some (.ref a_less)))
    (l_less : K.lookup a_less = some ⟨oc_less, od_less, .func (PySem.W.fnOf "less" "less" (defArgs s_less) (defBody s_less) (defScope s_less) .none kV_less dc_less pm_less an_less cd_less ct_less), sl_less⟩)
    (co_less : PySem.W.codeIn K cd_less "less" = true)
    (k_less : PySem.W.keepIn K (.ref a_less) = true)
    (g_times : PySem.W.nsIn K mainGlobals "times" = some (some (.ref a_times)))
    (l_times : K.lookup a_times = some ⟨oc_times, od_times, .func (PySem.W.fnOf "times" "times" (defArgs s_times) (defBody s_times) (defScope s_times) .none kV_times dc_times pm_times an_times cd_times ct_times), sl_times⟩)
    (co_times : PySem.W.codeIn K cd_times "times" = true)
    (k_times : PySem.W.keepIn K (.ref a_times) = true)
    (g_is_below : PySem.W.nsIn K mainGlobals "is_below" = some (some (.ref a_is_below)))
    (l_is_below : K.lookup a_is_below = some ⟨oc_is_below, od_is_below, .func (PySem.W.fnOf "is_below" "is_below" (defArgs s_is_below) (defBody s_is_below) (defScope s_is_below) .none kV_is_below dc_is_below pm_is_below an_is_below cd_is_below ct_is_below), sl_is_below⟩)
    (co_is_below : PySem.W.codeIn K cd_is_below "is_below" = true)
    (k_is_below : PySem.W.keepIn K (.ref a_is_below) = true)
    (g_total : PySem.W.nsIn K mainGlobals "total" = some (some (.ref a_total)))
    (l_total : K.lookup a_total = some ⟨oc_total, od_total, .func (PySem.W.fnOf "total" "total" (defArgs s_total) (defBody s_total) (defScope s_total) .none kV_total dc_total pm_total an_total cd_total ct_total), sl_total⟩)
    (co_total : PySem.W.codeIn K cd_total "total" = true)
    (k_total : PySem.W.keepIn K (.ref a_total) = true)
    (g_bad_byte : PySem.W.nsIn K mainGlobals "bad_byte" = some (some (.ref a_bad_byte)))
    (l_bad_byte : K.lookup a_bad_byte = some ⟨oc_bad_byte, od_bad_byte, .func (PySem.W.fnOf "bad_byte" "bad_byte" (defArgs s_bad_byte) (defBody s_bad_byte) (defScope s_bad_byte) .none kV_bad_byte dc_bad_byte pm_bad_byte an_bad_byte cd_bad_byte ct_bad_byte), sl_bad_byte⟩)
    (co_bad_byte : PySem.W.codeIn K cd_bad_byte "bad_byte" = true)
    (k_bad_byte : PySem.W.keepIn K (.ref a_bad_byte) = true)
    (g_words_of : PySem.W.nsIn K mainGlobals "words_of" = some (some (.ref a_words_of)))
    (l_words_of : K.lookup a_words_of = some ⟨oc_words_of, od_words_of, .func (PySem.W.fnOf "words_of" "words_of" (defArgs s_words_of) (defBody s_words_of) (defScope s_words_of) .none kV_words_of dc_words_of pm_words_of an_words_of cd_words_of ct_words_of), sl_words_of⟩)
    (co_words_of : PySem.W.codeIn K cd_words_of "words_of" = true)
    (k_words_of : PySem.W.keepIn K (.ref a_words_of) = true)
    (g_number_in : PySem.W.nsIn K mainGlobals "number_in" = some (some (.ref a_number_in)))
    (l_number_in : K.lookup a_number_in = some ⟨oc_number_in, od_number_in, .func (PySem.W.fnOf "number_in" "number_in" (defArgs s_number_in) (defBody s_number_in) (defScope s_number_in) .none kV_number_in dc_number_in pm_number_in an_number_in cd_number_in ct_number_in), sl_number_in⟩)
    (co_number_in : PySem.W.codeIn K cd_number_in "number_in" = true)
    (k_number_in : PySem.W.keepIn K (.ref a_number_in) = true)
    (g_is_from : PySem.W.nsIn K mainGlobals "is_from" = some (some (.ref a_is_from)))
    (l_is_from : K.lookup a_is_from = some ⟨oc_is_from, od_is_from, .func (PySem.W.fnOf "is_from" "is_from" (defArgs s_is_from) (defBody s_is_from) (defScope s_is_from) .none kV_is_from dc_is_from pm_is_from an_is_from cd_is_from ct_is_from), sl_is_from⟩)
    (co_is_from : PySem.W.codeIn K cd_is_from "is_from" = true)
    (k_is_from : PySem.W.keepIn K (.ref a_is_from) = true)
    (g_metre_in : PySem.W.nsIn K mainGlobals "metre_in" = some (some (.ref a_metre_in)))
    (l_metre_in : K.lookup a_metre_in = some ⟨oc_metre_in, od_metre_in, .func (PySem.W.fnOf "metre_in" "metre_in" (defArgs s_metre_in) (defBody s_metre_in) (defScope s_metre_in) .none kV_metre_in dc_metre_in pm_metre_in an_metre_in cd_metre_in ct_metre_in), sl_metre_in⟩)
    (co_metre_in : PySem.W.codeIn K cd_metre_in "metre_in" = true)
    (k_metre_in : PySem.W.keepIn K (.ref a_metre_in) = true)
    (g_is_key : PySem.W.nsIn K mainGlobals "is_key" = some (some (.ref a_is_key)))
    (l_is_key : K.lookup a_is_key = some ⟨oc_is_key, od_is_key, .func (PySem.W.fnOf "is_key" "is_key" (defArgs s_is_key) (defBody s_is_key) (defScope s_is_key) .none kV_is_key dc_is_key pm_is_key an_is_key cd_is_key ct_is_key), sl_is_key⟩)
    (co_is_key : PySem.W.codeIn K cd_is_key "is_key" = true)
    (k_is_key : PySem.W.keepIn K (.ref a_is_key) = true)
    (g_is_name : PySem.W.nsIn K mainGlobals "is_name" = some (some (.ref a_is_name)))
    (l_is_name : K.lookup a_is_name = some ⟨oc_is_name, od_is_name, .func (PySem.W.fnOf "is_name" "is_name" (defArgs s_is_name) (defBody s_is_name) (defScope s_is_name) .none kV_is_name dc_is_name pm_is_name an_is_name cd_is_name ct_is_name), sl_is_name⟩)
    (co_is_name : PySem.W.codeIn K cd_is_name "is_name" = true)
    (k_is_name : PySem.W.keepIn K (.ref a_is_name) = true)
    (g_pitch_in : PySem.W.nsIn K mainGlobals "pitch_in" = some (some (.ref a_pitch_in)))
    (l_pitch_in : K.lookup a_pitch_in = some ⟨oc_pitch_in, od_pitch_in, .func (PySem.W.fnOf "pitch_in" "pitch_in" (defArgs s_pitch_in) (defBody s_pitch_in) (defScope s_pitch_in) .none kV_pitch_in dc_pitch_in pm_pitch_in an_pitch_in cd_pitch_in ct_pitch_in), sl_pitch_in⟩)
    (co_pitch_in : PySem.W.codeIn K cd_pitch_in "pitch_in" = true)
    (k_pitch_in : PySem.W.keepIn K (.ref a_pitch_in) = true)
    (g_pitch_word : PySem.W.nsIn K mainGlobals "pitch_word" = some (some (.ref a_pitch_word)))
    (l_pitch_word : K.lookup a_pitch_word = some ⟨oc_pitch_word, od_pitch_word, .func (PySem.W.fnOf "pitch_word" "pitch_word" (defArgs s_pitch_word) (defBody s_pitch_word) (defScope s_pitch_word) .none kV_pitch_word dc_pitch_word pm_pitch_word an_pitch_word cd_pitch_word ct_pitch_word), sl_pitch_word⟩)
    (co_pitch_word : PySem.W.codeIn K cd_pitch_word "pitch_word" = true)
    (k_pitch_word : PySem.W.keepIn K (.ref a_pitch_word) = true)
    (g_length_in : PySem.W.nsIn K mainGlobals "length_in" = some (some (.ref a_length_in)))
    (l_length_in : K.lookup a_length_in = some ⟨oc_length_in, od_length_in, .func (PySem.W.fnOf "length_in" "length_in" (defArgs s_length_in) (defBody s_length_in) (defScope s_length_in) .none kV_length_in dc_length_in pm_length_in an_length_in cd_length_in ct_length_in), sl_length_in⟩)
    (co_length_in : PySem.W.codeIn K cd_length_in "length_in" = true)
    (k_length_in : PySem.W.keepIn K (.ref a_length_in) = true)
    (g_note_in : PySem.W.nsIn K mainGlobals "note_in" = some (some (.ref a_note_in)))
    (l_note_in : K.lookup a_note_in = some ⟨oc_note_in, od_note_in, .func (PySem.W.fnOf "note_in" "note_in" (defArgs s_note_in) (defBody s_note_in) (defScope s_note_in) .none kV_note_in dc_note_in pm_note_in an_note_in cd_note_in ct_note_in), sl_note_in⟩)
    (co_note_in : PySem.W.codeIn K cd_note_in "note_in" = true)
    (k_note_in : PySem.W.keepIn K (.ref a_note_in) = true)
    (g_rest_in : PySem.W.nsIn K mainGlobals "rest_in" = some (some (.ref a_rest_in)))
    (l_rest_in : K.lookup a_rest_in = some ⟨oc_rest_in, od_rest_in, .func (PySem.W.fnOf "rest_in" "rest_in" (defArgs s_rest_in) (defBody s_rest_in) (defScope s_rest_in) .none kV_rest_in dc_rest_in pm_rest_in an_rest_in cd_rest_in ct_rest_in), sl_rest_in⟩)
    (co_rest_in : PySem.W.codeIn K cd_rest_in "rest_in" = true)
    (k_rest_in : PySem.W.keepIn K (.ref a_rest_in) = true)
    (g_chord_end_in : PySem.W.nsIn K mainGlobals "chord_end_in" = some (some (.ref a_chord_end_in)))
    (l_chord_end_in : K.lookup a_chord_end_in = some ⟨oc_chord_end_in, od_chord_end_in, .func (PySem.W.fnOf "chord_end_in" "chord_end_in" (defArgs s_chord_end_in) (defBody s_chord_end_in) (defScope s_chord_end_in) .none kV_chord_end_in dc_chord_end_in pm_chord_end_in an_chord_end_in cd_chord_end_in ct_chord_end_in), sl_chord_end_in⟩)
    (co_chord_end_in : PySem.W.codeIn K cd_chord_end_in "chord_end_in" = true)
    (k_chord_end_in : PySem.W.keepIn K (.ref a_chord_end_in) = true)
    (g_tuplet_in : PySem.W.nsIn K mainGlobals "tuplet_in" = some (some (.ref a_tuplet_in)))
    (l_tuplet_in : K.lookup a_tuplet_in = some ⟨oc_tuplet_in, od_tuplet_in, .func (PySem.W.fnOf "tuplet_in" "tuplet_in" (defArgs s_tuplet_in) (defBody s_tuplet_in) (defScope s_tuplet_in) .none kV_tuplet_in dc_tuplet_in pm_tuplet_in an_tuplet_in cd_tuplet_in ct_tuplet_in), sl_tuplet_in⟩)
    (co_tuplet_in : PySem.W.codeIn K cd_tuplet_in "tuplet_in" = true)
    (k_tuplet_in : PySem.W.keepIn K (.ref a_tuplet_in) = true)
    (g_Faulty_init : PySem.W.findIn K (.ref C_Faulty) "__init__" = some (some (.ref a_Faulty_init)))
    (l_Faulty_init : K.lookup a_Faulty_init = some ⟨oc_Faulty_init, od_Faulty_init, .func (PySem.W.fnOf "__init__" "Faulty.__init__" (defArgs s_Faulty_init) (defBody s_Faulty_init) (defScope s_Faulty_init) .none kV_Faulty_init dc_Faulty_init pm_Faulty_init an_Faulty_init cd_Faulty_init ct_Faulty_init), sl_Faulty_init⟩)
    (co_Faulty_init : PySem.W.codeIn K cd_Faulty_init "Faulty.__init__" = true)
    (k_Faulty_init : PySem.W.keepIn K (.ref a_Faulty_init) = true)
    (g_Event_init : PySem.W.findIn K (.ref C_Event) "__init__" = some (some (.ref a_Event_init)))
    (l_Event_init : K.lookup a_Event_init = some ⟨oc_Event_init, od_Event_init, .func (PySem.W.fnOf "__init__" "Event.__init__" (defArgs s_Event_init) (defBody s_Event_init) (defScope s_Event_init) .none kV_Event_init dc_Event_init pm_Event_init an_Event_init cd_Event_init ct_Event_init), sl_Event_init⟩)
    (co_Event_init : PySem.W.codeIn K cd_Event_init "Event.__init__" = true)
    (k_Event_init : PySem.W.keepIn K (.ref a_Event_init) = true)
    (i_Event_init : PySem.W.isFn K (.ref a_Event_init) = true)
    (g_Bar_init : PySem.W.findIn K (.ref C_Bar) "__init__" = some (some (.ref a_Bar_init)))
    (l_Bar_init : K.lookup a_Bar_init = some ⟨oc_Bar_init, od_Bar_init, .func (PySem.W.fnOf "__init__" "Bar.__init__" (defArgs s_Bar_init) (defBody s_Bar_init) (defScope s_Bar_init) .none kV_Bar_init dc_Bar_init pm_Bar_init an_Bar_init cd_Bar_init ct_Bar_init), sl_Bar_init⟩)
    (co_Bar_init : PySem.W.codeIn K cd_Bar_init "Bar.__init__" = true)
    (k_Bar_init : PySem.W.keepIn K (.ref a_Bar_init) = true)
    (i_Bar_init : PySem.W.isFn K (.ref a_Bar_init) = true)
    (g_Bar_length : PySem.W.findIn K (.ref C_Bar) "length" = some (some (.ref a_Bar_length)))
    (l_Bar_length : K.lookup a_Bar_length = some ⟨oc_Bar_length, od_Bar_length, .func (PySem.W.fnOf "length" "Bar.length" (defArgs s_Bar_length) (defBody s_Bar_length) (defScope s_Bar_length) .none kV_Bar_length dc_Bar_length pm_Bar_length an_Bar_length cd_Bar_length ct_Bar_length), sl_Bar_length⟩)
    (co_Bar_length : PySem.W.codeIn K cd_Bar_length "Bar.length" = true)
    (k_Bar_length : PySem.W.keepIn K (.ref a_Bar_length) = true)
    (i_Bar_length : PySem.W.isFn K (.ref a_Bar_length) = true)
    (g_Voice_init : PySem.W.findIn K (.ref C_Voice) "__init__" = some (some (.ref a_Voice_init)))
    (l_Voice_init : K.lookup a_Voice_init = some ⟨oc_Voice_init, od_Voice_init, .func (PySem.W.fnOf "__init__" "Voice.__init__" (defArgs s_Voice_init) (defBody s_Voice_init) (defScope s_Voice_init) .none kV_Voice_init dc_Voice_init pm_Voice_init an_Voice_init cd_Voice_init ct_Voice_init), sl_Voice_init⟩)
    (co_Voice_init : PySem.W.codeIn K cd_Voice_init "Voice.__init__" = true)
    (k_Voice_init : PySem.W.keepIn K (.ref a_Voice_init) = true)
    (i_Voice_init : PySem.W.isFn K (.ref a_Voice_init) = true)
    (g_Voice_all_events : PySem.W.findIn K (.ref C_Voice) "all_events" = some (some (.ref a_Voice_all_events)))
    (l_Voice_all_events : K.lookup a_Voice_all_events = some ⟨oc_Voice_all_events, od_Voice_all_events, .func (PySem.W.fnOf "all_events" "Voice.all_events" (defArgs s_Voice_all_events) (defBody s_Voice_all_events) (defScope s_Voice_all_events) .none kV_Voice_all_events dc_Voice_all_events pm_Voice_all_events an_Voice_all_events cd_Voice_all_events ct_Voice_all_events), sl_Voice_all_events⟩)
    (co_Voice_all_events : PySem.W.codeIn K cd_Voice_all_events "Voice.all_events" = true)
    (k_Voice_all_events : PySem.W.keepIn K (.ref a_Voice_all_events) = true)
    (i_Voice_all_events : PySem.W.isFn K (.ref a_Voice_all_events) = true)
    (g_Score_init : PySem.W.findIn K (.ref C_Score) "__init__" = some (some (.ref a_Score_init)))
    (l_Score_init : K.lookup a_Score_init = some ⟨oc_Score_init, od_Score_init, .func (PySem.W.fnOf "__init__" "Score.__init__" (defArgs s_Score_init) (defBody s_Score_init) (defScope s_Score_init) .none kV_Score_init dc_Score_init pm_Score_init an_Score_init cd_Score_init ct_Score_init), sl_Score_init⟩)
    (co_Score_init : PySem.W.codeIn K cd_Score_init "Score.__init__" = true)
    (k_Score_init : PySem.W.keepIn K (.ref a_Score_init) = true)
    (i_Score_init : PySem.W.isFn K (.ref a_Score_init) = true)
    (g_Reader_init : PySem.W.findIn K (.ref C_Reader) "__init__" = some (some (.ref a_Reader_init)))
    (l_Reader_init : K.lookup a_Reader_init = some ⟨oc_Reader_init, od_Reader_init, .func (PySem.W.fnOf "__init__" "Reader.__init__" (defArgs s_Reader_init) (defBody s_Reader_init) (defScope s_Reader_init) .none kV_Reader_init dc_Reader_init pm_Reader_init an_Reader_init cd_Reader_init ct_Reader_init), sl_Reader_init⟩)
    (co_Reader_init : PySem.W.codeIn K cd_Reader_init "Reader.__init__" = true)
    (k_Reader_init : PySem.W.keepIn K (.ref a_Reader_init) = true)
    (i_Reader_init : PySem.W.isFn K (.ref a_Reader_init) = true)
    (g_Reader_look : PySem.W.findIn K (.ref C_Reader) "look" = some (some (.ref a_Reader_look)))
    (l_Reader_look : K.lookup a_Reader_look = some ⟨oc_Reader_look, od_Reader_look, .func (PySem.W.fnOf "look" "Reader.look" (defArgs s_Reader_look) (defBody s_Reader_look) (defScope s_Reader_look) .none kV_Reader_look dc_Reader_look pm_Reader_look an_Reader_look cd_Reader_look ct_Reader_look), sl_Reader_look⟩)
    (co_Reader_look : PySem.W.codeIn K cd_Reader_look "Reader.look" = true)
    (k_Reader_look : PySem.W.keepIn K (.ref a_Reader_look) = true)
    (i_Reader_look : PySem.W.isFn K (.ref a_Reader_look) = true)
    (g_Reader_here : PySem.W.findIn K (.ref C_Reader) "here" = some (some (.ref a_Reader_here)))
    (l_Reader_here : K.lookup a_Reader_here = some ⟨oc_Reader_here, od_Reader_here, .func (PySem.W.fnOf "here" "Reader.here" (defArgs s_Reader_here) (defBody s_Reader_here) (defScope s_Reader_here) .none kV_Reader_here dc_Reader_here pm_Reader_here an_Reader_here cd_Reader_here ct_Reader_here), sl_Reader_here⟩)
    (co_Reader_here : PySem.W.codeIn K cd_Reader_here "Reader.here" = true)
    (k_Reader_here : PySem.W.keepIn K (.ref a_Reader_here) = true)
    (i_Reader_here : PySem.W.isFn K (.ref a_Reader_here) = true)
    (g_Reader_want : PySem.W.findIn K (.ref C_Reader) "want" = some (some (.ref a_Reader_want)))
    (l_Reader_want : K.lookup a_Reader_want = some ⟨oc_Reader_want, od_Reader_want, .func (PySem.W.fnOf "want" "Reader.want" (defArgs s_Reader_want) (defBody s_Reader_want) (defScope s_Reader_want) .none kV_Reader_want dc_Reader_want pm_Reader_want an_Reader_want cd_Reader_want ct_Reader_want), sl_Reader_want⟩)
    (co_Reader_want : PySem.W.codeIn K cd_Reader_want "Reader.want" = true)
    (k_Reader_want : PySem.W.keepIn K (.ref a_Reader_want) = true)
    (i_Reader_want : PySem.W.isFn K (.ref a_Reader_want) = true)
    (g_Reader_take : PySem.W.findIn K (.ref C_Reader) "take" = some (some (.ref a_Reader_take)))
    (l_Reader_take : K.lookup a_Reader_take = some ⟨oc_Reader_take, od_Reader_take, .func (PySem.W.fnOf "take" "Reader.take" (defArgs s_Reader_take) (defBody s_Reader_take) (defScope s_Reader_take) .none kV_Reader_take dc_Reader_take pm_Reader_take an_Reader_take cd_Reader_take ct_Reader_take), sl_Reader_take⟩)
    (co_Reader_take : PySem.W.codeIn K cd_Reader_take "Reader.take" = true)
    (k_Reader_take : PySem.W.keepIn K (.ref a_Reader_take) = true)
    (i_Reader_take : PySem.W.isFn K (.ref a_Reader_take) = true)
    (g_Reader_take_word : PySem.W.findIn K (.ref C_Reader) "take_word" = some (some (.ref a_Reader_take_word)))
    (l_Reader_take_word : K.lookup a_Reader_take_word = some ⟨oc_Reader_take_word, od_Reader_take_word, .func (PySem.W.fnOf "take_word" "Reader.take_word" (defArgs s_Reader_take_word) (defBody s_Reader_take_word) (defScope s_Reader_take_word) .none kV_Reader_take_word dc_Reader_take_word pm_Reader_take_word an_Reader_take_word cd_Reader_take_word ct_Reader_take_word), sl_Reader_take_word⟩)
    (co_Reader_take_word : PySem.W.codeIn K cd_Reader_take_word "Reader.take_word" = true)
    (k_Reader_take_word : PySem.W.keepIn K (.ref a_Reader_take_word) = true)
    (i_Reader_take_word : PySem.W.isFn K (.ref a_Reader_take_word) = true)
    (g_Reader_score : PySem.W.findIn K (.ref C_Reader) "score" = some (some (.ref a_Reader_score)))
    (l_Reader_score : K.lookup a_Reader_score = some ⟨oc_Reader_score, od_Reader_score, .func (PySem.W.fnOf "score" "Reader.score" (defArgs s_Reader_score) (defBody s_Reader_score) (defScope s_Reader_score) .none kV_Reader_score dc_Reader_score pm_Reader_score an_Reader_score cd_Reader_score ct_Reader_score), sl_Reader_score⟩)
    (co_Reader_score : PySem.W.codeIn K cd_Reader_score "Reader.score" = true)
    (k_Reader_score : PySem.W.keepIn K (.ref a_Reader_score) = true)
    (i_Reader_score : PySem.W.isFn K (.ref a_Reader_score) = true)
    (g_Reader_voice : PySem.W.findIn K (.ref C_Reader) "voice" = some (some (.ref a_Reader_voice)))
    (l_Reader_voice : K.lookup a_Reader_voice = some ⟨oc_Reader_voice, od_Reader_voice, .func (PySem.W.fnOf "voice" "Reader.voice" (defArgs s_Reader_voice) (defBody s_Reader_voice) (defScope s_Reader_voice) .none kV_Reader_voice dc_Reader_voice pm_Reader_voice an_Reader_voice cd_Reader_voice ct_Reader_voice), sl_Reader_voice⟩)
    (co_Reader_voice : PySem.W.codeIn K cd_Reader_voice "Reader.voice" = true)
    (k_Reader_voice : PySem.W.keepIn K (.ref a_Reader_voice) = true)
    (i_Reader_voice : PySem.W.isFn K (.ref a_Reader_voice) = true)
    (g_Reader_bar : PySem.W.findIn K (.ref C_Reader) "bar" = some (some (.ref a_Reader_bar)))
    (l_Reader_bar : K.lookup a_Reader_bar = some ⟨oc_Reader_bar, od_Reader_bar, .func (PySem.W.fnOf "bar" "Reader.bar" (defArgs s_Reader_bar) (defBody s_Reader_bar) (defScope s_Reader_bar) .none kV_Reader_bar dc_Reader_bar pm_Reader_bar an_Reader_bar cd_Reader_bar ct_Reader_bar), sl_Reader_bar⟩)
    (co_Reader_bar : PySem.W.codeIn K cd_Reader_bar "Reader.bar" = true)
    (k_Reader_bar : PySem.W.keepIn K (.ref a_Reader_bar) = true)
    (i_Reader_bar : PySem.W.isFn K (.ref a_Reader_bar) = true)
    (g_Reader_piece_word : PySem.W.findIn K (.ref C_Reader) "piece_word" = some (some (.ref a_Reader_piece_word)))
    (l_Reader_piece_word : K.lookup a_Reader_piece_word = some ⟨oc_Reader_piece_word, od_Reader_piece_word, .func (PySem.W.fnOf "piece_word" "Reader.piece_word" (defArgs s_Reader_piece_word) (defBody s_Reader_piece_word) (defScope s_Reader_piece_word) .none kV_Reader_piece_word dc_Reader_piece_word pm_Reader_piece_word an_Reader_piece_word cd_Reader_piece_word ct_Reader_piece_word), sl_Reader_piece_word⟩)
    (co_Reader_piece_word : PySem.W.codeIn K cd_Reader_piece_word "Reader.piece_word" = true)
    (k_Reader_piece_word : PySem.W.keepIn K (.ref a_Reader_piece_word) = true)
    (i_Reader_piece_word : PySem.W.isFn K (.ref a_Reader_piece_word) = true)
    (g_Reader_one_more : PySem.W.findIn K (.ref C_Reader) "one_more" = some (some (.ref a_Reader_one_more)))
    (l_Reader_one_more : K.lookup a_Reader_one_more = some ⟨oc_Reader_one_more, od_Reader_one_more, .func (PySem.W.fnOf "one_more" "Reader.one_more" (defArgs s_Reader_one_more) (defBody s_Reader_one_more) (defScope s_Reader_one_more) .none kV_Reader_one_more dc_Reader_one_more pm_Reader_one_more an_Reader_one_more cd_Reader_one_more ct_Reader_one_more), sl_Reader_one_more⟩)
    (co_Reader_one_more : PySem.W.codeIn K cd_Reader_one_more "Reader.one_more" = true)
    (k_Reader_one_more : PySem.W.keepIn K (.ref a_Reader_one_more) = true)
    (i_Reader_one_more : PySem.W.isFn K (.ref a_Reader_one_more) = true)
    (g_Reader_put : PySem.W.findIn K (.ref C_Reader) "put" = some (some (.ref a_Reader_put)))
    (l_Reader_put : K.lookup a_Reader_put = some ⟨oc_Reader_put, od_Reader_put, .func (PySem.W.fnOf "put" "Reader.put" (defArgs s_Reader_put) (defBody s_Reader_put) (defScope s_Reader_put) .none kV_Reader_put dc_Reader_put pm_Reader_put an_Reader_put cd_Reader_put ct_Reader_put), sl_Reader_put⟩)
    (co_Reader_put : PySem.W.codeIn K cd_Reader_put "Reader.put" = true)
    (k_Reader_put : PySem.W.keepIn K (.ref a_Reader_put) = true)
    (i_Reader_put : PySem.W.isFn K (.ref a_Reader_put) = true)
    (g_Reader_single : PySem.W.findIn K (.ref C_Reader) "single" = some (some (.ref a_Reader_single)))
    (l_Reader_single : K.lookup a_Reader_single = some ⟨oc_Reader_single, od_Reader_single, .func (PySem.W.fnOf "single" "Reader.single" (defArgs s_Reader_single) (defBody s_Reader_single) (defScope s_Reader_single) .none kV_Reader_single dc_Reader_single pm_Reader_single an_Reader_single cd_Reader_single ct_Reader_single), sl_Reader_single⟩)
    (co_Reader_single : PySem.W.codeIn K cd_Reader_single "Reader.single" = true)
    (k_Reader_single : PySem.W.keepIn K (.ref a_Reader_single) = true)
    (i_Reader_single : PySem.W.isFn K (.ref a_Reader_single) = true)
    (g_Reader_chord : PySem.W.findIn K (.ref C_Reader) "chord" = some (some (.ref a_Reader_chord)))
    (l_Reader_chord : K.lookup a_Reader_chord = some ⟨oc_Reader_chord, od_Reader_chord, .func (PySem.W.fnOf "chord" "Reader.chord" (defArgs s_Reader_chord) (defBody s_Reader_chord) (defScope s_Reader_chord) .none kV_Reader_chord dc_Reader_chord pm_Reader_chord an_Reader_chord cd_Reader_chord ct_Reader_chord), sl_Reader_chord⟩)
    (co_Reader_chord : PySem.W.codeIn K cd_Reader_chord "Reader.chord" = true)
    (k_Reader_chord : PySem.W.keepIn K (.ref a_Reader_chord) = true)
    (i_Reader_chord : PySem.W.isFn K (.ref a_Reader_chord) = true)
    (g_want_bars : PySem.W.nsIn K mainGlobals "want_bars" = some (some (.ref a_want_bars)))
    (l_want_bars : K.lookup a_want_bars = some ⟨oc_want_bars, od_want_bars, .func (PySem.W.fnOf "want_bars" "want_bars" (defArgs s_want_bars) (defBody s_want_bars) (defScope s_want_bars) .none kV_want_bars dc_want_bars pm_want_bars an_want_bars cd_want_bars ct_want_bars), sl_want_bars⟩)
    (co_want_bars : PySem.W.codeIn K cd_want_bars "want_bars" = true)
    (k_want_bars : PySem.W.keepIn K (.ref a_want_bars) = true)
    (g_want_ties : PySem.W.nsIn K mainGlobals "want_ties" = some (some (.ref a_want_ties)))
    (l_want_ties : K.lookup a_want_ties = some ⟨oc_want_ties, od_want_ties, .func (PySem.W.fnOf "want_ties" "want_ties" (defArgs s_want_ties) (defBody s_want_ties) (defScope s_want_ties) .none kV_want_ties dc_want_ties pm_want_ties an_want_ties cd_want_ties ct_want_ties), sl_want_ties⟩)
    (co_want_ties : PySem.W.codeIn K cd_want_ties "want_ties" = true)
    (k_want_ties : PySem.W.keepIn K (.ref a_want_ties) = true)
    (g_want_alike : PySem.W.nsIn K mainGlobals "want_alike" = some (some (.ref a_want_alike)))
    (l_want_alike : K.lookup a_want_alike = some ⟨oc_want_alike, od_want_alike, .func (PySem.W.fnOf "want_alike" "want_alike" (defArgs s_want_alike) (defBody s_want_alike) (defScope s_want_alike) .none kV_want_alike dc_want_alike pm_want_alike an_want_alike cd_want_alike ct_want_alike), sl_want_alike⟩)
    (co_want_alike : PySem.W.codeIn K cd_want_alike "want_alike" = true)
    (k_want_alike : PySem.W.keepIn K (.ref a_want_alike) = true)
    (g_read_score : PySem.W.nsIn K mainGlobals "read_score" = some (some (.ref a_read_score)))
    (l_read_score : K.lookup a_read_score = some ⟨oc_read_score, od_read_score, .func (PySem.W.fnOf "read_score" "read_score" (defArgs s_read_score) (defBody s_read_score) (defScope s_read_score) .none kV_read_score dc_read_score pm_read_score an_read_score cd_read_score ct_read_score), sl_read_score⟩)
    (co_read_score : PySem.W.codeIn K cd_read_score "read_score" = true)
    (k_read_score : PySem.W.keepIn K (.ref a_read_score) = true)
    (g_form_of : PySem.W.nsIn K mainGlobals "form_of" = some (some (.ref a_form_of)))
    (l_form_of : K.lookup a_form_of = some ⟨oc_form_of, od_form_of, .func (PySem.W.fnOf "form_of" "form_of" (defArgs s_form_of) (defBody s_form_of) (defScope s_form_of) .none kV_form_of dc_form_of pm_form_of an_form_of cd_form_of ct_form_of), sl_form_of⟩)
    (co_form_of : PySem.W.codeIn K cd_form_of "form_of" = true)
    (k_form_of : PySem.W.keepIn K (.ref a_form_of) = true)
    (g_counts_of : PySem.W.nsIn K mainGlobals "counts_of" = some (some (.ref a_counts_of)))
    (l_counts_of : K.lookup a_counts_of = some ⟨oc_counts_of, od_counts_of, .func (PySem.W.fnOf "counts_of" "counts_of" (defArgs s_counts_of) (defBody s_counts_of) (defScope s_counts_of) .none kV_counts_of dc_counts_of pm_counts_of an_counts_of cd_counts_of ct_counts_of), sl_counts_of⟩)
    (co_counts_of : PySem.W.codeIn K cd_counts_of "counts_of" = true)
    (k_counts_of : PySem.W.keepIn K (.ref a_counts_of) = true)
    (g_begins_of : PySem.W.nsIn K mainGlobals "begins_of" = some (some (.ref a_begins_of)))
    (l_begins_of : K.lookup a_begins_of = some ⟨oc_begins_of, od_begins_of, .func (PySem.W.fnOf "begins_of" "begins_of" (defArgs s_begins_of) (defBody s_begins_of) (defScope s_begins_of) .none kV_begins_of dc_begins_of pm_begins_of an_begins_of cd_begins_of ct_begins_of), sl_begins_of⟩)
    (co_begins_of : PySem.W.codeIn K cd_begins_of "begins_of" = true)
    (k_begins_of : PySem.W.keepIn K (.ref a_begins_of) = true)
    (g_bars_of : PySem.W.nsIn K mainGlobals "bars_of" = some (some (.ref a_bars_of)))
    (l_bars_of : K.lookup a_bars_of = some ⟨oc_bars_of, od_bars_of, .func (PySem.W.fnOf "bars_of" "bars_of" (defArgs s_bars_of) (defBody s_bars_of) (defScope s_bars_of) .none kV_bars_of dc_bars_of pm_bars_of an_bars_of cd_bars_of ct_bars_of), sl_bars_of⟩)
    (co_bars_of : PySem.W.codeIn K cd_bars_of "bars_of" = true)
    (k_bars_of : PySem.W.keepIn K (.ref a_bars_of) = true)
    (g_is_going_on : PySem.W.nsIn K mainGlobals "is_going_on" = some (some (.ref a_is_going_on)))
    (l_is_going_on : K.lookup a_is_going_on = some ⟨oc_is_going_on, od_is_going_on, .func (PySem.W.fnOf "is_going_on" "is_going_on" (defArgs s_is_going_on) (defBody s_is_going_on) (defScope s_is_going_on) .none kV_is_going_on dc_is_going_on pm_is_going_on an_is_going_on cd_is_going_on ct_is_going_on), sl_is_going_on⟩)
    (co_is_going_on : PySem.W.codeIn K cd_is_going_on "is_going_on" = true)
    (k_is_going_on : PySem.W.keepIn K (.ref a_is_going_on) = true)
    (g_sound_length : PySem.W.nsIn K mainGlobals "sound_length" = some (some (.ref a_sound_length)))
    (l_sound_length : K.lookup a_sound_length = some ⟨oc_sound_length, od_sound_length, .func (PySem.W.fnOf "sound_length" "sound_length" (defArgs s_sound_length) (defBody s_sound_length) (defScope s_sound_length) .none kV_sound_length dc_sound_length pm_sound_length an_sound_length cd_sound_length ct_sound_length), sl_sound_length⟩)
    (co_sound_length : PySem.W.codeIn K cd_sound_length "sound_length" = true)
    (k_sound_length : PySem.W.keepIn K (.ref a_sound_length) = true)
    (g_sounds_of : PySem.W.nsIn K mainGlobals "sounds_of" = some (some (.ref a_sounds_of)))
    (l_sounds_of : K.lookup a_sounds_of = some ⟨oc_sounds_of, od_sounds_of, .func (PySem.W.fnOf "sounds_of" "sounds_of" (defArgs s_sounds_of) (defBody s_sounds_of) (defScope s_sounds_of) .none kV_sounds_of dc_sounds_of pm_sounds_of an_sounds_of cd_sounds_of ct_sounds_of), sl_sounds_of⟩)
    (co_sounds_of : PySem.W.codeIn K cd_sounds_of "sounds_of" = true)
    (k_sounds_of : PySem.W.keepIn K (.ref a_sounds_of) = true)
    (g_place_of : PySem.W.nsIn K mainGlobals "place_of" = some (some (.ref a_place_of)))
    (l_place_of : K.lookup a_place_of = some ⟨oc_place_of, od_place_of, .func (PySem.W.fnOf "place_of" "place_of" (defArgs s_place_of) (defBody s_place_of) (defScope s_place_of) .none kV_place_of dc_place_of pm_place_of an_place_of cd_place_of ct_place_of), sl_place_of⟩)
    (co_place_of : PySem.W.codeIn K cd_place_of "place_of" = true)
    (k_place_of : PySem.W.keepIn K (.ref a_place_of) = true)
    (g_Refused_init : PySem.W.findIn K (.ref C_Refused) "__init__" = some (some (.ref a_Refused_init)))
    (l_Refused_init : K.lookup a_Refused_init = some ⟨oc_Refused_init, od_Refused_init, .func (PySem.W.fnOf "__init__" "Refused.__init__" (defArgs s_Refused_init) (defBody s_Refused_init) (defScope s_Refused_init) .none kV_Refused_init dc_Refused_init pm_Refused_init an_Refused_init cd_Refused_init ct_Refused_init), sl_Refused_init⟩)
    (co_Refused_init : PySem.W.codeIn K cd_Refused_init "Refused.__init__" = true)
    (k_Refused_init : PySem.W.keepIn K (.ref a_Refused_init) = true)
    (g_want : PySem.W.nsIn K mainGlobals "want" = some (some (.ref a_want)))
    (l_want : K.lookup a_want = some ⟨oc_want, od_want, .func (PySem.W.fnOf "want" "want" (defArgs s_want) (defBody s_want) (defScope s_want) .none kV_want dc_want pm_want an_want cd_want ct_want), sl_want⟩)
    (co_want : PySem.W.codeIn K cd_want "want" = true)
    (k_want : PySem.W.keepIn K (.ref a_want) = true)
    (g_told : PySem.W.nsIn K mainGlobals "told" = some (some (.ref a_told)))
    (l_told : K.lookup a_told = some ⟨oc_told, od_told, .func (PySem.W.fnOf "told" "told" (defArgs s_told) (defBody s_told) (defScope s_told) .none kV_told dc_told pm_told an_told cd_told ct_told), sl_told⟩)
    (co_told : PySem.W.codeIn K cd_told "told" = true)
    (k_told : PySem.W.keepIn K (.ref a_told) = true)
    (g_Holder_init : PySem.W.findIn K (.ref C_Holder) "__init__" = some (some (.ref a_Holder_init)))
    (l_Holder_init : K.lookup a_Holder_init = some ⟨oc_Holder_init, od_Holder_init, .func (PySem.W.fnOf "__init__" "Holder.__init__" (defArgs s_Holder_init) (defBody s_Holder_init) (defScope s_Holder_init) .none kV_Holder_init dc_Holder_init pm_Holder_init an_Holder_init cd_Holder_init ct_Holder_init), sl_Holder_init⟩)
    (co_Holder_init : PySem.W.codeIn K cd_Holder_init "Holder.__init__" = true)
    (k_Holder_init : PySem.W.keepIn K (.ref a_Holder_init) = true)
    (i_Holder_init : PySem.W.isFn K (.ref a_Holder_init) = true)
    (g_Holder_score : PySem.W.findIn K (.ref C_Holder) "score" = some (some (.ref a_Holder_score)))
    (l_Holder_score : K.lookup a_Holder_score = some ⟨oc_Holder_score, od_Holder_score, .func (PySem.W.fnOf "score" "Holder.score" (defArgs s_Holder_score) (defBody s_Holder_score) (defScope s_Holder_score) .none kV_Holder_score dc_Holder_score pm_Holder_score an_Holder_score cd_Holder_score ct_Holder_score), sl_Holder_score⟩)
    (co_Holder_score : PySem.W.codeIn K cd_Holder_score "Holder.score" = true)
    (k_Holder_score : PySem.W.keepIn K (.ref a_Holder_score) = true)
    (i_Holder_score : PySem.W.isFn K (.ref a_Holder_score) = true)
    (g_Holder_read : PySem.W.findIn K (.ref C_Holder) "read" = some (some (.ref a_Holder_read)))
    (l_Holder_read : K.lookup a_Holder_read = some ⟨oc_Holder_read, od_Holder_read, .func (PySem.W.fnOf "read" "Holder.read" (defArgs s_Holder_read) (defBody s_Holder_read) (defScope s_Holder_read) .none kV_Holder_read dc_Holder_read pm_Holder_read an_Holder_read cd_Holder_read ct_Holder_read), sl_Holder_read⟩)
    (co_Holder_read : PySem.W.codeIn K cd_Holder_read "Holder.read" = true)
    (k_Holder_read : PySem.W.keepIn K (.ref a_Holder_read) = true)
    (i_Holder_read : PySem.W.isFn K (.ref a_Holder_read) = true)
    (g_Holder_form : PySem.W.findIn K (.ref C_Holder) "form" = some (some (.ref a_Holder_form)))
    (l_Holder_form : K.lookup a_Holder_form = some ⟨oc_Holder_form, od_Holder_form, .func (PySem.W.fnOf "form" "Holder.form" (defArgs s_Holder_form) (defBody s_Holder_form) (defScope s_Holder_form) .none kV_Holder_form dc_Holder_form pm_Holder_form an_Holder_form cd_Holder_form ct_Holder_form), sl_Holder_form⟩)
    (co_Holder_form : PySem.W.codeIn K cd_Holder_form "Holder.form" = true)
    (k_Holder_form : PySem.W.keepIn K (.ref a_Holder_form) = true)
    (i_Holder_form : PySem.W.isFn K (.ref a_Holder_form) = true)
    (g_Holder_sounds : PySem.W.findIn K (.ref C_Holder) "sounds" = some (some (.ref a_Holder_sounds)))
    (l_Holder_sounds : K.lookup a_Holder_sounds = some ⟨oc_Holder_sounds, od_Holder_sounds, .func (PySem.W.fnOf "sounds" "Holder.sounds" (defArgs s_Holder_sounds) (defBody s_Holder_sounds) (defScope s_Holder_sounds) .none kV_Holder_sounds dc_Holder_sounds pm_Holder_sounds an_Holder_sounds cd_Holder_sounds ct_Holder_sounds), sl_Holder_sounds⟩)
    (co_Holder_sounds : PySem.W.codeIn K cd_Holder_sounds "Holder.sounds" = true)
    (k_Holder_sounds : PySem.W.keepIn K (.ref a_Holder_sounds) = true)
    (i_Holder_sounds : PySem.W.isFn K (.ref a_Holder_sounds) = true)
    (g_Holder_bars_told : PySem.W.findIn K (.ref C_Holder) "bars_told" = some (some (.ref a_Holder_bars_told)))
    (l_Holder_bars_told : K.lookup a_Holder_bars_told = some ⟨oc_Holder_bars_told, od_Holder_bars_told, .func (PySem.W.fnOf "bars_told" "Holder.bars_told" (defArgs s_Holder_bars_told) (defBody s_Holder_bars_told) (defScope s_Holder_bars_told) .none kV_Holder_bars_told dc_Holder_bars_told pm_Holder_bars_told an_Holder_bars_told cd_Holder_bars_told ct_Holder_bars_told), sl_Holder_bars_told⟩)
    (co_Holder_bars_told : PySem.W.codeIn K cd_Holder_bars_told "Holder.bars_told" = true)
    (k_Holder_bars_told : PySem.W.keepIn K (.ref a_Holder_bars_told) = true)
    (i_Holder_bars_told : PySem.W.isFn K (.ref a_Holder_bars_told) = true)
    (g_Holder_same : PySem.W.findIn K (.ref C_Holder) "same" = some (some (.ref a_Holder_same)))
    (l_Holder_same : K.lookup a_Holder_same = some ⟨oc_Holder_same, od_Holder_same, .func (PySem.W.fnOf "same" "Holder.same" (defArgs s_Holder_same) (defBody s_Holder_same) (defScope s_Holder_same) .none kV_Holder_same dc_Holder_same pm_Holder_same an_Holder_same cd_Holder_same ct_Holder_same), sl_Holder_same⟩)
    (co_Holder_same : PySem.W.codeIn K cd_Holder_same "Holder.same" = true)
    (k_Holder_same : PySem.W.keepIn K (.ref a_Holder_same) = true)
    (i_Holder_same : PySem.W.isFn K (.ref a_Holder_same) = true)
    (g_Holder_place_told : PySem.W.findIn K (.ref C_Holder) "place_told" = some (some (.ref a_Holder_place_told)))
    (l_Holder_place_told : K.lookup a_Holder_place_told = some ⟨oc_Holder_place_told, od_Holder_place_told, .func (PySem.W.fnOf "place_told" "Holder.place_told" (defArgs s_Holder_place_told) (defBody s_Holder_place_told) (defScope s_Holder_place_told) .none kV_Holder_place_told dc_Holder_place_told pm_Holder_place_told an_Holder_place_told cd_Holder_place_told ct_Holder_place_told), sl_Holder_place_told⟩)
    (co_Holder_place_told : PySem.W.codeIn K cd_Holder_place_told "Holder.place_told" = true)
    (k_Holder_place_told : PySem.W.keepIn K (.ref a_Holder_place_told) = true)
    (i_Holder_place_told : PySem.W.isFn K (.ref a_Holder_place_told) = true)
    (g_Holder_called : PySem.W.findIn K (.ref C_Holder) "called" = some (some (.ref a_Holder_called)))
    (l_Holder_called : K.lookup a_Holder_called = some ⟨oc_Holder_called, od_Holder_called, .func (PySem.W.fnOf "called" "Holder.called" (defArgs s_Holder_called) (defBody s_Holder_called) (defScope s_Holder_called) .none kV_Holder_called dc_Holder_called pm_Holder_called an_Holder_called cd_Holder_called ct_Holder_called), sl_Holder_called⟩)
    (co_Holder_called : PySem.W.codeIn K cd_Holder_called "Holder.called" = true)
    (k_Holder_called : PySem.W.keepIn K (.ref a_Holder_called) = true)
    (i_Holder_called : PySem.W.isFn K (.ref a_Holder_called) = true)
    (g_Holder_answer : PySem.W.findIn K (.ref C_Holder) "answer" = some (some (.ref a_Holder_answer)))
    (l_Holder_answer : K.lookup a_Holder_answer = some ⟨oc_Holder_answer, od_Holder_answer, .func (PySem.W.fnOf "answer" "Holder.answer" (defArgs s_Holder_answer) (defBody s_Holder_answer) (defScope s_Holder_answer) .none kV_Holder_answer dc_Holder_answer pm_Holder_answer an_Holder_answer cd_Holder_answer ct_Holder_answer), sl_Holder_answer⟩)
    (co_Holder_answer : PySem.W.codeIn K cd_Holder_answer "Holder.answer" = true)
    (k_Holder_answer : PySem.W.keepIn K (.ref a_Holder_answer) = true)
    (i_Holder_answer : PySem.W.isFn K (.ref a_Holder_answer) = true)
    (g_answers : PySem.W.nsIn K mainGlobals "answers" = some (some (.ref a_answers)))
    (l_answers : K.lookup a_answers = some ⟨oc_answers, od_answers, .func (PySem.W.fnOf "answers" "answers" (defArgs s_answers) (defBody s_answers) (defScope s_answers) .none kV_answers dc_answers pm_answers an_answers cd_answers ct_answers), sl_answers⟩)
    (co_answers : PySem.W.codeIn K cd_answers "answers" = true)
    (k_answers : PySem.W.keepIn K (.ref a_answers) = true)
    (gc_Faulty : PySem.W.nsIn K mainGlobals "Faulty" = some (some (.ref C_Faulty)))
    (xL_Faulty : K.lookup C_Faulty = some (excClassObj nm_Faulty q_Faulty C_Faulty N_Faulty bs_Faulty [.type "ValueError", .type "Exception", .type "BaseException", .type "object"] true sn_Faulty sub_Faulty ab_Faulty col_Faulty dd_Faulty m0_Faulty m1_Faulty m2_Faulty m3_Faulty m5_Faulty "ValueError.__new__"))
    (sa_Faulty : PySem.W.findIn K (.ref C_Faulty) "__setattr__" = some (some (.builtin "object.__setattr__")))
    (ga_Faulty : PySem.W.findIn K (.ref C_Faulty) "__getattribute__" = some (some (.builtin "BaseException.__getattribute__")))
    (gg_Faulty : PySem.W.findIn K (.ref C_Faulty) "__getattr__" = some none)
    (eC_Faulty : PySem.W.subIn K (.ref C_Faulty) (.type "BaseException") = some true)
    (tC_Faulty : PySem.W.typeIn K (.ref C_Faulty) = some (.type "type"))
    (kC_Faulty : PySem.W.keepIn K (.ref C_Faulty) = true)
    (hC_Faulty : PySem.W.hasDictIn K C_Faulty = true)
    (iC_Faulty : PySem.W.isClsIn K C_Faulty = true)
    (sC_Faulty : PySem.W.subIn K (.ref C_Faulty) (.ref C_Faulty) = some true)
    (tI_Faulty : PySem.W.typeIn K (.ref a_Faulty_init) = some (.type "function"))
    (n_Faulty_kind : PySem.W.findIn K (.ref C_Faulty) "kind" = some none)
    (n_Faulty_place : PySem.W.findIn K (.ref C_Faulty) "place" = some none)
    (gc_Event : PySem.W.nsIn K mainGlobals "Event" = some (some (.ref C_Event)))
    (pg_Event : PySem.W.plainGet K C_Event Str.empty = true)
    (hd_Event : PySem.W.hasDictIn K C_Event = true)
    (po_Event : PySem.W.plainOver K C_Event = true)
    (sa_Event : PySem.W.findIn K (.ref C_Event) "__setattr__" = some (some (.builtin "object.__setattr__")))
    (mk_Event : PySem.W.makesIn K C_Event = true)
    (kC_Event : PySem.W.keepIn K (.ref C_Event) = true)
    (n_Event_pitches : PySem.W.findIn K (.ref C_Event) "pitches" = some none)
    (n_Event_long : PySem.W.findIn K (.ref C_Event) "long" = some none)
    (n_Event_is_tied : PySem.W.findIn K (.ref C_Event) "is_tied" = some none)
    (n_Event_place : PySem.W.findIn K (.ref C_Event) "place" = some none)
    (gc_Bar : PySem.W.nsIn K mainGlobals "Bar" = some (some (.ref C_Bar)))
    (pg_Bar : PySem.W.plainGet K C_Bar Str.empty = true)
    (hd_Bar : PySem.W.hasDictIn K C_Bar = true)
    (po_Bar : PySem.W.plainOver K C_Bar = true)
    (sa_Bar : PySem.W.findIn K (.ref C_Bar) "__setattr__" = some (some (.builtin "object.__setattr__")))
    (mk_Bar : PySem.W.makesIn K C_Bar = true)
    (kC_Bar : PySem.W.keepIn K (.ref C_Bar) = true)
    (n_Bar_words : PySem.W.findIn K (.ref C_Bar) "words" = some none)
    (n_Bar_events : PySem.W.findIn K (.ref C_Bar) "events" = some none)
    (n_Bar_is_short : PySem.W.findIn K (.ref C_Bar) "is_short" = some none)
    (n_Bar_place : PySem.W.findIn K (.ref C_Bar) "place" = some none)
    (gc_Voice : PySem.W.nsIn K mainGlobals "Voice" = some (some (.ref C_Voice)))
    (pg_Voice : PySem.W.plainGet K C_Voice Str.empty = true)
    (hd_Voice : PySem.W.hasDictIn K C_Voice = true)
    (po_Voice : PySem.W.plainOver K C_Voice = true)
    (sa_Voice : PySem.W.findIn K (.ref C_Voice) "__setattr__" = some (some (.builtin "object.__setattr__")))
    (mk_Voice : PySem.W.makesIn K C_Voice = true)
    (kC_Voice : PySem.W.keepIn K (.ref C_Voice) = true)
    (n_Voice_name : PySem.W.findIn K (.ref C_Voice) "name" = some none)
    (n_Voice_bars : PySem.W.findIn K (.ref C_Voice) "bars" = some none)
    (n_Voice_place : PySem.W.findIn K (.ref C_Voice) "place" = some none)
    (gc_Score : PySem.W.nsIn K mainGlobals "Score" = some (some (.ref C_Score)))
    (pg_Score : PySem.W.plainGet K C_Score Str.empty = true)
    (hd_Score : PySem.W.hasDictIn K C_Score = true)
    (po_Score : PySem.W.plainOver K C_Score = true)
    (sa_Score : PySem.W.findIn K (.ref C_Score) "__setattr__" = some (some (.builtin "object.__setattr__")))
    (mk_Score : PySem.W.makesIn K C_Score = true)
    (kC_Score : PySem.W.keepIn K (.ref C_Score) = true)
    (n_Score_metre : PySem.W.findIn K (.ref C_Score) "metre" = some none)
    (n_Score_whole : PySem.W.findIn K (.ref C_Score) "whole" = some none)
    (n_Score_key_word : PySem.W.findIn K (.ref C_Score) "key_word" = some none)
    (n_Score_voices : PySem.W.findIn K (.ref C_Score) "voices" = some none)
    (gc_Reader : PySem.W.nsIn K mainGlobals "Reader" = some (some (.ref C_Reader)))
    (pg_Reader : PySem.W.plainGet K C_Reader Str.empty = true)
    (hd_Reader : PySem.W.hasDictIn K C_Reader = true)
    (po_Reader : PySem.W.plainOver K C_Reader = true)
    (sa_Reader : PySem.W.findIn K (.ref C_Reader) "__setattr__" = some (some (.builtin "object.__setattr__")))
    (mk_Reader : PySem.W.makesIn K C_Reader = true)
    (kC_Reader : PySem.W.keepIn K (.ref C_Reader) = true)
    (n_Reader_words : PySem.W.findIn K (.ref C_Reader) "words" = some none)
    (n_Reader_at : PySem.W.findIn K (.ref C_Reader) "at" = some none)
    (n_Reader_end : PySem.W.findIn K (.ref C_Reader) "end" = some none)
    (n_Reader_bar_words : PySem.W.findIn K (.ref C_Reader) "bar_words" = some none)
    (n_Reader_events : PySem.W.findIn K (.ref C_Reader) "events" = some none)
    (n_Reader_many : PySem.W.findIn K (.ref C_Reader) "many" = some none)
    (n_Reader_by : PySem.W.findIn K (.ref C_Reader) "by" = some none)
    (gc_Refused : PySem.W.nsIn K mainGlobals "Refused" = some (some (.ref C_Refused)))
    (xL_Refused : K.lookup C_Refused = some (excClassObj nm_Refused q_Refused C_Refused N_Refused bs_Refused [.type "ValueError", .type "Exception", .type "BaseException", .type "object"] true sn_Refused sub_Refused ab_Refused col_Refused dd_Refused m0_Refused m1_Refused m2_Refused m3_Refused m5_Refused "ValueError.__new__"))
    (sa_Refused : PySem.W.findIn K (.ref C_Refused) "__setattr__" = some (some (.builtin "object.__setattr__")))
    (ga_Refused : PySem.W.findIn K (.ref C_Refused) "__getattribute__" = some (some (.builtin "BaseException.__getattribute__")))
    (gg_Refused : PySem.W.findIn K (.ref C_Refused) "__getattr__" = some none)
    (eC_Refused : PySem.W.subIn K (.ref C_Refused) (.type "BaseException") = some true)
    (tC_Refused : PySem.W.typeIn K (.ref C_Refused) = some (.type "type"))
    (kC_Refused : PySem.W.keepIn K (.ref C_Refused) = true)
    (hC_Refused : PySem.W.hasDictIn K C_Refused = true)
    (iC_Refused : PySem.W.isClsIn K C_Refused = true)
    (sC_Refused : PySem.W.subIn K (.ref C_Refused) (.ref C_Refused) = some true)
    (tI_Refused : PySem.W.typeIn K (.ref a_Refused_init) = some (.type "function"))
    (n_Refused_code : PySem.W.findIn K (.ref C_Refused) "code" = some none)
    (gc_Holder : PySem.W.nsIn K mainGlobals "Holder" = some (some (.ref C_Holder)))
    (pg_Holder : PySem.W.plainGet K C_Holder Str.empty = true)
    (hd_Holder : PySem.W.hasDictIn K C_Holder = true)
    (po_Holder : PySem.W.plainOver K C_Holder = true)
    (sa_Holder : PySem.W.findIn K (.ref C_Holder) "__setattr__" = some (some (.builtin "object.__setattr__")))
    (mk_Holder : PySem.W.makesIn K C_Holder = true)
    (kC_Holder : PySem.W.keepIn K (.ref C_Holder) = true)
    (n_Holder_held : PySem.W.findIn K (.ref C_Holder) "held" = some none)
    (vV : PySem.W.findCls K (.type "ValueError") (.type "type") "__init__" = some (.val (.builtin "ValueError.__init__")))
    (c_LINE_END : PySem.W.nsIn K mainGlobals "LINE_END" = some (some (.int 10 t_c_LINE_END)))
    (c_BLANK : PySem.W.nsIn K mainGlobals "BLANK" = some (some (.int 32 t_c_BLANK)))
    (c_LAST_SIGN : PySem.W.nsIn K mainGlobals "LAST_SIGN" = some (some (.int 126 t_c_LAST_SIGN)))
    (c_MOST_METRE : PySem.W.nsIn K mainGlobals "MOST_METRE" = some (some (.int 32 t_c_MOST_METRE)))
    (c_MOST_KEY : PySem.W.nsIn K mainGlobals "MOST_KEY" = some (some (.int 7 t_c_MOST_KEY)))
    (c_MOST_NAME : PySem.W.nsIn K mainGlobals "MOST_NAME" = some (some (.int 8 t_c_MOST_NAME)))
    (c_MOST_FIGURES : PySem.W.nsIn K mainGlobals "MOST_FIGURES" = some (some (.int 3 t_c_MOST_FIGURES)))
    (c_LEAST_TUPLET : PySem.W.nsIn K mainGlobals "LEAST_TUPLET" = some (some (.int 2 t_c_LEAST_TUPLET)))
    (c_MOST_TUPLET : PySem.W.nsIn K mainGlobals "MOST_TUPLET" = some (some (.int 9 t_c_MOST_TUPLET)))
    (c_BAD_BYTE : PySem.W.nsIn K mainGlobals "BAD_BYTE" = some (some (.int 1 t_c_BAD_BYTE)))
    (c_BAD_WORD : PySem.W.nsIn K mainGlobals "BAD_WORD" = some (some (.int 2 t_c_BAD_WORD)))
    (c_TOO_DEEP : PySem.W.nsIn K mainGlobals "TOO_DEEP" = some (some (.int 3 t_c_TOO_DEEP)))
    (c_BAD_NAME : PySem.W.nsIn K mainGlobals "BAD_NAME" = some (some (.int 4 t_c_BAD_NAME)))
    (c_BAD_BAR : PySem.W.nsIn K mainGlobals "BAD_BAR" = some (some (.int 5 t_c_BAD_BAR)))
    (c_BAD_TIE : PySem.W.nsIn K mainGlobals "BAD_TIE" = some (some (.int 6 t_c_BAD_TIE)))
    (c_UNLIKE : PySem.W.nsIn K mainGlobals "UNLIKE" = some (some (.int 7 t_c_UNLIKE)))
    (c_MOST_VOICES : PySem.W.nsIn K mainGlobals "MOST_VOICES" = some (some (.int 4 t_c_MOST_VOICES)))
    (c_DEEPEST : PySem.W.nsIn K mainGlobals "DEEPEST" = some (some (.int 3 t_c_DEEPEST)))
    (c_LEAST_CHORD : PySem.W.nsIn K mainGlobals "LEAST_CHORD" = some (some (.int 2 t_c_LEAST_CHORD)))
    (c_MOST_CHORD : PySem.W.nsIn K mainGlobals "MOST_CHORD" = some (some (.int 6 t_c_MOST_CHORD)))
    (c_NO_SCORE : PySem.W.nsIn K mainGlobals "NO_SCORE" = some (some (.int (-1) t_c_NO_SCORE)))
    (c_BAD_NUMBER : PySem.W.nsIn K mainGlobals "BAD_NUMBER" = some (some (.int (-2) t_c_BAD_NUMBER)))
    (c_TOO_LATE : PySem.W.nsIn K mainGlobals "TOO_LATE" = some (some (.int (-4) t_c_TOO_LATE)))
    (c_HAS_FAULT : PySem.W.nsIn K mainGlobals "HAS_FAULT" = some (some (.int (-6) t_c_HAS_FAULT)))
    (c_TOO_LONG : PySem.W.nsIn K mainGlobals "TOO_LONG" = some (some (.int (-8) t_c_TOO_LONG)))
    (c_MOST_TEXT : PySem.W.nsIn K mainGlobals "MOST_TEXT" = some (some (.int 1500 t_c_MOST_TEXT)))
    (c_MOST_NUMBER : PySem.W.nsIn K mainGlobals "MOST_NUMBER" = some (some (.int 1000000 t_c_MOST_NUMBER)))
    (c_READ : PySem.W.nsIn K mainGlobals "READ" = some (some (.int 0 t_c_READ)))
    (c_SAME : PySem.W.nsIn K mainGlobals "SAME" = some (some (.int 5 t_c_SAME)))
    (c_SIGNS : PySem.W.nsIn K mainGlobals "SIGNS" = some (some (.str (Str.ofString " !\"#$!&'()*+,-./0123456789:;<=>?@ABCDEFGHIJKLMNOPQRSTUVWXYZ[\\]^_`abcdefghijklmnopqrstuvwxyz{|}~") t_c_SIGNS)))
    (c_FIGURES : PySem.W.nsIn K mainGlobals "FIGURES" = some (some (.str (Str.ofString "0123456789") t_c_FIGURES)))
    (c_NAME_LETTERS : PySem.W.nsIn K mainGlobals "NAME_LETTERS" = some (some (.str (Str.ofString "abcdefghijklmnopqrstuvwxyz") t_c_NAME_LETTERS)))
    (c_LETTERS : PySem.W.nsIn K mainGlobals "LETTERS" = some (some (.str (Str.ofString "cdefgab") t_c_LETTERS)))
    (c_NOUGHT : PySem.W.nsIn K mainGlobals "NOUGHT" = some (some (.ref t_NOUGHT)))
    (c_ONE : PySem.W.nsIn K mainGlobals "ONE" = some (some (.ref t_ONE)))
    (c_ACCIDENTALS : PySem.W.nsIn K mainGlobals "ACCIDENTALS" = some (some (.ref t_ACCIDENTALS)))
    (c_METRE_PARTS : PySem.W.nsIn K mainGlobals "METRE_PARTS" = some (some (.ref t_METRE_PARTS)))
    (c_KINDS : PySem.W.nsIn K mainGlobals "KINDS" = some (some (.ref t_KINDS)))
    (c_DOTTED : PySem.W.nsIn K mainGlobals "DOTTED" = some (some (.ref t_DOTTED)))
    (c_NUMBERS : PySem.W.nsIn K mainGlobals "NUMBERS" = some (some (.ref t_NUMBERS)))
    (q_NOUGHT : K.lookup t_NOUGHT = some ⟨.type "tuple", none, .seq #[.int 0 t_NOUGHT_0, .int 1 t_NOUGHT_1] z_NOUGHT, sl_q_NOUGHT⟩)
    (q_ONE : K.lookup t_ONE = some ⟨.type "tuple", none, .seq #[.int 1 t_ONE_0, .int 1 t_ONE_1] z_ONE, sl_q_ONE⟩)
    (q_ACCIDENTALS : K.lookup t_ACCIDENTALS = some ⟨.type "tuple", none, .seq #[.str (Str.ofString "bb") t_ACCIDENTALS_0, .str (Str.ofString "b") t_ACCIDENTALS_1, .str (Str.ofString "") t_ACCIDENTALS_2, .str (Str.ofString "#") t_ACCIDENTALS_3, .str (Str.ofString "##") t_ACCIDENTALS_4] z_ACCIDENTALS, sl_q_ACCIDENTALS⟩)
    (q_METRE_PARTS : K.lookup t_METRE_PARTS = some ⟨.type "tuple", none, .seq #[.int 1 t_METRE_PARTS_0, .int 2 t_METRE_PARTS_1, .int 4 t_METRE_PARTS_2, .int 8 t_METRE_PARTS_3, .int 16 t_METRE_PARTS_4, .int 32 t_METRE_PARTS_5] z_METRE_PARTS, sl_q_METRE_PARTS⟩)
    (q_KINDS : K.lookup t_KINDS = some ⟨.type "tuple", none, .seq #[.int 1 t_KINDS_0, .int 2 t_KINDS_1, .int 4 t_KINDS_2, .int 8 t_KINDS_3, .int 16 t_KINDS_4, .int 32 t_KINDS_5, .int 64 t_KINDS_6] z_KINDS, sl_q_KINDS⟩)
    (q_DOTTED : K.lookup t_DOTTED = some ⟨.type "tuple", none, .seq #[.ref t_DOTTED0, .ref t_DOTTED1, .ref t_DOTTED2] z_DOTTED, sl_q_DOTTED⟩)
    (q_DOTTED0 : K.lookup t_DOTTED0 = some ⟨.type "tuple", none, .seq #[.int 1 t_DOTTED0_0, .int 1 t_DOTTED0_1] z_DOTTED0, sl_q_DOTTED0⟩)
    (q_DOTTED1 : K.lookup t_DOTTED1 = some ⟨.type "tuple", none, .seq #[.int 3 t_DOTTED1_0, .int 2 t_DOTTED1_1] z_DOTTED1, sl_q_DOTTED1⟩)
    (q_DOTTED2 : K.lookup t_DOTTED2 = some ⟨.type "tuple", none, .seq #[.int 7 t_DOTTED2_0, .int 4 t_DOTTED2_1] z_DOTTED2, sl_q_DOTTED2⟩)
    (q_NUMBERS : K.lookup t_NUMBERS = some ⟨.type "tuple", none, .seq #[.int 0 t_NUMBERS_0, .int 0 t_NUMBERS_1, .int 0 t_NUMBERS_2, .int 1 t_NUMBERS_3, .int 0 t_NUMBERS_4, .int 0 t_NUMBERS_5, .int 2 t_NUMBERS_6] z_NUMBERS, sl_q_NUMBERS⟩)
    (z_len : PySem.W.nsIn K mainGlobals "len" = some none)
    (z_int : PySem.W.nsIn K mainGlobals "int" = some none)
    (z_str : PySem.W.nsIn K mainGlobals "str" = some none)
    (z_list : PySem.W.nsIn K mainGlobals "list" = some none)
    (z_zip : PySem.W.nsIn K mainGlobals "zip" = some none)
    (z_all : PySem.W.nsIn K mainGlobals "all" = some none)
    (z_ord : PySem.W.nsIn K mainGlobals "ord" = some none)
    (z_sorted : PySem.W.nsIn K mainGlobals "sorted" = some none)
    (z_enumerate : PySem.W.nsIn K mainGlobals "enumerate" = some none)
    (z_ValueError : PySem.W.nsIn K mainGlobals "ValueError" = some none) :
    ∃ A : Ad, A.a_answers = fa ∧ Txt K mg A := by
  refine ⟨⟨a_common, a_lowest, a_plus, a_less, a_times, a_is_below, a_total, a_bad_byte, a_words_of, a_number_in, a_is_from, a_metre_in, a_is_key, a_is_name, a_pitch_in, a_pitch_word, a_length_in, a_note_in, a_rest_in, a_chord_end_in, a_tuplet_in, a_Faulty_init, a_Event_init, a_Bar_init, a_Bar_length, a_Voice_init, a_Voice_all_events, a_Score_init, a_Reader_init, a_Reader_look, a_Reader_here, a_Reader_want, a_Reader_take, a_Reader_take_word, a_Reader_score, a_Reader_voice, a_Reader_bar, a_Reader_piece_word, a_Reader_one_more, a_Reader_put, a_Reader_single, a_Reader_chord, a_want_bars, a_want_ties, a_want_alike, a_read_score, a_form_of, a_counts_of, a_begins_of, a_bars_of, a_is_going_on, a_sound_length, a_sounds_of, a_place_of, a_Refused_init, a_want, a_told, a_Holder_init, a_Holder_score, a_Holder_read, a_Holder_form, a_Holder_sounds, a_Holder_bars_told, a_Holder_same, a_Holder_place_told, a_Holder_called, a_Holder_answer, a_answers, (PySem.W.fnOf "common" "common" (defArgs s_common) (defBody s_common) (defScope s_common) .none kV_common dc_common pm_common an_common cd_common ct_common), (PySem.W.fnOf "lowest" "lowest" (defArgs s_lowest) (defBody s_lowest) (defScope s_lowest) .none kV_lowest dc_lowest pm_lowest an_lowest cd_lowest ct_lowest), (PySem.W.fnOf "plus" "plus" (defArgs s_plus) (defBody s_plus) (defScope s_plus) .none kV_plus dc_plus pm_plus an_plus cd_plus ct_plus), (PySem.W.fnOf "less" "less" (defArgs s_less) (defBody s_less) (defScope s_less) .none kV_less dc_less pm_less an_less cd_less ct_less), (PySem.W.fnOf "times" "times" (defArgs s_times) (defBody s_times) (defScope s_times) .none kV_times dc_times pm_times an_times cd_times ct_times), (PySem.W.fnOf "is_below" "is_below" (defArgs s_is_below) (defBody s_is_below) (defScope s_is_below) .none kV_is_below dc_is_below pm_is_below an_is_below cd_is_below ct_is_below), (PySem.W.fnOf "total" "total" (defArgs s_total) (defBody s_total) (defScope s_total) .none kV_total dc_total pm_total an_total cd_total ct_total), (PySem.W.fnOf "bad_byte" "bad_byte" (defArgs s_bad_byte) (defBody s_bad_byte) (defScope s_bad_byte) .none kV_bad_byte dc_bad_byte pm_bad_byte an_bad_byte cd_bad_byte ct_bad_byte), (PySem.W.fnOf "words_of" "words_of" (defArgs s_words_of) (defBody s_words_of) (defScope s_words_of) .none kV_words_of dc_words_of pm_words_of an_words_of cd_words_of ct_words_of), (PySem.W.fnOf "number_in" "number_in" (defArgs s_number_in) (defBody s_number_in) (defScope s_number_in) .none kV_number_in dc_number_in pm_number_in an_number_in cd_number_in ct_number_in), (PySem.W.fnOf "is_from" "is_from" (defArgs s_is_from) (defBody s_is_from) (defScope s_is_from) .none kV_is_from dc_is_from pm_is_from an_is_from cd_is_from ct_is_from), (PySem.W.fnOf "metre_in" "metre_in" (defArgs s_metre_in) (defBody s_metre_in) (defScope s_metre_in) .none kV_metre_in dc_metre_in pm_metre_in an_metre_in cd_metre_in ct_metre_in), (PySem.W.fnOf "is_key" "is_key" (defArgs s_is_key) (defBody s_is_key) (defScope s_is_key) .none kV_is_key dc_is_key pm_is_key an_is_key cd_is_key ct_is_key), (PySem.W.fnOf "is_name" "is_name" (defArgs s_is_name) (defBody s_is_name) (defScope s_is_name) .none kV_is_name dc_is_name pm_is_name an_is_name cd_is_name ct_is_name), (PySem.W.fnOf "pitch_in" "pitch_in" (defArgs s_pitch_in) (defBody s_pitch_in) (defScope s_pitch_in) .none kV_pitch_in dc_pitch_in pm_pitch_in an_pitch_in cd_pitch_in ct_pitch_in), (PySem.W.fnOf "pitch_word" "pitch_word" (defArgs s_pitch_word) (defBody s_pitch_word) (defScope s_pitch_word) .none kV_pitch_word dc_pitch_word pm_pitch_word an_pitch_word cd_pitch_word ct_pitch_word), (PySem.W.fnOf "length_in" "length_in" (defArgs s_length_in) (defBody s_length_in) (defScope s_length_in) .none kV_length_in dc_length_in pm_length_in an_length_in cd_length_in ct_length_in), (PySem.W.fnOf "note_in" "note_in" (defArgs s_note_in) (defBody s_note_in) (defScope s_note_in) .none kV_note_in dc_note_in pm_note_in an_note_in cd_note_in ct_note_in), (PySem.W.fnOf "rest_in" "rest_in" (defArgs s_rest_in) (defBody s_rest_in) (defScope s_rest_in) .none kV_rest_in dc_rest_in pm_rest_in an_rest_in cd_rest_in ct_rest_in), (PySem.W.fnOf "chord_end_in" "chord_end_in" (defArgs s_chord_end_in) (defBody s_chord_end_in) (defScope s_chord_end_in) .none kV_chord_end_in dc_chord_end_in pm_chord_end_in an_chord_end_in cd_chord_end_in ct_chord_end_in), (PySem.W.fnOf "tuplet_in" "tuplet_in" (defArgs s_tuplet_in) (defBody s_tuplet_in) (defScope s_tuplet_in) .none kV_tuplet_in dc_tuplet_in pm_tuplet_in an_tuplet_in cd_tuplet_in ct_tuplet_in), (PySem.W.fnOf "__init__" "Faulty.__init__" (defArgs s_Faulty_init) (defBody s_Faulty_init) (defScope s_Faulty_init) .none kV_Faulty_init dc_Faulty_init pm_Faulty_init an_Faulty_init cd_Faulty_init ct_Faulty_init), (PySem.W.fnOf "__init__" "Event.__init__" (defArgs s_Event_init) (defBody s_Event_init) (defScope s_Event_init) .none kV_Event_init dc_Event_init pm_Event_init an_Event_init cd_Event_init ct_Event_init), (PySem.W.fnOf "__init__" "Bar.__init__" (defArgs s_Bar_init) (defBody s_Bar_init) (defScope s_Bar_init) .none kV_Bar_init dc_Bar_init pm_Bar_init an_Bar_init cd_Bar_init ct_Bar_init), (PySem.W.fnOf "length" "Bar.length" (defArgs s_Bar_length) (defBody s_Bar_length) (defScope s_Bar_length) .none kV_Bar_length dc_Bar_length pm_Bar_length an_Bar_length cd_Bar_length ct_Bar_length), (PySem.W.fnOf "__init__" "Voice.__init__" (defArgs s_Voice_init) (defBody s_Voice_init) (defScope s_Voice_init) .none kV_Voice_init dc_Voice_init pm_Voice_init an_Voice_init cd_Voice_init ct_Voice_init), (PySem.W.fnOf "all_events" "Voice.all_events" (defArgs s_Voice_all_events) (defBody s_Voice_all_events) (defScope s_Voice_all_events) .none kV_Voice_all_events dc_Voice_all_events pm_Voice_all_events an_Voice_all_events cd_Voice_all_events ct_Voice_all_events), (PySem.W.fnOf "__init__" "Score.__init__" (defArgs s_Score_init) (defBody s_Score_init) (defScope s_Score_init) .none kV_Score_init dc_Score_init pm_Score_init an_Score_init cd_Score_init ct_Score_init), (PySem.W.fnOf "__init__" "Reader.__init__" (defArgs s_Reader_init) (defBody s_Reader_init) (defScope s_Reader_init) .none kV_Reader_init dc_Reader_init pm_Reader_init an_Reader_init cd_Reader_init ct_Reader_init), (PySem.W.fnOf "look" "Reader.look" (defArgs s_Reader_look) (defBody s_Reader_look) (defScope s_Reader_look) .none kV_Reader_look dc_Reader_look pm_Reader_look an_Reader_look cd_Reader_look ct_Reader_look), (PySem.W.fnOf "here" "Reader.here" (defArgs s_Reader_here) (defBody s_Reader_here) (defScope s_Reader_here) .none kV_Reader_here dc_Reader_here pm_Reader_here an_Reader_here cd_Reader_here ct_Reader_here), (PySem.W.fnOf "want" "Reader.want" (defArgs s_Reader_want) (defBody s_Reader_want) (defScope s_Reader_want) .none kV_Reader_want dc_Reader_want pm_Reader_want an_Reader_want cd_Reader_want ct_Reader_want), (PySem.W.fnOf "take" "Reader.take" (defArgs s_Reader_take) (defBody s_Reader_take) (defScope s_Reader_take) .none kV_Reader_take dc_Reader_take pm_Reader_take an_Reader_take cd_Reader_take ct_Reader_take), (PySem.W.fnOf "take_word" "Reader.take_word" (defArgs s_Reader_take_word) (defBody s_Reader_take_word) (defScope s_Reader_take_word) .none kV_Reader_take_word dc_Reader_take_word pm_Reader_take_word an_Reader_take_word cd_Reader_take_word ct_Reader_take_word), (PySem.W.fnOf "score" "Reader.score" (defArgs s_Reader_score) (defBody s_Reader_score) (defScope s_Reader_score) .none kV_Reader_score dc_Reader_score pm_Reader_score an_Reader_score cd_Reader_score ct_Reader_score), (PySem.W.fnOf "voice" "Reader.voice" (defArgs s_Reader_voice) (defBody s_Reader_voice) (defScope s_Reader_voice) .none kV_Reader_voice dc_Reader_voice pm_Reader_voice an_Reader_voice cd_Reader_voice ct_Reader_voice), (PySem.W.fnOf "bar" "Reader.bar" (defArgs s_Reader_bar) (defBody s_Reader_bar) (defScope s_Reader_bar) .none kV_Reader_bar dc_Reader_bar pm_Reader_bar an_Reader_bar cd_Reader_bar ct_Reader_bar), (PySem.W.fnOf "piece_word" "Reader.piece_word" (defArgs s_Reader_piece_word) (defBody s_Reader_piece_word) (defScope s_Reader_piece_word) .none kV_Reader_piece_word dc_Reader_piece_word pm_Reader_piece_word an_Reader_piece_word cd_Reader_piece_word ct_Reader_piece_word), (PySem.W.fnOf "one_more" "Reader.one_more" (defArgs s_Reader_one_more) (defBody s_Reader_one_more) (defScope s_Reader_one_more) .none kV_Reader_one_more dc_Reader_one_more pm_Reader_one_more an_Reader_one_more cd_Reader_one_more ct_Reader_one_more), (PySem.W.fnOf "put" "Reader.put" (defArgs s_Reader_put) (defBody s_Reader_put) (defScope s_Reader_put) .none kV_Reader_put dc_Reader_put pm_Reader_put an_Reader_put cd_Reader_put ct_Reader_put), (PySem.W.fnOf "single" "Reader.single" (defArgs s_Reader_single) (defBody s_Reader_single) (defScope s_Reader_single) .none kV_Reader_single dc_Reader_single pm_Reader_single an_Reader_single cd_Reader_single ct_Reader_single), (PySem.W.fnOf "chord" "Reader.chord" (defArgs s_Reader_chord) (defBody s_Reader_chord) (defScope s_Reader_chord) .none kV_Reader_chord dc_Reader_chord pm_Reader_chord an_Reader_chord cd_Reader_chord ct_Reader_chord), (PySem.W.fnOf "want_bars" "want_bars" (defArgs s_want_bars) (defBody s_want_bars) (defScope s_want_bars) .none kV_want_bars dc_want_bars pm_want_bars an_want_bars cd_want_bars ct_want_bars), (PySem.W.fnOf "want_ties" "want_ties" (defArgs s_want_ties) (defBody s_want_ties) (defScope s_want_ties) .none kV_want_ties dc_want_ties pm_want_ties an_want_ties cd_want_ties ct_want_ties), (PySem.W.fnOf "want_alike" "want_alike" (defArgs s_want_alike) (defBody s_want_alike) (defScope s_want_alike) .none kV_want_alike dc_want_alike pm_want_alike an_want_alike cd_want_alike ct_want_alike), (PySem.W.fnOf "read_score" "read_score" (defArgs s_read_score) (defBody s_read_score) (defScope s_read_score) .none kV_read_score dc_read_score pm_read_score an_read_score cd_read_score ct_read_score), (PySem.W.fnOf "form_of" "form_of" (defArgs s_form_of) (defBody s_form_of) (defScope s_form_of) .none kV_form_of dc_form_of pm_form_of an_form_of cd_form_of ct_form_of), (PySem.W.fnOf "counts_of" "counts_of" (defArgs s_counts_of) (defBody s_counts_of) (defScope s_counts_of) .none kV_counts_of dc_counts_of pm_counts_of an_counts_of cd_counts_of ct_counts_of), (PySem.W.fnOf "begins_of" "begins_of" (defArgs s_begins_of) (defBody s_begins_of) (defScope s_begins_of) .none kV_begins_of dc_begins_of pm_begins_of an_begins_of cd_begins_of ct_begins_of), (PySem.W.fnOf "bars_of" "bars_of" (defArgs s_bars_of) (defBody s_bars_of) (defScope s_bars_of) .none kV_bars_of dc_bars_of pm_bars_of an_bars_of cd_bars_of ct_bars_of), (PySem.W.fnOf "is_going_on" "is_going_on" (defArgs s_is_going_on) (defBody s_is_going_on) (defScope s_is_going_on) .none kV_is_going_on dc_is_going_on pm_is_going_on an_is_going_on cd_is_going_on ct_is_going_on), (PySem.W.fnOf "sound_length" "sound_length" (defArgs s_sound_length) (defBody s_sound_length) (defScope s_sound_length) .none kV_sound_length dc_sound_length pm_sound_length an_sound_length cd_sound_length ct_sound_length), (PySem.W.fnOf "sounds_of" "sounds_of" (defArgs s_sounds_of) (defBody s_sounds_of) (defScope s_sounds_of) .none kV_sounds_of dc_sounds_of pm_sounds_of an_sounds_of cd_sounds_of ct_sounds_of), (PySem.W.fnOf "place_of" "place_of" (defArgs s_place_of) (defBody s_place_of) (defScope s_place_of) .none kV_place_of dc_place_of pm_place_of an_place_of cd_place_of ct_place_of), (PySem.W.fnOf "__init__" "Refused.__init__" (defArgs s_Refused_init) (defBody s_Refused_init) (defScope s_Refused_init) .none kV_Refused_init dc_Refused_init pm_Refused_init an_Refused_init cd_Refused_init ct_Refused_init), (PySem.W.fnOf "want" "want" (defArgs s_want) (defBody s_want) (defScope s_want) .none kV_want dc_want pm_want an_want cd_want ct_want), (PySem.W.fnOf "told" "told" (defArgs s_told) (defBody s_told) (defScope s_told) .none kV_told dc_told pm_told an_told cd_told ct_told), (PySem.W.fnOf "__init__" "Holder.__init__" (defArgs s_Holder_init) (defBody s_Holder_init) (defScope s_Holder_init) .none kV_Holder_init dc_Holder_init pm_Holder_init an_Holder_init cd_Holder_init ct_Holder_init), (PySem.W.fnOf "score" "Holder.score" (defArgs s_Holder_score) (defBody s_Holder_score) (defScope s_Holder_score) .none kV_Holder_score dc_Holder_score pm_Holder_score an_Holder_score cd_Holder_score ct_Holder_score), (PySem.W.fnOf "read" "Holder.read" (defArgs s_Holder_read) (defBody s_Holder_read) (defScope s_Holder_read) .none kV_Holder_read dc_Holder_read pm_Holder_read an_Holder_read cd_Holder_read ct_Holder_read), (PySem.W.fnOf "form" "Holder.form" (defArgs s_Holder_form) (defBody s_Holder_form) (defScope s_Holder_form) .none kV_Holder_form dc_Holder_form pm_Holder_form an_Holder_form cd_Holder_form ct_Holder_form), (PySem.W.fnOf "sounds" "Holder.sounds" (defArgs s_Holder_sounds) (defBody s_Holder_sounds) (defScope s_Holder_sounds) .none kV_Holder_sounds dc_Holder_sounds pm_Holder_sounds an_Holder_sounds cd_Holder_sounds ct_Holder_sounds), (PySem.W.fnOf "bars_told" "Holder.bars_told" (defArgs s_Holder_bars_told) (defBody s_Holder_bars_told) (defScope s_Holder_bars_told) .none kV_Holder_bars_told dc_Holder_bars_told pm_Holder_bars_told an_Holder_bars_told cd_Holder_bars_told ct_Holder_bars_told), (PySem.W.fnOf "same" "Holder.same" (defArgs s_Holder_same) (defBody s_Holder_same) (defScope s_Holder_same) .none kV_Holder_same dc_Holder_same pm_Holder_same an_Holder_same cd_Holder_same ct_Holder_same), (PySem.W.fnOf "place_told" "Holder.place_told" (defArgs s_Holder_place_told) (defBody s_Holder_place_told) (defScope s_Holder_place_told) .none kV_Holder_place_told dc_Holder_place_told pm_Holder_place_told an_Holder_place_told cd_Holder_place_told ct_Holder_place_told), (PySem.W.fnOf "called" "Holder.called" (defArgs s_Holder_called) (defBody s_Holder_called) (defScope s_Holder_called) .none kV_Holder_called dc_Holder_called pm_Holder_called an_Holder_called cd_Holder_called ct_Holder_called), (PySem.W.fnOf "answer" "Holder.answer" (defArgs s_Holder_answer) (defBody s_Holder_answer) (defScope s_Holder_answer) .none kV_Holder_answer dc_Holder_answer pm_Holder_answer an_Holder_answer cd_Holder_answer ct_Holder_answer), (PySem.W.fnOf "answers" "answers" (defArgs s_answers) (defBody s_answers) (defScope s_answers) .none kV_answers dc_answers pm_answers an_answers cd_answers ct_answers), C_Faulty, C_Event, C_Bar, C_Voice, C_Score, C_Reader, C_Refused, C_Holder, t_NOUGHT, t_ONE, t_ACCIDENTALS, t_METRE_PARTS, t_KINDS, t_DOTTED, t_DOTTED0, t_DOTTED1, t_DOTTED2, t_NUMBERS⟩, ?_, ?_⟩
  · exact Option.some.inj ((PySem.W.mg_of X G g_answers).symm.trans hfa) |> fun e => by cases e; rfl
  · exact {
      F_common := fun_mk (st := s_common) l_common co_common k_common
      b_common := (fun_mk (st := s_common) l_common co_common k_common).binds (ps := ["one", "other"]) fun _ _ _ _ _ _ us hl => match us, hl with | [_, _], _ => rfl
      g_common := PySem.W.mg_of X G g_common
      F_lowest := fun_mk (st := s_lowest) l_lowest co_lowest k_lowest
      b_lowest := (fun_mk (st := s_lowest) l_lowest co_lowest k_lowest).binds (ps := ["upper", "lower"]) fun _ _ _ _ _ _ us hl => match us, hl with | [_, _], _ => rfl
      g_lowest := PySem.W.mg_of X G g_lowest
      F_plus := fun_mk (st := s_plus) l_plus co_plus k_plus
      b_plus := (fun_mk (st := s_plus) l_plus co_plus k_plus).binds (ps := ["one", "other"]) fun _ _ _ _ _ _ us hl => match us, hl with | [_, _], _ => rfl
      g_plus := PySem.W.mg_of X G g_plus
      F_less := fun_mk (st := s_less) l_less co_less k_less
      b_less := (fun_mk (st := s_less) l_less co_less k_less).binds (ps := ["one", "other"]) fun _ _ _ _ _ _ us hl => match us, hl with | [_, _], _ => rfl
      g_less := PySem.W.mg_of X G g_less
      F_times := fun_mk (st := s_times) l_times co_times k_times
      b_times := (fun_mk (st := s_times) l_times co_times k_times).binds (ps := ["one", "other"]) fun _ _ _ _ _ _ us hl => match us, hl with | [_, _], _ => rfl
      g_times := PySem.W.mg_of X G g_times
      F_is_below := fun_mk (st := s_is_below) l_is_below co_is_below k_is_below
      b_is_below := (fun_mk (st := s_is_below) l_is_below co_is_below k_is_below).binds (ps := ["one", "other"]) fun _ _ _ _ _ _ us hl => match us, hl with | [_, _], _ => rfl
      g_is_below := PySem.W.mg_of X G g_is_below
      F_total := fun_mk (st := s_total) l_total co_total k_total
      b_total := (fun_mk (st := s_total) l_total co_total k_total).binds (ps := ["some"]) fun _ _ _ _ _ _ us hl => match us, hl with | [_], _ => rfl
      g_total := PySem.W.mg_of X G g_total
      F_bad_byte := fun_mk (st := s_bad_byte) l_bad_byte co_bad_byte k_bad_byte
      b_bad_byte := (fun_mk (st := s_bad_byte) l_bad_byte co_bad_byte k_bad_byte).binds (ps := ["text"]) fun _ _ _ _ _ _ us hl => match us, hl with | [_], _ => rfl
      g_bad_byte := PySem.W.mg_of X G g_bad_byte
      F_words_of := fun_mk (st := s_words_of) l_words_of co_words_of k_words_of
      b_words_of := (fun_mk (st := s_words_of) l_words_of co_words_of k_words_of).binds (ps := ["text"]) fun _ _ _ _ _ _ us hl => match us, hl with | [_], _ => rfl
      g_words_of := PySem.W.mg_of X G g_words_of
      F_number_in := fun_mk (st := s_number_in) l_number_in co_number_in k_number_in
      b_number_in := (fun_mk (st := s_number_in) l_number_in co_number_in k_number_in).binds (ps := ["word"]) fun _ _ _ _ _ _ us hl => match us, hl with | [_], _ => rfl
      g_number_in := PySem.W.mg_of X G g_number_in
      F_is_from := fun_mk (st := s_is_from) l_is_from co_is_from k_is_from
      b_is_from := (fun_mk (st := s_is_from) l_is_from co_is_from k_is_from).binds (ps := ["number", "least", "most"]) fun _ _ _ _ _ _ us hl => match us, hl with | [_, _, _], _ => rfl
      g_is_from := PySem.W.mg_of X G g_is_from
      F_metre_in := fun_mk (st := s_metre_in) l_metre_in co_metre_in k_metre_in
      b_metre_in := (fun_mk (st := s_metre_in) l_metre_in co_metre_in k_metre_in).binds (ps := ["word"]) fun _ _ _ _ _ _ us hl => match us, hl with | [_], _ => rfl
      g_metre_in := PySem.W.mg_of X G g_metre_in
      F_is_key := fun_mk (st := s_is_key) l_is_key co_is_key k_is_key
      b_is_key := (fun_mk (st := s_is_key) l_is_key co_is_key k_is_key).binds (ps := ["word"]) fun _ _ _ _ _ _ us hl => match us, hl with | [_], _ => rfl
      g_is_key := PySem.W.mg_of X G g_is_key
      F_is_name := fun_mk (st := s_is_name) l_is_name co_is_name k_is_name
      b_is_name := (fun_mk (st := s_is_name) l_is_name co_is_name k_is_name).binds (ps := ["word"]) fun _ _ _ _ _ _ us hl => match us, hl with | [_], _ => rfl
      g_is_name := PySem.W.mg_of X G g_is_name
      F_pitch_in := fun_mk (st := s_pitch_in) l_pitch_in co_pitch_in k_pitch_in
      b_pitch_in := (fun_mk (st := s_pitch_in) l_pitch_in co_pitch_in k_pitch_in).binds (ps := ["word"]) fun _ _ _ _ _ _ us hl => match us, hl with | [_], _ => rfl
      g_pitch_in := PySem.W.mg_of X G g_pitch_in
      F_pitch_word := fun_mk (st := s_pitch_word) l_pitch_word co_pitch_word k_pitch_word
      b_pitch_word := (fun_mk (st := s_pitch_word) l_pitch_word co_pitch_word k_pitch_word).binds (ps := ["pitch"]) fun _ _ _ _ _ _ us hl => match us, hl with | [_], _ => rfl
      g_pitch_word := PySem.W.mg_of X G g_pitch_word
      F_length_in := fun_mk (st := s_length_in) l_length_in co_length_in k_length_in
      b_length_in := (fun_mk (st := s_length_in) l_length_in co_length_in k_length_in).binds (ps := ["word"]) fun _ _ _ _ _ _ us hl => match us, hl with | [_], _ => rfl
      g_length_in := PySem.W.mg_of X G g_length_in
      F_note_in := fun_mk (st := s_note_in) l_note_in co_note_in k_note_in
      b_note_in := (fun_mk (st := s_note_in) l_note_in co_note_in k_note_in).binds (ps := ["word"]) fun _ _ _ _ _ _ us hl => match us, hl with | [_], _ => rfl
      g_note_in := PySem.W.mg_of X G g_note_in
      F_rest_in := fun_mk (st := s_rest_in) l_rest_in co_rest_in k_rest_in
      b_rest_in := (fun_mk (st := s_rest_in) l_rest_in co_rest_in k_rest_in).binds (ps := ["word"]) fun _ _ _ _ _ _ us hl => match us, hl with | [_], _ => rfl
      g_rest_in := PySem.W.mg_of X G g_rest_in
      F_chord_end_in := fun_mk (st := s_chord_end_in) l_chord_end_in co_chord_end_in k_chord_end_in
      b_chord_end_in := (fun_mk (st := s_chord_end_in) l_chord_end_in co_chord_end_in k_chord_end_in).binds (ps := ["word"]) fun _ _ _ _ _ _ us hl => match us, hl with | [_], _ => rfl
      g_chord_end_in := PySem.W.mg_of X G g_chord_end_in
      F_tuplet_in := fun_mk (st := s_tuplet_in) l_tuplet_in co_tuplet_in k_tuplet_in
      b_tuplet_in := (fun_mk (st := s_tuplet_in) l_tuplet_in co_tuplet_in k_tuplet_in).binds (ps := ["word"]) fun _ _ _ _ _ _ us hl => match us, hl with | [_], _ => rfl
      g_tuplet_in := PySem.W.mg_of X G g_tuplet_in
      F_Faulty_init := fun_mk (st := s_Faulty_init) l_Faulty_init co_Faulty_init k_Faulty_init
      b_Faulty_init := (fun_mk (st := s_Faulty_init) l_Faulty_init co_Faulty_init k_Faulty_init).binds (ps := ["self", "kind", "place"]) fun _ _ _ _ _ _ us hl => match us, hl with | [_, _, _], _ => rfl
      F_Event_init := fun_mk (st := s_Event_init) l_Event_init co_Event_init k_Event_init
      b_Event_init := (fun_mk (st := s_Event_init) l_Event_init co_Event_init k_Event_init).binds (ps := ["self", "pitches", "long", "is_tied", "place"]) fun _ _ _ _ _ _ us hl => match us, hl with | [_, _, _, _, _], _ => rfl
      F_Bar_init := fun_mk (st := s_Bar_init) l_Bar_init co_Bar_init k_Bar_init
      b_Bar_init := (fun_mk (st := s_Bar_init) l_Bar_init co_Bar_init k_Bar_init).binds (ps := ["self", "words", "events", "is_short", "place"]) fun _ _ _ _ _ _ us hl => match us, hl with | [_, _, _, _, _], _ => rfl
      F_Bar_length := fun_mk (st := s_Bar_length) l_Bar_length co_Bar_length k_Bar_length
      b_Bar_length := (fun_mk (st := s_Bar_length) l_Bar_length co_Bar_length k_Bar_length).binds (ps := ["self"]) fun _ _ _ _ _ _ us hl => match us, hl with | [_], _ => rfl
      m_Bar_length := ⟨g_Bar_length, i_Bar_length, k_Bar_length⟩
      F_Voice_init := fun_mk (st := s_Voice_init) l_Voice_init co_Voice_init k_Voice_init
      b_Voice_init := (fun_mk (st := s_Voice_init) l_Voice_init co_Voice_init k_Voice_init).binds (ps := ["self", "name", "bars", "place"]) fun _ _ _ _ _ _ us hl => match us, hl with | [_, _, _, _], _ => rfl
      F_Voice_all_events := fun_mk (st := s_Voice_all_events) l_Voice_all_events co_Voice_all_events k_Voice_all_events
      b_Voice_all_events := (fun_mk (st := s_Voice_all_events) l_Voice_all_events co_Voice_all_events k_Voice_all_events).binds (ps := ["self"]) fun _ _ _ _ _ _ us hl => match us, hl with | [_], _ => rfl
      m_Voice_all_events := ⟨g_Voice_all_events, i_Voice_all_events, k_Voice_all_events⟩
      F_Score_init := fun_mk (st := s_Score_init) l_Score_init co_Score_init k_Score_init
      b_Score_init := (fun_mk (st := s_Score_init) l_Score_init co_Score_init k_Score_init).binds (ps := ["self", "metre", "whole", "key", "voices"]) fun _ _ _ _ _ _ us hl => match us, hl with | [_, _, _, _, _], _ => rfl
      F_Reader_init := fun_mk (st := s_Reader_init) l_Reader_init co_Reader_init k_Reader_init
      b_Reader_init := (fun_mk (st := s_Reader_init) l_Reader_init co_Reader_init k_Reader_init).binds (ps := ["self", "text"]) fun _ _ _ _ _ _ us hl => match us, hl with | [_, _], _ => rfl
      F_Reader_look := fun_mk (st := s_Reader_look) l_Reader_look co_Reader_look k_Reader_look
      b_Reader_look := (fun_mk (st := s_Reader_look) l_Reader_look co_Reader_look k_Reader_look).binds (ps := ["self"]) fun _ _ _ _ _ _ us hl => match us, hl with | [_], _ => rfl
      m_Reader_look := ⟨g_Reader_look, i_Reader_look, k_Reader_look⟩
      F_Reader_here := fun_mk (st := s_Reader_here) l_Reader_here co_Reader_here k_Reader_here
      b_Reader_here := (fun_mk (st := s_Reader_here) l_Reader_here co_Reader_here k_Reader_here).binds (ps := ["self"]) fun _ _ _ _ _ _ us hl => match us, hl with | [_], _ => rfl
      m_Reader_here := ⟨g_Reader_here, i_Reader_here, k_Reader_here⟩
      F_Reader_want := fun_mk (st := s_Reader_want) l_Reader_want co_Reader_want k_Reader_want
      b_Reader_want := (fun_mk (st := s_Reader_want) l_Reader_want co_Reader_want k_Reader_want).binds (ps := ["self", "truth", "kind"]) fun _ _ _ _ _ _ us hl => match us, hl with | [_, _, _], _ => rfl
      m_Reader_want := ⟨g_Reader_want, i_Reader_want, k_Reader_want⟩
      F_Reader_take := fun_mk (st := s_Reader_take) l_Reader_take co_Reader_take k_Reader_take
      b_Reader_take := (fun_mk (st := s_Reader_take) l_Reader_take co_Reader_take k_Reader_take).binds (ps := ["self"]) fun _ _ _ _ _ _ us hl => match us, hl with | [_], _ => rfl
      m_Reader_take := ⟨g_Reader_take, i_Reader_take, k_Reader_take⟩
      F_Reader_take_word := fun_mk (st := s_Reader_take_word) l_Reader_take_word co_Reader_take_word k_Reader_take_word
      b_Reader_take_word := (fun_mk (st := s_Reader_take_word) l_Reader_take_word co_Reader_take_word k_Reader_take_word).binds (ps := ["self", "word"]) fun _ _ _ _ _ _ us hl => match us, hl with | [_, _], _ => rfl
      m_Reader_take_word := ⟨g_Reader_take_word, i_Reader_take_word, k_Reader_take_word⟩
      F_Reader_score := fun_mk (st := s_Reader_score) l_Reader_score co_Reader_score k_Reader_score
      b_Reader_score := (fun_mk (st := s_Reader_score) l_Reader_score co_Reader_score k_Reader_score).binds (ps := ["self"]) fun _ _ _ _ _ _ us hl => match us, hl with | [_], _ => rfl
      m_Reader_score := ⟨g_Reader_score, i_Reader_score, k_Reader_score⟩
      F_Reader_voice := fun_mk (st := s_Reader_voice) l_Reader_voice co_Reader_voice k_Reader_voice
      b_Reader_voice := (fun_mk (st := s_Reader_voice) l_Reader_voice co_Reader_voice k_Reader_voice).binds (ps := ["self", "names"]) fun _ _ _ _ _ _ us hl => match us, hl with | [_, _], _ => rfl
      m_Reader_voice := ⟨g_Reader_voice, i_Reader_voice, k_Reader_voice⟩
      F_Reader_bar := fun_mk (st := s_Reader_bar) l_Reader_bar co_Reader_bar k_Reader_bar
      b_Reader_bar := (fun_mk (st := s_Reader_bar) l_Reader_bar co_Reader_bar k_Reader_bar).binds (ps := ["self"]) fun _ _ _ _ _ _ us hl => match us, hl with | [_], _ => rfl
      m_Reader_bar := ⟨g_Reader_bar, i_Reader_bar, k_Reader_bar⟩
      F_Reader_piece_word := fun_mk (st := s_Reader_piece_word) l_Reader_piece_word co_Reader_piece_word k_Reader_piece_word
      b_Reader_piece_word := (fun_mk (st := s_Reader_piece_word) l_Reader_piece_word co_Reader_piece_word k_Reader_piece_word).binds (ps := ["self"]) fun _ _ _ _ _ _ us hl => match us, hl with | [_], _ => rfl
      m_Reader_piece_word := ⟨g_Reader_piece_word, i_Reader_piece_word, k_Reader_piece_word⟩
      F_Reader_one_more := fun_mk (st := s_Reader_one_more) l_Reader_one_more co_Reader_one_more k_Reader_one_more
      b_Reader_one_more := (fun_mk (st := s_Reader_one_more) l_Reader_one_more co_Reader_one_more k_Reader_one_more).binds (ps := ["self"]) fun _ _ _ _ _ _ us hl => match us, hl with | [_], _ => rfl
      m_Reader_one_more := ⟨g_Reader_one_more, i_Reader_one_more, k_Reader_one_more⟩
      F_Reader_put := fun_mk (st := s_Reader_put) l_Reader_put co_Reader_put k_Reader_put
      b_Reader_put := (fun_mk (st := s_Reader_put) l_Reader_put co_Reader_put k_Reader_put).binds (ps := ["self", "pitches", "long", "is_tied", "place"]) fun _ _ _ _ _ _ us hl => match us, hl with | [_, _, _, _, _], _ => rfl
      m_Reader_put := ⟨g_Reader_put, i_Reader_put, k_Reader_put⟩
      F_Reader_single := fun_mk (st := s_Reader_single) l_Reader_single co_Reader_single k_Reader_single
      b_Reader_single := (fun_mk (st := s_Reader_single) l_Reader_single co_Reader_single k_Reader_single).binds (ps := ["self"]) fun _ _ _ _ _ _ us hl => match us, hl with | [_], _ => rfl
      m_Reader_single := ⟨g_Reader_single, i_Reader_single, k_Reader_single⟩
      F_Reader_chord := fun_mk (st := s_Reader_chord) l_Reader_chord co_Reader_chord k_Reader_chord
      b_Reader_chord := (fun_mk (st := s_Reader_chord) l_Reader_chord co_Reader_chord k_Reader_chord).binds (ps := ["self"]) fun _ _ _ _ _ _ us hl => match us, hl with | [_], _ => rfl
      m_Reader_chord := ⟨g_Reader_chord, i_Reader_chord, k_Reader_chord⟩
      F_want_bars := fun_mk (st := s_want_bars) l_want_bars co_want_bars k_want_bars
      b_want_bars := (fun_mk (st := s_want_bars) l_want_bars co_want_bars k_want_bars).binds (ps := ["voice", "whole"]) fun _ _ _ _ _ _ us hl => match us, hl with | [_, _], _ => rfl
      g_want_bars := PySem.W.mg_of X G g_want_bars
      F_want_ties := fun_mk (st := s_want_ties) l_want_ties co_want_ties k_want_ties
      b_want_ties := (fun_mk (st := s_want_ties) l_want_ties co_want_ties k_want_ties).binds (ps := ["voice"]) fun _ _ _ _ _ _ us hl => match us, hl with | [_], _ => rfl
      g_want_ties := PySem.W.mg_of X G g_want_ties
      F_want_alike := fun_mk (st := s_want_alike) l_want_alike co_want_alike k_want_alike
      b_want_alike := (fun_mk (st := s_want_alike) l_want_alike co_want_alike k_want_alike).binds (ps := ["voice", "first"]) fun _ _ _ _ _ _ us hl => match us, hl with | [_, _], _ => rfl
      g_want_alike := PySem.W.mg_of X G g_want_alike
      F_read_score := fun_mk (st := s_read_score) l_read_score co_read_score k_read_score
      b_read_score := (fun_mk (st := s_read_score) l_read_score co_read_score k_read_score).binds (ps := ["text"]) fun _ _ _ _ _ _ us hl => match us, hl with | [_], _ => rfl
      g_read_score := PySem.W.mg_of X G g_read_score
      F_form_of := fun_mk (st := s_form_of) l_form_of co_form_of k_form_of
      b_form_of := (fun_mk (st := s_form_of) l_form_of co_form_of k_form_of).binds (ps := ["score"]) fun _ _ _ _ _ _ us hl => match us, hl with | [_], _ => rfl
      g_form_of := PySem.W.mg_of X G g_form_of
      F_counts_of := fun_mk (st := s_counts_of) l_counts_of co_counts_of k_counts_of
      b_counts_of := (fun_mk (st := s_counts_of) l_counts_of co_counts_of k_counts_of).binds (ps := ["voice"]) fun _ _ _ _ _ _ us hl => match us, hl with | [_], _ => rfl
      g_counts_of := PySem.W.mg_of X G g_counts_of
      F_begins_of := fun_mk (st := s_begins_of) l_begins_of co_begins_of k_begins_of
      b_begins_of := (fun_mk (st := s_begins_of) l_begins_of co_begins_of k_begins_of).binds (ps := ["lengths"]) fun _ _ _ _ _ _ us hl => match us, hl with | [_], _ => rfl
      g_begins_of := PySem.W.mg_of X G g_begins_of
      F_bars_of := fun_mk (st := s_bars_of) l_bars_of co_bars_of k_bars_of
      b_bars_of := (fun_mk (st := s_bars_of) l_bars_of co_bars_of k_bars_of).binds (ps := ["score"]) fun _ _ _ _ _ _ us hl => match us, hl with | [_], _ => rfl
      g_bars_of := PySem.W.mg_of X G g_bars_of
      F_is_going_on := fun_mk (st := s_is_going_on) l_is_going_on co_is_going_on k_is_going_on
      b_is_going_on := (fun_mk (st := s_is_going_on) l_is_going_on co_is_going_on k_is_going_on).binds (ps := ["events", "k", "pitch"]) fun _ _ _ _ _ _ us hl => match us, hl with | [_, _, _], _ => rfl
      g_is_going_on := PySem.W.mg_of X G g_is_going_on
      F_sound_length := fun_mk (st := s_sound_length) l_sound_length co_sound_length k_sound_length
      b_sound_length := (fun_mk (st := s_sound_length) l_sound_length co_sound_length k_sound_length).binds (ps := ["events", "k"]) fun _ _ _ _ _ _ us hl => match us, hl with | [_, _], _ => rfl
      g_sound_length := PySem.W.mg_of X G g_sound_length
      F_sounds_of := fun_mk (st := s_sounds_of) l_sounds_of co_sounds_of k_sounds_of
      b_sounds_of := (fun_mk (st := s_sounds_of) l_sounds_of co_sounds_of k_sounds_of).binds (ps := ["voice"]) fun _ _ _ _ _ _ us hl => match us, hl with | [_], _ => rfl
      g_sounds_of := PySem.W.mg_of X G g_sounds_of
      F_place_of := fun_mk (st := s_place_of) l_place_of co_place_of k_place_of
      b_place_of := (fun_mk (st := s_place_of) l_place_of co_place_of k_place_of).binds (ps := ["score", "time"]) fun _ _ _ _ _ _ us hl => match us, hl with | [_, _], _ => rfl
      g_place_of := PySem.W.mg_of X G g_place_of
      F_Refused_init := fun_mk (st := s_Refused_init) l_Refused_init co_Refused_init k_Refused_init
      b_Refused_init := (fun_mk (st := s_Refused_init) l_Refused_init co_Refused_init k_Refused_init).binds (ps := ["self", "code"]) fun _ _ _ _ _ _ us hl => match us, hl with | [_, _], _ => rfl
      F_want := fun_mk (st := s_want) l_want co_want k_want
      b_want := (fun_mk (st := s_want) l_want co_want k_want).binds (ps := ["truth", "code"]) fun _ _ _ _ _ _ us hl => match us, hl with | [_, _], _ => rfl
      g_want := PySem.W.mg_of X G g_want
      F_told := fun_mk (st := s_told) l_told co_told k_told
      b_told := (fun_mk (st := s_told) l_told co_told k_told).binds (ps := ["rows"]) fun _ _ _ _ _ _ us hl => match us, hl with | [_], _ => rfl
      g_told := PySem.W.mg_of X G g_told
      F_Holder_init := fun_mk (st := s_Holder_init) l_Holder_init co_Holder_init k_Holder_init
      b_Holder_init := (fun_mk (st := s_Holder_init) l_Holder_init co_Holder_init k_Holder_init).binds (ps := ["self"]) fun _ _ _ _ _ _ us hl => match us, hl with | [_], _ => rfl
      F_Holder_score := fun_mk (st := s_Holder_score) l_Holder_score co_Holder_score k_Holder_score
      b_Holder_score := (fun_mk (st := s_Holder_score) l_Holder_score co_Holder_score k_Holder_score).binds (ps := ["self"]) fun _ _ _ _ _ _ us hl => match us, hl with | [_], _ => rfl
      m_Holder_score := ⟨g_Holder_score, i_Holder_score, k_Holder_score⟩
      F_Holder_read := fun_mk (st := s_Holder_read) l_Holder_read co_Holder_read k_Holder_read
      b_Holder_read := (fun_mk (st := s_Holder_read) l_Holder_read co_Holder_read k_Holder_read).binds (ps := ["self", "text"]) fun _ _ _ _ _ _ us hl => match us, hl with | [_, _], _ => rfl
      m_Holder_read := ⟨g_Holder_read, i_Holder_read, k_Holder_read⟩
      F_Holder_form := fun_mk (st := s_Holder_form) l_Holder_form co_Holder_form k_Holder_form
      b_Holder_form := (fun_mk (st := s_Holder_form) l_Holder_form co_Holder_form k_Holder_form).binds (ps := ["self"]) fun _ _ _ _ _ _ us hl => match us, hl with | [_], _ => rfl
      m_Holder_form := ⟨g_Holder_form, i_Holder_form, k_Holder_form⟩
      F_Holder_sounds := fun_mk (st := s_Holder_sounds) l_Holder_sounds co_Holder_sounds k_Holder_sounds
      b_Holder_sounds := (fun_mk (st := s_Holder_sounds) l_Holder_sounds co_Holder_sounds k_Holder_sounds).binds (ps := ["self", "voice"]) fun _ _ _ _ _ _ us hl => match us, hl with | [_, _], _ => rfl
      m_Holder_sounds := ⟨g_Holder_sounds, i_Holder_sounds, k_Holder_sounds⟩
      F_Holder_bars_told := fun_mk (st := s_Holder_bars_told) l_Holder_bars_told co_Holder_bars_told k_Holder_bars_told
      b_Holder_bars_told := (fun_mk (st := s_Holder_bars_told) l_Holder_bars_told co_Holder_bars_told k_Holder_bars_told).binds (ps := ["self"]) fun _ _ _ _ _ _ us hl => match us, hl with | [_], _ => rfl
      m_Holder_bars_told := ⟨g_Holder_bars_told, i_Holder_bars_told, k_Holder_bars_told⟩
      F_Holder_same := fun_mk (st := s_Holder_same) l_Holder_same co_Holder_same k_Holder_same
      b_Holder_same := (fun_mk (st := s_Holder_same) l_Holder_same co_Holder_same k_Holder_same).binds (ps := ["self", "text"]) fun _ _ _ _ _ _ us hl => match us, hl with | [_, _], _ => rfl
      m_Holder_same := ⟨g_Holder_same, i_Holder_same, k_Holder_same⟩
      F_Holder_place_told := fun_mk (st := s_Holder_place_told) l_Holder_place_told co_Holder_place_told k_Holder_place_told
      b_Holder_place_told := (fun_mk (st := s_Holder_place_told) l_Holder_place_told co_Holder_place_told k_Holder_place_told).binds (ps := ["self", "upper", "lower"]) fun _ _ _ _ _ _ us hl => match us, hl with | [_, _, _], _ => rfl
      m_Holder_place_told := ⟨g_Holder_place_told, i_Holder_place_told, k_Holder_place_told⟩
      F_Holder_called := fun_mk (st := s_Holder_called) l_Holder_called co_Holder_called k_Holder_called
      b_Holder_called := (fun_mk (st := s_Holder_called) l_Holder_called co_Holder_called k_Holder_called).binds (ps := ["self", "call", "some", "text"]) fun _ _ _ _ _ _ us hl => match us, hl with | [_, _, _, _], _ => rfl
      m_Holder_called := ⟨g_Holder_called, i_Holder_called, k_Holder_called⟩
      F_Holder_answer := fun_mk (st := s_Holder_answer) l_Holder_answer co_Holder_answer k_Holder_answer
      b_Holder_answer := (fun_mk (st := s_Holder_answer) l_Holder_answer co_Holder_answer k_Holder_answer).binds (ps := ["self", "call", "some", "text"]) fun _ _ _ _ _ _ us hl => match us, hl with | [_, _, _, _], _ => rfl
      m_Holder_answer := ⟨g_Holder_answer, i_Holder_answer, k_Holder_answer⟩
      F_answers := fun_mk (st := s_answers) l_answers co_answers k_answers
      b_answers := (fun_mk (st := s_answers) l_answers co_answers k_answers).binds (ps := ["calls"]) fun _ _ _ _ _ _ us hl => match us, hl with | [_], _ => rfl
      g_answers := PySem.W.mg_of X G g_answers
      g_Faulty := PySem.W.mg_of X G gc_Faulty
      X_Faulty := ⟨⟨nm_Faulty, q_Faulty, N_Faulty, bs_Faulty, _, sn_Faulty, sub_Faulty, ab_Faulty, col_Faulty, dd_Faulty, m0_Faulty, m1_Faulty, m2_Faulty, m3_Faulty, m5_Faulty, xL_Faulty, by decide +kernel⟩, sa_Faulty, eC_Faulty, tC_Faulty, kC_Faulty⟩
      V_Faulty := ⟨ga_Faulty, gg_Faulty, eC_Faulty, hC_Faulty⟩
      e_Faulty := exm_self eC_Faulty iC_Faulty tC_Faulty sC_Faulty
      i_Faulty := g_Faulty_init
      t_Faulty := tI_Faulty
      n_Faulty_kind := n_Faulty_kind
      n_Faulty_place := n_Faulty_place
      g_Event := PySem.W.mg_of X G gc_Event
      cl_Event := ⟨pg_Event, hd_Event, po_Event, sa_Event⟩
      M_Event := ⟨mk_Event, g_Event_init, i_Event_init, kC_Event⟩
      n_Event_pitches := n_Event_pitches
      n_Event_long := n_Event_long
      n_Event_is_tied := n_Event_is_tied
      n_Event_place := n_Event_place
      g_Bar := PySem.W.mg_of X G gc_Bar
      cl_Bar := ⟨pg_Bar, hd_Bar, po_Bar, sa_Bar⟩
      M_Bar := ⟨mk_Bar, g_Bar_init, i_Bar_init, kC_Bar⟩
      n_Bar_words := n_Bar_words
      n_Bar_events := n_Bar_events
      n_Bar_is_short := n_Bar_is_short
      n_Bar_place := n_Bar_place
      g_Voice := PySem.W.mg_of X G gc_Voice
      cl_Voice := ⟨pg_Voice, hd_Voice, po_Voice, sa_Voice⟩
      M_Voice := ⟨mk_Voice, g_Voice_init, i_Voice_init, kC_Voice⟩
      n_Voice_name := n_Voice_name
      n_Voice_bars := n_Voice_bars
      n_Voice_place := n_Voice_place
      g_Score := PySem.W.mg_of X G gc_Score
      cl_Score := ⟨pg_Score, hd_Score, po_Score, sa_Score⟩
      M_Score := ⟨mk_Score, g_Score_init, i_Score_init, kC_Score⟩
      n_Score_metre := n_Score_metre
      n_Score_whole := n_Score_whole
      n_Score_key_word := n_Score_key_word
      n_Score_voices := n_Score_voices
      g_Reader := PySem.W.mg_of X G gc_Reader
      cl_Reader := ⟨pg_Reader, hd_Reader, po_Reader, sa_Reader⟩
      M_Reader := ⟨mk_Reader, g_Reader_init, i_Reader_init, kC_Reader⟩
      n_Reader_words := n_Reader_words
      n_Reader_at := n_Reader_at
      n_Reader_end := n_Reader_end
      n_Reader_bar_words := n_Reader_bar_words
      n_Reader_events := n_Reader_events
      n_Reader_many := n_Reader_many
      n_Reader_by := n_Reader_by
      g_Refused := PySem.W.mg_of X G gc_Refused
      X_Refused := ⟨⟨nm_Refused, q_Refused, N_Refused, bs_Refused, _, sn_Refused, sub_Refused, ab_Refused, col_Refused, dd_Refused, m0_Refused, m1_Refused, m2_Refused, m3_Refused, m5_Refused, xL_Refused, by decide +kernel⟩, sa_Refused, eC_Refused, tC_Refused, kC_Refused⟩
      V_Refused := ⟨ga_Refused, gg_Refused, eC_Refused, hC_Refused⟩
      e_Refused := exm_self eC_Refused iC_Refused tC_Refused sC_Refused
      i_Refused := g_Refused_init
      t_Refused := tI_Refused
      n_Refused_code := n_Refused_code
      g_Holder := PySem.W.mg_of X G gc_Holder
      cl_Holder := ⟨pg_Holder, hd_Holder, po_Holder, sa_Holder⟩
      M_Holder := ⟨mk_Holder, g_Holder_init, i_Holder_init, kC_Holder⟩
      n_Holder_held := n_Holder_held
      vV := vV
      c_LINE_END := ⟨_, PySem.W.mg_of X G c_LINE_END⟩
      c_BLANK := ⟨_, PySem.W.mg_of X G c_BLANK⟩
      c_LAST_SIGN := ⟨_, PySem.W.mg_of X G c_LAST_SIGN⟩
      c_MOST_METRE := ⟨_, PySem.W.mg_of X G c_MOST_METRE⟩
      c_MOST_KEY := ⟨_, PySem.W.mg_of X G c_MOST_KEY⟩
      c_MOST_NAME := ⟨_, PySem.W.mg_of X G c_MOST_NAME⟩
      c_MOST_FIGURES := ⟨_, PySem.W.mg_of X G c_MOST_FIGURES⟩
      c_LEAST_TUPLET := ⟨_, PySem.W.mg_of X G c_LEAST_TUPLET⟩
      c_MOST_TUPLET := ⟨_, PySem.W.mg_of X G c_MOST_TUPLET⟩
      c_BAD_BYTE := ⟨_, PySem.W.mg_of X G c_BAD_BYTE⟩
      c_BAD_WORD := ⟨_, PySem.W.mg_of X G c_BAD_WORD⟩
      c_TOO_DEEP := ⟨_, PySem.W.mg_of X G c_TOO_DEEP⟩
      c_BAD_NAME := ⟨_, PySem.W.mg_of X G c_BAD_NAME⟩
      c_BAD_BAR := ⟨_, PySem.W.mg_of X G c_BAD_BAR⟩
      c_BAD_TIE := ⟨_, PySem.W.mg_of X G c_BAD_TIE⟩
      c_UNLIKE := ⟨_, PySem.W.mg_of X G c_UNLIKE⟩
      c_MOST_VOICES := ⟨_, PySem.W.mg_of X G c_MOST_VOICES⟩
      c_DEEPEST := ⟨_, PySem.W.mg_of X G c_DEEPEST⟩
      c_LEAST_CHORD := ⟨_, PySem.W.mg_of X G c_LEAST_CHORD⟩
      c_MOST_CHORD := ⟨_, PySem.W.mg_of X G c_MOST_CHORD⟩
      c_NO_SCORE := ⟨_, PySem.W.mg_of X G c_NO_SCORE⟩
      c_BAD_NUMBER := ⟨_, PySem.W.mg_of X G c_BAD_NUMBER⟩
      c_TOO_LATE := ⟨_, PySem.W.mg_of X G c_TOO_LATE⟩
      c_HAS_FAULT := ⟨_, PySem.W.mg_of X G c_HAS_FAULT⟩
      c_TOO_LONG := ⟨_, PySem.W.mg_of X G c_TOO_LONG⟩
      c_MOST_TEXT := ⟨_, PySem.W.mg_of X G c_MOST_TEXT⟩
      c_MOST_NUMBER := ⟨_, PySem.W.mg_of X G c_MOST_NUMBER⟩
      c_READ := ⟨_, PySem.W.mg_of X G c_READ⟩
      c_SAME := ⟨_, PySem.W.mg_of X G c_SAME⟩
      c_SIGNS := ⟨_, PySem.W.mg_of X G c_SIGNS⟩
      c_FIGURES := ⟨_, PySem.W.mg_of X G c_FIGURES⟩
      c_NAME_LETTERS := ⟨_, PySem.W.mg_of X G c_NAME_LETTERS⟩
      c_LETTERS := ⟨_, PySem.W.mg_of X G c_LETTERS⟩
      c_NOUGHT := PySem.W.mg_of X G c_NOUGHT
      c_ONE := PySem.W.mg_of X G c_ONE
      c_ACCIDENTALS := PySem.W.mg_of X G c_ACCIDENTALS
      c_METRE_PARTS := PySem.W.mg_of X G c_METRE_PARTS
      c_KINDS := PySem.W.mg_of X G c_KINDS
      c_DOTTED := PySem.W.mg_of X G c_DOTTED
      c_NUMBERS := PySem.W.mg_of X G c_NUMBERS
      q_NOUGHT := kt_of q_NOUGHT (by show 2 ≤ sizeLine; decide) (.cons ⟨_, rfl⟩ (.cons ⟨_, rfl⟩ (.nil)))
      q_ONE := kt_of q_ONE (by show 2 ≤ sizeLine; decide) (.cons ⟨_, rfl⟩ (.cons ⟨_, rfl⟩ (.nil)))
      q_ACCIDENTALS := kt_of q_ACCIDENTALS (by show 5 ≤ sizeLine; decide) (.cons ⟨_, rfl⟩ (.cons ⟨_, rfl⟩ (.cons ⟨_, rfl⟩ (.cons ⟨_, rfl⟩ (.cons ⟨_, rfl⟩ (.nil))))))
      q_METRE_PARTS := kt_of q_METRE_PARTS (by show 6 ≤ sizeLine; decide) (.cons ⟨_, rfl⟩ (.cons ⟨_, rfl⟩ (.cons ⟨_, rfl⟩ (.cons ⟨_, rfl⟩ (.cons ⟨_, rfl⟩ (.cons ⟨_, rfl⟩ (.nil)))))))
      q_KINDS := kt_of q_KINDS (by show 7 ≤ sizeLine; decide) (.cons ⟨_, rfl⟩ (.cons ⟨_, rfl⟩ (.cons ⟨_, rfl⟩ (.cons ⟨_, rfl⟩ (.cons ⟨_, rfl⟩ (.cons ⟨_, rfl⟩ (.cons ⟨_, rfl⟩ (.nil))))))))
      q_DOTTED := kt_of q_DOTTED (by show 3 ≤ sizeLine; decide) (.cons rfl (.cons rfl (.cons rfl (.nil))))
      q_DOTTED0 := kt_of q_DOTTED0 (by show 2 ≤ sizeLine; decide) (.cons ⟨_, rfl⟩ (.cons ⟨_, rfl⟩ (.nil)))
      q_DOTTED1 := kt_of q_DOTTED1 (by show 2 ≤ sizeLine; decide) (.cons ⟨_, rfl⟩ (.cons ⟨_, rfl⟩ (.nil)))
      q_DOTTED2 := kt_of q_DOTTED2 (by show 2 ≤ sizeLine; decide) (.cons ⟨_, rfl⟩ (.cons ⟨_, rfl⟩ (.nil)))
      q_NUMBERS := kt_of q_NUMBERS (by show 7 ≤ sizeLine; decide) (.cons ⟨_, rfl⟩ (.cons ⟨_, rfl⟩ (.cons ⟨_, rfl⟩ (.cons ⟨_, rfl⟩ (.cons ⟨_, rfl⟩ (.cons ⟨_, rfl⟩ (.cons ⟨_, rfl⟩ (.nil))))))))
      z_len := PySem.W.mg_none_of X G z_len
      z_int := PySem.W.mg_none_of X G z_int
      z_str := PySem.W.mg_none_of X G z_str
      z_list := PySem.W.mg_none_of X G z_list
      z_zip := PySem.W.mg_none_of X G z_zip
      z_all := PySem.W.mg_none_of X G z_all
      z_ord := PySem.W.mg_none_of X G z_ord
      z_sorted := PySem.W.mg_none_of X G z_sorted
      z_enumerate := PySem.W.mg_none_of X G z_enumerate
      z_ValueError := PySem.W.mg_none_of X G z_ValueError
    }
theorem fin_of {P : Program} {w : World} {K : PySem.W.Frag} {mg : Str → Option Value} {fa : Addr} (h : ∃ A : Ad, A.a_answers = fa ∧ Txt K mg A) :
    ∃ fd : FuncData, (∀ (s : Shared) (us : List Value), us.length = (["calls"] : List Str).length → BindsTo s fd ⟨us, []⟩ ((["calls"] : List Str).zip us)) ∧ ∀ base : Heap, K.In base → base.Ns mainGlobals mg → FnOk P w K mg base CX0 14 fa fd ["calls"] (sp_fin K) := by
  obtain ⟨A, rfl, T⟩ := h
  refine ⟨A.d_answers, fun s us hu => ?_, fun base _ _ => ok_answers T⟩
  obtain ⟨oc, od, kV, doc, pm, an, cdv, ct, osl, e, lk, hcd⟩ := T.F_answers.ex
  rw [e]
  match us, hu with
  | [_], _ => exact .of_eq rfl
end Sc

set_option Elab.async false
set_option linter.all false
open PySem PySem.W PyProof.Rows
set_option maxRecDepth 100000 in
set_option maxHeartbeats 16000000 in
theorem PySem.Challenge.cw_scoretexts_s01_answers_holds : PySem.Challenge.rw_scoretexts_s01_answers.Holds := by
  w_on; k_headS; (case hw => exact ⟨[.list [.int 1]], by decide +kernel, by decide +kernel⟩)
  k_fillS
  refine L2.walk_specK (r := PySem.Challenge.rw_scoretexts_s01_answers) (k := 14) (CX := L2.CX0) (ps := ["calls"]) (sp := Sc.sp_fin) (by decide +kernel) rfl rfl ⟨rfl, by decide, by decide⟩ (fun w h Y => PySem.W.kIn_of Y) ?F ?S (fun _ _ _ _ z => z)
  case F =>
    intro w mg fa h Y KX G hmg
    refine Sc.fin_of ?_
    refine' Sc.all_mk KX G hmg ?g_common ?l_common ?co_common ?k_common ?g_lowest ?l_lowest ?co_lowest ?k_lowest ?g_plus ?l_plus ?co_plus ?k_plus ?g_less ?l_less ?co_less ?k_less ?g_times ?l_times ?co_times ?k_times ?g_is_below ?l_is_below ?co_is_below ?k_is_below ?g_total ?l_total ?co_total ?k_total ?g_bad_byte ?l_bad_byte ?co_bad_byte ?k_bad_byte ?g_words_of ?l_words_of ?co_words_of ?k_words_of ?g_number_in ?l_number_in ?co_number_in ?k_number_in ?g_is_from ?l_is_from ?co_is_from ?k_is_from ?g_metre_in ?l_metre_in ?co_metre_in ?k_metre_in ?g_is_key ?l_is_key ?co_is_key ?k_is_key ?g_is_name ?l_is_name ?co_is_name ?k_is_name ?g_pitch_in ?l_pitch_in ?co_pitch_in ?k_pitch_in ?g_pitch_word ?l_pitch_word ?co_pitch_word ?k_pitch_word ?g_length_in ?l_length_in ?co_length_in ?k_length_in ?g_note_in ?l_note_in ?co_note_in ?k_note_in ?g_rest_in ?l_rest_in ?co_rest_in ?k_rest_in ?g_chord_end_in ?l_chord_end_in ?co_chord_end_in ?k_chord_end_in ?g_tuplet_in ?l_tuplet_in ?co_tuplet_in ?k_tuplet_in ?g_Faulty_init ?l_Faulty_init ?co_Faulty_init ?k_Faulty_init ?g_Event_init ?l_Event_init ?co_Event_init ?k_Event_init ?i_Event_init ?g_Bar_init ?l_Bar_init ?co_Bar_init ?k_Bar_init ?i_Bar_init ?g_Bar_length ?l_Bar_length ?co_Bar_length ?k_Bar_length ?i_Bar_length ?g_Voice_init ?l_Voice_init ?co_Voice_init ?k_Voice_init ?i_Voice_init ?g_Voice_all_events ?l_Voice_all_events ?co_Voice_all_events ?k_Voice_all_events ?i_Voice_all_events ?g_Score_init ?l_Score_init ?co_Score_init ?k_Score_init ?i_Score_init ?g_Reader_init ?l_Reader_init ?co_Reader_init ?k_Reader_init ?i_Reader_init ?g_Reader_look ?l_Reader_look ?co_Reader_look ?k_Reader_look ?i_Reader_look ?g_Reader_here ?l_Reader_here ?co_Reader_here ?k_Reader_here ?i_Reader_here ?g_Reader_want ?l_Reader_want ?co_Reader_want ?k_Reader_want ?i_Reader_want ?g_Reader_take ?l_Reader_take ?co_Reader_take ?k_Reader_take ?i_Reader_take ?g_Reader_take_word ?l_Reader_take_word ?co_Reader_take_word ?k_Reader_take_word ?i_Reader_take_word ?g_Reader_score ?l_Reader_score ?co_Reader_score ?k_Reader_score ?i_Reader_score ?g_Reader_voice ?l_Reader_voice ?co_Reader_voice ?k_Reader_voice ?i_Reader_voice ?g_Reader_bar ?l_Reader_bar ?co_Reader_bar ?k_Reader_bar ?i_Reader_bar ?g_Reader_piece_word ?l_Reader_piece_word ?co_Reader_piece_word ?k_Reader_piece_word ?i_Reader_piece_word ?g_Reader_one_more ?l_Reader_one_more ?co_Reader_one_more ?k_Reader_one_more ?i_Reader_one_more ?g_Reader_put ?l_Reader_put ?co_Reader_put ?k_Reader_put ?i_Reader_put ?g_Reader_single ?l_Reader_single ?co_Reader_single ?k_Reader_single ?i_Reader_single ?g_Reader_chord ?l_Reader_chord ?co_Reader_chord ?k_Reader_chord ?i_Reader_chord ?g_want_bars ?l_want_bars ?co_want_bars ?k_want_bars ?g_want_ties ?l_want_ties ?co_want_ties ?k_want_ties ?g_want_alike ?l_want_alike ?co_want_alike ?k_want_alike ?g_read_score ?l_read_score ?co_read_score ?k_read_score ?g_form_of ?l_form_of ?co_form_of ?k_form_of ?g_counts_of ?l_counts_of ?co_counts_of ?k_counts_of ?g_begins_of ?l_begins_of ?co_begins_of ?k_begins_of ?g_bars_of ?l_bars_of ?co_bars_of ?k_bars_of ?g_is_going_on ?l_is_going_on ?co_is_going_on ?k_is_going_on ?g_sound_length ?l_sound_length ?co_sound_length ?k_sound_length ?g_sounds_of ?l_sounds_of ?co_sounds_of ?k_sounds_of ?g_place_of ?l_place_of ?co_place_of ?k_place_of ?g_Refused_init ?l_Refused_init ?co_Refused_init ?k_Refused_init ?g_want ?l_want ?co_want ?k_want ?g_told ?l_told ?co_told ?k_told ?g_Holder_init ?l_Holder_init ?co_Holder_init ?k_Holder_init ?i_Holder_init ?g_Holder_score ?l_Holder_score ?co_Holder_score ?k_Holder_score ?i_Holder_score ?g_Holder_read ?l_Holder_read ?co_Holder_read ?k_Holder_read ?i_Holder_read ?g_Holder_form ?l_Holder_form ?co_Holder_form ?k_Holder_form ?i_Holder_form ?g_Holder_sounds ?l_Holder_sounds ?co_Holder_sounds ?k_Holder_sounds ?i_Holder_sounds ?g_Holder_bars_told ?l_Holder_bars_told ?co_Holder_bars_told ?k_Holder_bars_told ?i_Holder_bars_told ?g_Holder_same ?l_Holder_same ?co_Holder_same ?k_Holder_same ?i_Holder_same ?g_Holder_place_told ?l_Holder_place_told ?co_Holder_place_told ?k_Holder_place_told ?i_Holder_place_told ?g_Holder_called ?l_Holder_called ?co_Holder_called ?k_Holder_called ?i_Holder_called ?g_Holder_answer ?l_Holder_answer ?co_Holder_answer ?k_Holder_answer ?i_Holder_answer ?g_answers ?l_answers ?co_answers ?k_answers ?gc_Faulty ?xL_Faulty ?sa_Faulty ?ga_Faulty ?gg_Faulty ?eC_Faulty ?tC_Faulty ?kC_Faulty ?hC_Faulty ?iC_Faulty ?sC_Faulty ?tI_Faulty ?n_Faulty_kind ?n_Faulty_place ?gc_Event ?pg_Event ?hd_Event ?po_Event ?sa_Event ?mk_Event ?kC_Event ?n_Event_pitches ?n_Event_long ?n_Event_is_tied ?n_Event_place ?gc_Bar ?pg_Bar ?hd_Bar ?po_Bar ?sa_Bar ?mk_Bar ?kC_Bar ?n_Bar_words ?n_Bar_events ?n_Bar_is_short ?n_Bar_place ?gc_Voice ?pg_Voice ?hd_Voice ?po_Voice ?sa_Voice ?mk_Voice ?kC_Voice ?n_Voice_name ?n_Voice_bars ?n_Voice_place ?gc_Score ?pg_Score ?hd_Score ?po_Score ?sa_Score ?mk_Score ?kC_Score ?n_Score_metre ?n_Score_whole ?n_Score_key_word ?n_Score_voices ?gc_Reader ?pg_Reader ?hd_Reader ?po_Reader ?sa_Reader ?mk_Reader ?kC_Reader ?n_Reader_words ?n_Reader_at ?n_Reader_end ?n_Reader_bar_words ?n_Reader_events ?n_Reader_many ?n_Reader_by ?gc_Refused ?xL_Refused ?sa_Refused ?ga_Refused ?gg_Refused ?eC_Refused ?tC_Refused ?kC_Refused ?hC_Refused ?iC_Refused ?sC_Refused ?tI_Refused ?n_Refused_code ?gc_Holder ?pg_Holder ?hd_Holder ?po_Holder ?sa_Holder ?mk_Holder ?kC_Holder ?n_Holder_held ?vV ?c_LINE_END ?c_BLANK ?c_LAST_SIGN ?c_MOST_METRE ?c_MOST_KEY ?c_MOST_NAME ?c_MOST_FIGURES ?c_LEAST_TUPLET ?c_MOST_TUPLET ?c_BAD_BYTE ?c_BAD_WORD ?c_TOO_DEEP ?c_BAD_NAME ?c_BAD_BAR ?c_BAD_TIE ?c_UNLIKE ?c_MOST_VOICES ?c_DEEPEST ?c_LEAST_CHORD ?c_MOST_CHORD ?c_NO_SCORE ?c_BAD_NUMBER ?c_TOO_LATE ?c_HAS_FAULT ?c_TOO_LONG ?c_MOST_TEXT ?c_MOST_NUMBER ?c_READ ?c_SAME ?c_SIGNS ?c_FIGURES ?c_NAME_LETTERS ?c_LETTERS ?c_NOUGHT ?c_ONE ?c_ACCIDENTALS ?c_METRE_PARTS ?c_KINDS ?c_DOTTED ?c_NUMBERS ?q_NOUGHT ?q_ONE ?q_ACCIDENTALS ?q_METRE_PARTS ?q_KINDS ?q_DOTTED ?q_DOTTED0 ?q_DOTTED1 ?q_DOTTED2 ?q_NUMBERS ?z_len ?z_int ?z_str ?z_list ?z_zip ?z_all ?z_ord ?z_sorted ?z_enumerate ?z_ValueError
    (case gc_Faulty => k_is)
    (case gc_Event => k_is)
    (case gc_Bar => k_is)
    (case gc_Voice => k_is)
    (case gc_Score => k_is)
    (case gc_Reader => k_is)
    (case gc_Refused => k_is)
    (case gc_Holder => k_is)
    (case c_LINE_END => k_is)
    (case c_BLANK => k_is)
    (case c_LAST_SIGN => k_is)
    (case c_MOST_METRE => k_is)
    (case c_MOST_KEY => k_is)
    (case c_MOST_NAME => k_is)
    (case c_MOST_FIGURES => k_is)
    (case c_LEAST_TUPLET => k_is)
    (case c_MOST_TUPLET => k_is)
    (case c_BAD_BYTE => k_is)
    (case c_BAD_WORD => k_is)
    (case c_TOO_DEEP => k_is)
    (case c_BAD_NAME => k_is)
    (case c_BAD_BAR => k_is)
    (case c_BAD_TIE => k_is)
    (case c_UNLIKE => k_is)
    (case c_MOST_VOICES => k_is)
    (case c_DEEPEST => k_is)
    (case c_LEAST_CHORD => k_is)
    (case c_MOST_CHORD => k_is)
    (case c_NO_SCORE => k_is)
    (case c_BAD_NUMBER => k_is)
    (case c_TOO_LATE => k_is)
    (case c_HAS_FAULT => k_is)
    (case c_TOO_LONG => k_is)
    (case c_MOST_TEXT => k_is)
    (case c_MOST_NUMBER => k_is)
    (case c_READ => k_is)
    (case c_SAME => k_is)
    (case c_SIGNS => k_is)
    (case c_FIGURES => k_is)
    (case c_NAME_LETTERS => k_is)
    (case c_LETTERS => k_is)
    (case c_NOUGHT => k_is)
    (case c_ONE => k_is)
    (case c_ACCIDENTALS => k_is)
    (case c_METRE_PARTS => k_is)
    (case c_KINDS => k_is)
    (case c_DOTTED => k_is)
    (case c_NUMBERS => k_is)
    (case g_common => k_is)
    (case l_common => k_is)
    (case co_common => k_is)
    (case k_common => k_is)
    (case g_lowest => k_is)
    (case l_lowest => k_is)
    (case co_lowest => k_is)
    (case k_lowest => k_is)
    (case g_plus => k_is)
    (case l_plus => k_is)
    (case co_plus => k_is)
    (case k_plus => k_is)
    (case g_less => k_is)
    (case l_less => k_is)
    (case co_less => k_is)
    (case k_less => k_is)
    (case g_times => k_is)
    (case l_times => k_is)
    (case co_times => k_is)
    (case k_times => k_is)
    (case g_is_below => k_is)
    (case l_is_below => k_is)
    (case co_is_below => k_is)
    (case k_is_below => k_is)
    (case g_total => k_is)
    (case l_total => k_is)
    (case co_total => k_is)
    (case k_total => k_is)
    (case g_bad_byte => k_is)
    (case l_bad_byte => k_is)
    (case co_bad_byte => k_is)
    (case k_bad_byte => k_is)
    (case g_words_of => k_is)
    (case l_words_of => k_is)
    (case co_words_of => k_is)
    (case k_words_of => k_is)
    (case g_number_in => k_is)
    (case l_number_in => k_is)
    (case co_number_in => k_is)
    (case k_number_in => k_is)
    (case g_is_from => k_is)
    (case l_is_from => k_is)
    (case co_is_from => k_is)
    (case k_is_from => k_is)
    (case g_metre_in => k_is)
    (case l_metre_in => k_is)
    (case co_metre_in => k_is)
    (case k_metre_in => k_is)
    (case g_is_key => k_is)
    (case l_is_key => k_is)
    (case co_is_key => k_is)
    (case k_is_key => k_is)
    (case g_is_name => k_is)
    (case l_is_name => k_is)
    (case co_is_name => k_is)
    (case k_is_name => k_is)
    (case g_pitch_in => k_is)
    (case l_pitch_in => k_is)
    (case co_pitch_in => k_is)
    (case k_pitch_in => k_is)
    (case g_pitch_word => k_is)
    (case l_pitch_word => k_is)
    (case co_pitch_word => k_is)
    (case k_pitch_word => k_is)
    (case g_length_in => k_is)
    (case l_length_in => k_is)
    (case co_length_in => k_is)
    (case k_length_in => k_is)
    (case g_note_in => k_is)
    (case l_note_in => k_is)
    (case co_note_in => k_is)
    (case k_note_in => k_is)
    (case g_rest_in => k_is)
    (case l_rest_in => k_is)
    (case co_rest_in => k_is)
    (case k_rest_in => k_is)
    (case g_chord_end_in => k_is)
    (case l_chord_end_in => k_is)
    (case co_chord_end_in => k_is)
    (case k_chord_end_in => k_is)
    (case g_tuplet_in => k_is)
    (case l_tuplet_in => k_is)
    (case co_tuplet_in => k_is)
    (case k_tuplet_in => k_is)
    (case g_Faulty_init => k_is)
    (case l_Faulty_init => k_is)
    (case co_Faulty_init => k_is)
    (case k_Faulty_init => k_is)
    (case g_Event_init => k_is)
    (case l_Event_init => k_is)
    (case co_Event_init => k_is)
    (case k_Event_init => k_is)
    (case i_Event_init => k_is)
    (case g_Bar_init => k_is)
    (case l_Bar_init => k_is)
    (case co_Bar_init => k_is)
    (case k_Bar_init => k_is)
    (case i_Bar_init => k_is)
    (case g_Bar_length => k_is)
    (case l_Bar_length => k_is)
    (case co_Bar_length => k_is)
    (case k_Bar_length => k_is)
    (case i_Bar_length => k_is)
    (case g_Voice_init => k_is)
    (case l_Voice_init => k_is)
    (case co_Voice_init => k_is)
    (case k_Voice_init => k_is)
    (case i_Voice_init => k_is)
    (case g_Voice_all_events => k_is)
    (case l_Voice_all_events => k_is)
    (case co_Voice_all_events => k_is)
    (case k_Voice_all_events => k_is)
    (case i_Voice_all_events => k_is)
    (case g_Score_init => k_is)
    (case l_Score_init => k_is)
    (case co_Score_init => k_is)
    (case k_Score_init => k_is)
    (case i_Score_init => k_is)
    (case g_Reader_init => k_is)
    (case l_Reader_init => k_is)
    (case co_Reader_init => k_is)
    (case k_Reader_init => k_is)
    (case i_Reader_init => k_is)
    (case g_Reader_look => k_is)
    (case l_Reader_look => k_is)
    (case co_Reader_look => k_is)
    (case k_Reader_look => k_is)
    (case i_Reader_look => k_is)
    (case g_Reader_here => k_is)
    (case l_Reader_here => k_is)
    (case co_Reader_here => k_is)
    (case k_Reader_here => k_is)
    (case i_Reader_here => k_is)
    (case g_Reader_want => k_is)
    (case l_Reader_want => k_is)
    (case co_Reader_want => k_is)
    (case k_Reader_want => k_is)
    (case i_Reader_want => k_is)
    (case g_Reader_take => k_is)
    (case l_Reader_take => k_is)
    (case co_Reader_take => k_is)
    (case k_Reader_take => k_is)
    (case i_Reader_take => k_is)
    (case g_Reader_take_word => k_is)
    (case l_Reader_take_word => k_is)
    (case co_Reader_take_word => k_is)
    (case k_Reader_take_word => k_is)
    (case i_Reader_take_word => k_is)
    (case g_Reader_score => k_is)
    (case l_Reader_score => k_is)
    (case co_Reader_score => k_is)
    (case k_Reader_score => k_is)
    (case i_Reader_score => k_is)
    (case g_Reader_voice => k_is)
    (case l_Reader_voice => k_is)
    (case co_Reader_voice => k_is)
    (case k_Reader_voice => k_is)
    (case i_Reader_voice => k_is)
    (case g_Reader_bar => k_is)
    (case l_Reader_bar => k_is)
    (case co_Reader_bar => k_is)
    (case k_Reader_bar => k_is)
    (case i_Reader_bar => k_is)
    (case g_Reader_piece_word => k_is)
    (case l_Reader_piece_word => k_is)
    (case co_Reader_piece_word => k_is)
    (case k_Reader_piece_word => k_is)
    (case i_Reader_piece_word => k_is)
    (case g_Reader_one_more => k_is)
    (case l_Reader_one_more => k_is)
    (case co_Reader_one_more => k_is)
    (case k_Reader_one_more => k_is)
    (case i_Reader_one_more => k_is)
    (case g_Reader_put => k_is)
    (case l_Reader_put => k_is)
    (case co_Reader_put => k_is)
    (case k_Reader_put => k_is)
    (case i_Reader_put => k_is)
    (case g_Reader_single => k_is)
    (case l_Reader_single => k_is)
    (case co_Reader_single => k_is)
    (case k_Reader_single => k_is)
    (case i_Reader_single => k_is)
    (case g_Reader_chord => k_is)
    (case l_Reader_chord => k_is)
    (case co_Reader_chord => k_is)
    (case k_Reader_chord => k_is)
    (case i_Reader_chord => k_is)
    (case g_want_bars => k_is)
    (case l_want_bars => k_is)
    (case co_want_bars => k_is)
    (case k_want_bars => k_is)
    (case g_want_ties => k_is)
    (case l_want_ties => k_is)
    (case co_want_ties => k_is)
    (case k_want_ties => k_is)
    (case g_want_alike => k_is)
    (case l_want_alike => k_is)
    (case co_want_alike => k_is)
    (case k_want_alike => k_is)
    (case g_read_score => k_is)
    (case l_read_score => k_is)
    (case co_read_score => k_is)
    (case k_read_score => k_is)
    (case g_form_of => k_is)
    (case l_form_of => k_is)
    (case co_form_of => k_is)
    (case k_form_of => k_is)
    (case g_counts_of => k_is)
    (case l_counts_of => k_is)
    (case co_counts_of => k_is)
    (case k_counts_of => k_is)
    (case g_begins_of => k_is)
    (case l_begins_of => k_is)
    (case co_begins_of => k_is)
    (case k_begins_of => k_is)
    (case g_bars_of => k_is)
    (case l_bars_of => k_is)
    (case co_bars_of => k_is)
    (case k_bars_of => k_is)
    (case g_is_going_on => k_is)
    (case l_is_going_on => k_is)
    (case co_is_going_on => k_is)
    (case k_is_going_on => k_is)
    (case g_sound_length => k_is)
    (case l_sound_length => k_is)
    (case co_sound_length => k_is)
    (case k_sound_length => k_is)
    (case g_sounds_of => k_is)
    (case l_sounds_of => k_is)
    (case co_sounds_of => k_is)
    (case k_sounds_of => k_is)
    (case g_place_of => k_is)
    (case l_place_of => k_is)
    (case co_place_of => k_is)
    (case k_place_of => k_is)
    (case g_Refused_init => k_is)
    (case l_Refused_init => k_is)
    (case co_Refused_init => k_is)
    (case k_Refused_init => k_is)
    (case g_want => k_is)
    (case l_want => k_is)
    (case co_want => k_is)
    (case k_want => k_is)
    (case g_told => k_is)
    (case l_told => k_is)
    (case co_told => k_is)
    (case k_told => k_is)
    (case g_Holder_init => k_is)
    (case l_Holder_init => k_is)
    (case co_Holder_init => k_is)
    (case k_Holder_init => k_is)
    (case i_Holder_init => k_is)
    (case g_Holder_score => k_is)
    (case l_Holder_score => k_is)
    (case co_Holder_score => k_is)
    (case k_Holder_score => k_is)
    (case i_Holder_score => k_is)
    (case g_Holder_read => k_is)
    (case l_Holder_read => k_is)
    (case co_Holder_read => k_is)
    (case k_Holder_read => k_is)
    (case i_Holder_read => k_is)
    (case g_Holder_form => k_is)
    (case l_Holder_form => k_is)
    (case co_Holder_form => k_is)
    (case k_Holder_form => k_is)
    (case i_Holder_form => k_is)
    (case g_Holder_sounds => k_is)
    (case l_Holder_sounds => k_is)
    (case co_Holder_sounds => k_is)
    (case k_Holder_sounds => k_is)
    (case i_Holder_sounds => k_is)
    (case g_Holder_bars_told => k_is)
    (case l_Holder_bars_told => k_is)
    (case co_Holder_bars_told => k_is)
    (case k_Holder_bars_told => k_is)
    (case i_Holder_bars_told => k_is)
    (case g_Holder_same => k_is)
    (case l_Holder_same => k_is)
    (case co_Holder_same => k_is)
    (case k_Holder_same => k_is)
    (case i_Holder_same => k_is)
    (case g_Holder_place_told => k_is)
    (case l_Holder_place_told => k_is)
    (case co_Holder_place_told => k_is)
    (case k_Holder_place_told => k_is)
    (case i_Holder_place_told => k_is)
    (case g_Holder_called => k_is)
    (case l_Holder_called => k_is)
    (case co_Holder_called => k_is)
    (case k_Holder_called => k_is)
    (case i_Holder_called => k_is)
    (case g_Holder_answer => k_is)
    (case l_Holder_answer => k_is)
    (case co_Holder_answer => k_is)
    (case k_Holder_answer => k_is)
    (case i_Holder_answer => k_is)
    (case g_answers => k_is)
    (case l_answers => k_is)
    (case co_answers => k_is)
    (case k_answers => k_is)
    (case xL_Faulty => k_is)
    (case sa_Faulty => k_is)
    (case ga_Faulty => k_is)
    (case gg_Faulty => k_is)
    (case eC_Faulty => k_is)
    (case tC_Faulty => k_is)
    (case kC_Faulty => k_is)
    (case hC_Faulty => k_is)
    (case iC_Faulty => k_is)
    (case sC_Faulty => first | rfl | k_is)
    (case tI_Faulty => k_is)
    (case n_Faulty_kind => k_is)
    (case n_Faulty_place => k_is)
    (case pg_Event => k_is)
    (case hd_Event => k_is)
    (case po_Event => k_is)
    (case sa_Event => k_is)
    (case mk_Event => k_is)
    (case kC_Event => k_is)
    (case n_Event_pitches => k_is)
    (case n_Event_long => k_is)
    (case n_Event_is_tied => k_is)
    (case n_Event_place => k_is)
    (case pg_Bar => k_is)
    (case hd_Bar => k_is)
    (case po_Bar => k_is)
    (case sa_Bar => k_is)
    (case mk_Bar => k_is)
    (case kC_Bar => k_is)
    (case n_Bar_words => k_is)
    (case n_Bar_events => k_is)
    (case n_Bar_is_short => k_is)
    (case n_Bar_place => k_is)
    (case pg_Voice => k_is)
    (case hd_Voice => k_is)
    (case po_Voice => k_is)
    (case sa_Voice => k_is)
    (case mk_Voice => k_is)
    (case kC_Voice => k_is)
    (case n_Voice_name => k_is)
    (case n_Voice_bars => k_is)
    (case n_Voice_place => k_is)
    (case pg_Score => k_is)
    (case hd_Score => k_is)
    (case po_Score => k_is)
    (case sa_Score => k_is)
    (case mk_Score => k_is)
    (case kC_Score => k_is)
    (case n_Score_metre => k_is)
    (case n_Score_whole => k_is)
    (case n_Score_key_word => k_is)
    (case n_Score_voices => k_is)
    (case pg_Reader => k_is)
    (case hd_Reader => k_is)
    (case po_Reader => k_is)
    (case sa_Reader => k_is)
    (case mk_Reader => k_is)
    (case kC_Reader => k_is)
    (case n_Reader_words => k_is)
    (case n_Reader_at => k_is)
    (case n_Reader_end => k_is)
    (case n_Reader_bar_words => k_is)
    (case n_Reader_events => k_is)
    (case n_Reader_many => k_is)
    (case n_Reader_by => k_is)
    (case xL_Refused => k_is)
    (case sa_Refused => k_is)
    (case ga_Refused => k_is)
    (case gg_Refused => k_is)
    (case eC_Refused => k_is)
    (case tC_Refused => k_is)
    (case kC_Refused => k_is)
    (case hC_Refused => k_is)
    (case iC_Refused => k_is)
    (case sC_Refused => first | rfl | k_is)
    (case tI_Refused => k_is)
    (case n_Refused_code => k_is)
    (case pg_Holder => k_is)
    (case hd_Holder => k_is)
    (case po_Holder => k_is)
    (case sa_Holder => k_is)
    (case mk_Holder => k_is)
    (case kC_Holder => k_is)
    (case n_Holder_held => k_is)
    (case vV => k_is)
    (case q_NOUGHT => k_is)
    (case q_ONE => k_is)
    (case q_ACCIDENTALS => k_is)
    (case q_METRE_PARTS => k_is)
    (case q_KINDS => k_is)
    (case q_DOTTED => k_is)
    (case q_DOTTED0 => k_is)
    (case q_DOTTED1 => k_is)
    (case q_DOTTED2 => k_is)
    (case q_NUMBERS => k_is)
    (case z_len => k_is)
    (case z_int => k_is)
    (case z_str => k_is)
    (case z_list => k_is)
    (case z_zip => k_is)
    (case z_all => k_is)
    (case z_ord => k_is)
    (case z_sorted => k_is)
    (case z_enumerate => k_is)
    (case z_ValueError => k_is)
  case S =>
    intro K H xs a hO hwi hask hx
    cases hx with
    | cons h1 h2 =>
      cases h2
      cases h1 with
      | lst hs ha =>
        have e := L2.ints_dw a.1 _ ha
        subst e
        have hq : PySx62.answers_asked a.1 = true := hask
        obtain ⟨ds, e1, e2, e3, e4, e5⟩ := Sc.asked_dc hq
        refine ⟨_, rfl, _, ds, rfl, ?_, e2, e3, e4, fun p H' hp => ?_⟩
        · have hs2 : L2.SqL K H _ (a.1.map L2.V.int) := hs
          rw [e1] at hs2
          rw [Sc.nvs_nis]
          exact hs2
        · have hp2 : H' p = some (.lst ((PySx62.answers a.1).map L2.V.int)) := by rw [e5]; exact hp
          exact .lst (L2.SqL.of hp2) (L2.dw_ints _)

