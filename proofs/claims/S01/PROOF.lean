import PyProof.Rows.All
import Wide.All
import OpenK.AllK
import Wide.FinOn
import PyProof.EqAt
import PyProof.EqKinds
import PyProof.TupleCall
import Open.SpecLaws
import KE.OsGo
import HandS.ForSpec
import HandS.Comp
import HandS.Iter
import HandS.Walk
import HandS.Evl
import HandS.Wide
import HandS.SortKw
import HandS.ExcInit
import HandS.ExcField
import HandS.NoneIn
import HandS.WideBits
import PySem.Challenge.RW_kindcatch_s01_answers
set_option Elab.async false
set_option linter.all false
set_option maxRecDepth 100000
set_option maxHeartbeats 4000000
/-! Plain mathematics: binomials, fractions. No program in sight. -/
namespace Kc
/-! ### binomials -/
def C : Nat → Nat → Nat
  | _, 0 => 1
  | 0, _ + 1 => 0
  | n + 1, k + 1 => C n k + C n (k + 1)
theorem C_zero (n : Nat) : C n 0 = 1 := by cases n <;> rfl
theorem C_succ (n k : Nat) : C (n + 1) (k + 1) = C n k + C n (k + 1) := rfl
theorem C_big : ∀ (n k : Nat), n < k → C n k = 0
  | 0, 0, h => absurd h (by omega)
  | 0, k + 1, _ => rfl
  | n + 1, 0, h => absurd h (by omega)
  | n + 1, k + 1, h => by rw [C_succ, C_big n k (by omega), C_big n (k + 1) (by omega)]
theorem C_pos : ∀ (n k : Nat), k ≤ n → 0 < C n k
  | n, 0, _ => by rw [C_zero]; omega
  | 0, k + 1, h => absurd h (by omega)
  | n + 1, k + 1, h => by
    rw [C_succ]
    have := C_pos n k (by omega)
    omega
theorem C_le : ∀ (n k : Nat), C n k ≤ 2 ^ n
  | n, 0 => by rw [C_zero]; exact Nat.one_le_two_pow
  | 0, k + 1 => Nat.zero_le _
  | n + 1, k + 1 => by
    rw [C_succ, Nat.pow_succ]
    have := C_le n k
    have := C_le n (k + 1)
    omega
/-- (k + 1) C(n, k + 1) + k C(n, k) = n C(n, k) -/
theorem C_absorb : ∀ (n k : Nat), (k + 1) * C n (k + 1) + k * C n k = n * C n k
  | 0, 0 => rfl
  | 0, k + 1 => by simp [C]
  | n + 1, 0 => by
    have h := C_absorb n 0
    rw [C_succ, C_zero, C_zero] at *
    grind
  | n + 1, k + 1 => by
    have h1 := C_absorb n k
    have h2 := C_absorb n (k + 1)
    rw [C_succ, C_succ]
    grind
theorem C_stepI (n k : Nat) : (C n k : Int) * ((n : Int) - k) = (C n (k + 1) : Int) * (k + 1) := by
  have h := C_absorb n k
  have h2 : ((k + 1 : Nat) : Int) * C n (k + 1) + k * C n k = n * C n k := by exact_mod_cast h
  grind
/-- the program's step -/
theorem C_step (n k : Nat) : (C n k : Int) * ((n : Int) - k) / ((k : Int) + 1) = (C n (k + 1) : Int) := by
  rw [C_stepI]
  exact Int.mul_ediv_cancel _ (by omega)
theorem C_mono {n m : Nat} (k : Nat) (h : n ≤ m) : C n k ≤ C m k := by
  induction h with
  | refl => exact Nat.le_refl _
  | step h ih =>
    refine Nat.le_trans ih ?_
    cases k with
    | zero => rw [C_zero, C_zero]; exact Nat.le_refl _
    | succ k => rw [C_succ]; omega
/-- the specification's -/
theorem choose_fold (n : Nat) : ∀ k, k ≤ n → (List.range k).foldl (fun c i => c * (n - i) / (i + 1)) 1 = C n k
  | 0, _ => by rw [C_zero]; rfl
  | k + 1, h => by
    rw [List.range_succ, List.foldl_append, choose_fold n k (by omega)]
    show C n k * (n - k) / (k + 1) = C n (k + 1)
    have e : C n k * (n - k) = C n (k + 1) * (k + 1) := by
      have h1 := C_stepI n k
      have h2 : ((n - k : Nat) : Int) = (n : Int) - k := by omega
      have h3 : ((C n k * (n - k) : Nat) : Int) = ((C n (k + 1) * (k + 1) : Nat) : Int) := by
        rw [Int.natCast_mul, Int.natCast_mul, h2, h1]; rfl
      exact_mod_cast h3
    rw [e]
    exact Nat.mul_div_cancel _ (by omega)
theorem choose_eq (n k : Nat) : Vbecal.choose n k = C n k := by
  unfold Vbecal.choose
  by_cases h : n < k
  · rw [if_pos h, C_big n k h]
  · rw [if_neg h, choose_fold n k (by omega)]
/-! ### sums -/
theorem foldl_add : ∀ (l : List Nat) (a : Nat), l.foldl (fun a b => a + b) a = a + l.sum
  | [], a => rfl
  | x :: l, a => by
    rw [List.foldl_cons, foldl_add l, List.sum_cons]; omega
theorem sumN_eq (l : List Nat) : Vbecal.sumN l = l.sum := by
  unfold Vbecal.sumN
  rw [foldl_add]; omega
theorem all_eq (l : List Nat) : Vbecal.all l = l.sum := sumN_eq l
theorem le_sum : ∀ {l : List Nat} {a : Nat}, a ∈ l → a ≤ l.sum
  | x :: l, a, h => by
    rw [List.sum_cons]
    rcases List.mem_cons.mp h with rfl | h
    · omega
    · have := le_sum h
      omega
/-! ### fractions -/
open Vbecal (Frac frac)
def g (a b : Int) : Int := ((Nat.gcd a.natAbs b.natAbs : Nat) : Int)
theorem g_pos {a b : Int} (h : 0 < b) : 0 < g a b := by
  unfold g
  have : 0 < Nat.gcd a.natAbs b.natAbs := Nat.gcd_pos_of_pos_right _ (by omega)
  omega
theorem frac_eq {a b : Int} (h : 0 < b) : frac a b = (a / g a b, b / g a b) := by
  unfold frac
  rw [if_neg (by omega)]
  show (if b < 0 then _ else _) = _
  rw [if_neg (by omega)]; rfl
theorem g_dvd_left (a b : Int) : g a b ∣ a := Int.gcd_dvd_left _ _
theorem g_dvd_right (a b : Int) : g a b ∣ b := Int.gcd_dvd_right _ _
/-- what a fraction in lowest terms is: num * b = a * den, den > 0, no common part -/
theorem frac_spec {a b : Int} (h : 0 < b) : (frac a b).1 * b = a * (frac a b).2 ∧ 0 < (frac a b).2 ∧ Int.gcd (frac a b).1 (frac a b).2 = 1 := by
  rw [frac_eq h]
  obtain ⟨x, hx⟩ := g_dvd_left a b
  obtain ⟨y, hy⟩ := g_dvd_right a b
  have hg := g_pos (a := a) h
  have ex : a / g a b = x := by
    conv => lhs; lhs; rw [hx]
    exact Int.mul_ediv_cancel_left _ (by omega)
  have ey : b / g a b = y := by
    conv => lhs; lhs; rw [hy]
    exact Int.mul_ediv_cancel_left _ (by omega)
  refine ⟨?_, ?_, ?_⟩
  · show (a / g a b) * b = a * (b / g a b)
    rw [ex, ey]
    generalize g a b = G at *
    rw [hx, hy]
    grind
  · show 0 < b / g a b
    rw [ey]
    generalize g a b = G at *
    rw [hy] at h
    exact Int.pos_of_mul_pos_right h (by omega) 
  · show Int.gcd (a / g a b) (b / g a b) = 1
    exact Int.gcd_ediv_gcd_ediv_gcd (by
      have : g a b = ((Int.gcd a b : Nat) : Int) := rfl
      omega)
theorem dvd_cop {a b c : Int} (h : a ∣ b * c) (hg : Int.gcd b a = 1) : a ∣ c := by
  have h1 : a.natAbs ∣ b.natAbs * c.natAbs := by
    have := Int.natAbs_dvd_natAbs.mpr h
    rwa [Int.natAbs_mul] at this
  have h2 : Nat.Coprime a.natAbs b.natAbs := by
    show Nat.gcd a.natAbs b.natAbs = 1
    rw [Nat.gcd_comm]
    exact hg
  rw [Nat.mul_comm] at h1
  exact Int.natAbs_dvd_natAbs.mp (h2.dvd_of_dvd_mul_right h1)
theorem low_unique {p q r s : Int} (hq : 0 < q) (hs : 0 < s) (g1 : Int.gcd p q = 1) (g2 : Int.gcd r s = 1) (h : p * s = r * q) : p = r ∧ q = s := by
  have d1 : q ∣ s := dvd_cop (⟨r, by rw [h]; grind⟩ : q ∣ p * s) g1
  have d2 : s ∣ q := dvd_cop (⟨p, by rw [← h]; grind⟩ : s ∣ r * q) g2
  have e : q = s := Int.le_antisymm (Int.le_of_dvd hs d1) (Int.le_of_dvd hq d2)
  subst e
  exact ⟨Int.eq_of_mul_eq_mul_right (by omega) h, rfl⟩
theorem frac_ext {a b c d : Int} (hb : 0 < b) (hd : 0 < d) : frac a b = frac c d ↔ a * d = c * b := by
  obtain ⟨h1, h2, h3⟩ := frac_spec (a := a) hb
  obtain ⟨k1, k2, k3⟩ := frac_spec (a := c) hd
  constructor
  · intro e
    rw [← e] at k1 k2
    generalize (frac a b).1 = x at *
    generalize (frac a b).2 = y at *
    have : y * (a * d) = y * (c * b) := by grind
    exact Int.eq_of_mul_eq_mul_left (by omega) this
  · intro e
    have h : (frac a b).1 * (frac c d).2 = (frac c d).1 * (frac a b).2 := by
      generalize (frac a b).1 = x at *
      generalize (frac a b).2 = y at *
      generalize (frac c d).1 = z at *
      generalize (frac c d).2 = w at *
      have : (b * d) * (x * w) = (b * d) * (z * y) := by grind
      exact Int.eq_of_mul_eq_mul_left (by have := Int.mul_pos hb hd; omega) this
    obtain ⟨e1, e2⟩ := low_unique h2 k2 h3 k3 h
    exact Prod.ext e1 e2
theorem plus_frac {a b c d : Int} (hb : 0 < b) (hd : 0 < d) : Vbecal.plus (frac a b) (frac c d) = frac (a * d + c * b) (b * d) := by
  obtain ⟨h1, h2, _⟩ := frac_spec (a := a) hb
  obtain ⟨k1, k2, _⟩ := frac_spec (a := c) hd
  unfold Vbecal.plus
  refine (frac_ext (Int.mul_pos h2 k2) (Int.mul_pos hb hd)).mpr ?_
  grind
theorem minus_frac {a b c d : Int} (hb : 0 < b) (hd : 0 < d) : Vbecal.minus (frac a b) (frac c d) = frac (a * d - c * b) (b * d) := by
  obtain ⟨h1, h2, _⟩ := frac_spec (a := a) hb
  obtain ⟨k1, k2, _⟩ := frac_spec (a := c) hd
  unfold Vbecal.minus
  refine (frac_ext (Int.mul_pos h2 k2) (Int.mul_pos hb hd)).mpr ?_
  grind
theorem times_frac {a b c d : Int} (hb : 0 < b) (hd : 0 < d) : Vbecal.times (frac a b) (frac c d) = frac (a * c) (b * d) := by
  obtain ⟨h1, h2, _⟩ := frac_spec (a := a) hb
  obtain ⟨k1, k2, _⟩ := frac_spec (a := c) hd
  unfold Vbecal.times
  refine (frac_ext (Int.mul_pos h2 k2) (Int.mul_pos hb hd)).mpr ?_
  grind
theorem plus_same {a c b : Int} (hb : 0 < b) : Vbecal.plus (frac a b) (frac c b) = frac (a + c) b := by
  rw [plus_frac hb hb]
  refine (frac_ext (Int.mul_pos hb hb) hb).mpr ?_
  grind
theorem minus_same {a c b : Int} (hb : 0 < b) : Vbecal.minus (frac a b) (frac c b) = frac (a - c) b := by
  rw [minus_frac hb hb]
  refine (frac_ext (Int.mul_pos hb hb) hb).mpr ?_
  grind
theorem frac_zero {b : Int} (hb : 0 < b) : ((0, 1) : Frac) = frac 0 b := by
  have e : ((0, 1) : Frac) = frac 0 1 := by decide
  rw [e]
  exact (frac_ext (by omega) hb).mpr (by omega)
theorem frac_one {b : Int} (hb : 0 < b) : ((1, 1) : Frac) = frac b b := by
  have e : ((1, 1) : Frac) = frac 1 1 := by decide
  rw [e]
  exact (frac_ext (by omega) hb).mpr (by omega)
theorem sumF_fold {α : Type} {b : Int} (hb : 0 < b) (f : α → Int) : ∀ (l : List α) (s : Int), (l.map fun x => frac (f x) b).foldl Vbecal.plus (frac s b) = frac (s + (l.map f).sum) b
  | [], s => by simp
  | x :: l, s => by
    rw [List.map_cons, List.foldl_cons, plus_same hb, sumF_fold hb f l, List.map_cons, List.sum_cons]
    congr 1
    omega
theorem sumF_frac {α : Type} {b : Int} (hb : 0 < b) (f : α → Int) (l : List α) : Vbecal.sumF (l.map fun x => frac (f x) b) = frac ((l.map f).sum) b := by
  unfold Vbecal.sumF
  rw [frac_zero hb, sumF_fold hb]
  congr 1
  omega
theorem lessF_frac {a b c d : Int} (hb : 0 < b) (hd : 0 < d) : Vbecal.lessF (frac a b) (frac c d) = decide (a * d < c * b) := by
  obtain ⟨h1, h2, _⟩ := frac_spec (a := a) hb
  obtain ⟨k1, k2, _⟩ := frac_spec (a := c) hd
  unfold Vbecal.lessF
  generalize (frac a b).1 = x at *
  generalize (frac a b).2 = y at *
  generalize (frac c d).1 = z at *
  generalize (frac c d).2 = w at *
  have hbd := Int.mul_pos hb hd
  have hyw := Int.mul_pos h2 k2
  have e1 : (x * w) * (b * d) = (a * d) * (y * w) := by grind
  have e2 : (z * y) * (b * d) = (c * b) * (y * w) := by grind
  congr 1
  apply propext
  constructor
  · intro h
    have := Int.mul_lt_mul_of_pos_right h hbd
    rw [e1, e2] at this
    exact Int.lt_of_mul_lt_mul_right this (by omega)
  · intro h
    have := Int.mul_lt_mul_of_pos_right h hyw
    rw [← e1, ← e2] at this
    exact Int.lt_of_mul_lt_mul_right this (by omega)
end Kc


/-! Plain mathematics: what each def computes, and that it is the specification's. -/
namespace Kc
open Vbecal (Frac frac)
/-! ### sums over a range -/
def S (f : Nat → Int) : Nat → Int
  | 0 => 0
  | n + 1 => S f n + f n
theorem sum_range (f : Nat → Int) : ∀ n, ((List.range n).map f).sum = S f n
  | 0 => rfl
  | n + 1 => by
    rw [List.range_succ, List.map_append, List.sum_append, sum_range f n]
    simp [S]
theorem S_congr {f h : Nat → Int} : ∀ {n : Nat}, (∀ i, i < n → f i = h i) → S f n = S h n
  | 0, _ => rfl
  | n + 1, e => by
    show S f n + f n = S h n + h n
    rw [S_congr fun i hi => e i (by omega), e n (by omega)]
theorem S_add (f h : Nat → Int) : ∀ n, S (fun i => f i + h i) n = S f n + S h n
  | 0 => rfl
  | n + 1 => by
    show S _ n + (f n + h n) = S f n + f n + (S h n + h n)
    rw [S_add f h n]; omega
theorem S_mul (c : Int) (f : Nat → Int) : ∀ n, S (fun i => c * f i) n = c * S f n
  | 0 => by simp [S]
  | n + 1 => by
    show S _ n + c * f n = c * (S f n + f n)
    rw [S_mul c f n]; grind
theorem map_range (xs : List Nat) (f : Nat → Int) : xs.map f = (List.range xs.length).map fun i => f (xs.getD i 0) := by
  apply List.ext_getElem
  · simp
  · intro i h1 h2
    simp at h1
    simp [h1]
theorem sum_map_S (xs : List Nat) (f : Nat → Int) : (xs.map f).sum = S (fun i => f (xs.getD i 0)) xs.length := by
  rw [map_range, sum_range]
theorem sum_getD {xs : List Nat} {i : Nat} : xs.getD i 0 ≤ xs.sum := by
  by_cases h : i < xs.length
  · have : xs.getD i 0 ∈ xs := by
      rw [List.getD_eq_getElem?_getD]
      simp [h]
    exact le_sum this
  · rw [List.getD_eq_getElem?_getD]
    simp [List.getElem?_eq_none (Nat.not_lt.mp h)]
/-! ### the defs' values -/
abbrev Sm := List Nat
def low (a b : Int) : List Int := [a / g a b, b / g a b]
theorem shown_low {a b : Int} (h : 0 < b) : Vbecal.shown (frac a b) = low a b := by
  rw [frac_eq h]; rfl
def metSum (xs : Sm) (n : Nat) : Int := (xs.map fun a => (C xs.sum n : Int) - (C (xs.sum - a) n : Int)).sum
def expectedM (xs : Sm) (n : Nat) : List Int := low (metSum xs n) (C xs.sum n)
theorem C_posI {n k : Nat} (h : k ≤ n) : (0 : Int) < (C n k : Int) := by
  have := C_pos n k h
  omega
theorem met_frac {xs : Sm} {n : Nat} (h : n ≤ xs.sum) (c : Nat) : Vbecal.met xs n c = frac ((C xs.sum n : Int) - (C (xs.sum - c) n : Int)) (C xs.sum n) := by
  unfold Vbecal.met
  rw [choose_eq, choose_eq, all_eq, frac_one (C_posI h), minus_same (C_posI h)]
theorem expected_frac {xs : Sm} {n : Nat} (h : n ≤ xs.sum) : Vbecal.expected xs n = frac (metSum xs n) (C xs.sum n) := by
  unfold Vbecal.expected metSum
  rw [show (xs.map fun c => Vbecal.met xs n c) = xs.map fun c => frac ((C xs.sum n : Int) - (C (xs.sum - c) n : Int)) (C xs.sum n) from List.map_congr_left fun c _ => met_frac h c]
  rw [sumF_frac (C_posI h)]
theorem expected_is {xs : Sm} {n : Nat} (h : n ≤ xs.sum) : Vbecal.shown (Vbecal.expected xs n) = expectedM xs n := by
  rw [expected_frac h, shown_low (C_posI h)]; rfl
/-! ### variance -/
def bothMet (xs : Sm) (n i j : Nat) : Int := (C xs.sum n : Int) - C (xs.sum - xs.getD i 0) n - C (xs.sum - xs.getD j 0) n + C (xs.sum - xs.getD i 0 - xs.getD j 0) n
def pairsSum (xs : Sm) (n : Nat) : Int := ((List.range xs.length).map fun i => ((List.range i).map fun j => bothMet xs n i j).sum).sum
def varianceM (xs : Sm) (n : Nat) : List Int :=
  low ((C xs.sum n : Int) * (metSum xs n + 2 * pairsSum xs n) - metSum xs n * metSum xs n) ((C xs.sum n : Int) * C xs.sum n)
theorem cov_sum (W : Int) (A : Nat → Int) (B : Nat → Nat → Int) (hB : ∀ i j, B i j = B j i) : ∀ k : Nat,
    S (fun i => S (fun j => (if i = j then A i else B i j) * W - A i * A j) k) k =
      W * (S (fun i => W - A i) k + 2 * S (fun i => S (fun j => W - A i - A j + B i j) i) k) - S (fun i => W - A i) k * S (fun i => W - A i) k
  | 0 => by simp [S]
  | k + 1 => by
    have ih := cov_sum W A B hB k
    have e1 : S (fun i => S (fun j => (if i = j then A i else B i j) * W - A i * A j) (k + 1)) k =
        S (fun i => S (fun j => (if i = j then A i else B i j) * W - A i * A j) k) k + S (fun i => B k i * W - A k * A i) k := by
      rw [← S_add]
      refine S_congr fun i hi => ?_
      show S _ k + ((if i = k then A i else B i k) * W - A i * A k) = _
      rw [if_neg (by omega), hB i k, Int.mul_comm (A i)]
    have e2 : S (fun j => (if k = j then A k else B k j) * W - A k * A j) k = S (fun i => B k i * W - A k * A i) k :=
      S_congr fun j hj => by rw [if_neg (by omega)]
    have e3 : S (fun i => B k i * W - A k * A i) k = W * S (fun i => B k i) k - A k * S A k := by
      have : S (fun i => B k i * W - A k * A i) k = S (fun i => W * B k i + (- A k) * A i) k := S_congr fun i _ => by grind
      rw [this, S_add, S_mul, S_mul]; grind
    have e4 : S (fun j => W - A k - A j + B k j) k = S (fun i => W - A i) k - k * A k + S (fun i => B k i) k := by
      have h0 : ∀ n : Nat, S (fun _ => A k) n = n * A k := fun n => by
        induction n with
        | zero => simp [S]
        | succ n ih => show S _ n + A k = _; rw [ih]; grind
      have : S (fun j => W - A k - A j + B k j) k = S (fun j => (W - A j) + ((- 1) * A k + B k j)) k := S_congr fun i _ => by grind
      rw [this, S_add, S_add, S_mul, h0]; grind
    have e5 : S (fun i => W - A i) k = k * W - S A k := by
      have h0 : ∀ n : Nat, S (fun i => W - A i) n = n * W - S A n := fun n => by
        induction n with
        | zero => simp [S]
        | succ n ih => show S _ n + (W - A n) = (n + 1 : Nat) * W - (S A n + A n); rw [ih]; grind
      exact h0 k
    show S (fun i => S (fun j => (if i = j then A i else B i j) * W - A i * A j) (k + 1)) k + (S (fun j => (if k = j then A k else B k j) * W - A k * A j) k + ((if k = k then A k else B k k) * W - A k * A k)) =
      W * ((S (fun i => W - A i) k + (W - A k)) + 2 * (S (fun i => S (fun j => W - A i - A j + B i j) i) k + S (fun j => W - A k - A j + B k j) k)) - (S (fun i => W - A i) k + (W - A k)) * (S (fun i => W - A i) k + (W - A k))
    rw [e1, e2, ih, e3, e4, e5, if_pos rfl]
    grind
theorem variance_is {xs : Sm} {n : Nat} (h : n ≤ xs.sum) : Vbecal.shown (Vbecal.variance xs n) = varianceM xs n := by
  have hW := C_posI h
  have hWW := Int.mul_pos hW hW
  have miss : ∀ c, Vbecal.minus (1, 1) (Vbecal.met xs n c) = frac (C (xs.sum - c) n) (C xs.sum n) := fun c => by
    rw [met_frac h, frac_one hW, minus_same hW]
    congr 1
    omega
  have up : ∀ a : Int, frac a (C xs.sum n) = frac (a * C xs.sum n) ((C xs.sum n : Int) * C xs.sum n) := fun a => (frac_ext hW hWW).mpr (by grind)
  have e : Vbecal.variance xs n = frac (S (fun i => S (fun j => (if i = j then (C (xs.sum - xs.getD i 0) n : Int) else C (xs.sum - (xs.getD i 0 + xs.getD j 0)) n) * C xs.sum n - C (xs.sum - xs.getD i 0) n * C (xs.sum - xs.getD j 0) n) xs.length) xs.length) ((C xs.sum n : Int) * C xs.sum n) := by
    unfold Vbecal.variance
    dsimp only
    have e1 : ∀ i, (Vbecal.sumF ((List.range xs.length).map fun j => Vbecal.minus (if i = j then Vbecal.minus (1, 1) (Vbecal.met xs n (xs.getD i 0)) else Vbecal.missed xs n (xs.getD i 0) (xs.getD j 0)) (Vbecal.times (Vbecal.minus (1, 1) (Vbecal.met xs n (xs.getD i 0))) (Vbecal.minus (1, 1) (Vbecal.met xs n (xs.getD j 0)))))) =
        frac (S (fun j => (if i = j then (C (xs.sum - xs.getD i 0) n : Int) else C (xs.sum - (xs.getD i 0 + xs.getD j 0)) n) * C xs.sum n - C (xs.sum - xs.getD i 0) n * C (xs.sum - xs.getD j 0) n) xs.length) ((C xs.sum n : Int) * C xs.sum n) := fun i => by
      rw [← sum_range, ← sumF_frac hWW]
      refine congrArg _ (List.map_congr_left fun j _ => ?_)
      rw [miss, miss, times_frac hW hW, ← minus_same hWW]
      congr 1
      by_cases hij : i = j
      · rw [if_pos hij, if_pos hij, up]
      · rw [if_neg hij, if_neg hij, ← up]
        unfold Vbecal.missed
        rw [choose_eq, choose_eq, all_eq]
    rw [show (fun i => Vbecal.sumF ((List.range xs.length).map fun j => Vbecal.minus (if i = j then Vbecal.minus (1, 1) (Vbecal.met xs n (xs.getD i 0)) else Vbecal.missed xs n (xs.getD i 0) (xs.getD j 0)) (Vbecal.times (Vbecal.minus (1, 1) (Vbecal.met xs n (xs.getD i 0))) (Vbecal.minus (1, 1) (Vbecal.met xs n (xs.getD j 0)))))) = _ from funext e1]
    rw [sumF_frac hWW, sum_range]
  rw [e, shown_low hWW]
  rw [cov_sum (C xs.sum n) (fun i => (C (xs.sum - xs.getD i 0) n : Int)) (fun i j => (C (xs.sum - (xs.getD i 0 + xs.getD j 0)) n : Int)) (fun i j => by rw [Nat.add_comm])]
  unfold varianceM
  have m : metSum xs n = S (fun i => (C xs.sum n : Int) - C (xs.sum - xs.getD i 0) n) xs.length := sum_map_S xs _
  have p : pairsSum xs n = S (fun i => S (fun j => (C xs.sum n : Int) - C (xs.sum - xs.getD i 0) n - C (xs.sum - xs.getD j 0) n + C (xs.sum - (xs.getD i 0 + xs.getD j 0)) n) i) xs.length := by
    unfold pairsSum
    rw [sum_range]
    refine S_congr fun i _ => ?_
    rw [sum_range]
    refine S_congr fun j _ => ?_
    unfold bothMet
    rw [Nat.sub_sub]
  rw [m, p]
/-! ### times, powers, alike, over plots, shared -/
def timesM (xs : Sm) (n j : Nat) : List Int := low ((xs.map fun a => (C a j : Int) * (C (xs.sum - a) (n - j) : Int)).sum) (C xs.sum n)
theorem times_is {xs : Sm} {n j : Nat} (h : n ≤ xs.sum) (hj : j ≤ n) : Vbecal.shown (Vbecal.metTimes xs n j) = timesM xs n j := by
  unfold Vbecal.metTimes timesM
  rw [if_neg (by omega)]
  rw [show (xs.map fun c => frac ((Vbecal.choose c j * Vbecal.choose (Vbecal.all xs - c) (n - j) : Nat) : Int) ((Vbecal.choose (Vbecal.all xs) n : Nat) : Int)) = xs.map fun c => frac ((C c j : Int) * (C (xs.sum - c) (n - j) : Int)) (C xs.sum n) from
    List.map_congr_left fun c _ => by rw [choose_eq, choose_eq, choose_eq, all_eq, Int.natCast_mul]]
  rw [sumF_frac (C_posI h), shown_low (C_posI h)]
theorem natsum {α : Type} (f : α → Nat) : ∀ xs : List α, ((xs.map f).sum : Int) = (xs.map fun a => (f a : Int)).sum
  | [] => rfl
  | a :: xs => by
    rw [List.map_cons, List.map_cons, List.sum_cons, List.sum_cons, ← natsum f xs]; omega
def powersM (xs : Sm) (q : Nat) : List Int := low ((xs.map fun (a : Nat) => (a : Int) ^ q).sum) ((xs.sum : Int) ^ q)
theorem powers_is {xs : Sm} {q : Nat} (h : 0 < xs.sum) : Vbecal.shown (Vbecal.powers xs q) = powersM xs q := by
  unfold Vbecal.powers powersM
  rw [sumN_eq, all_eq, natsum, show (((xs.sum ^ q : Nat) : Int)) = (xs.sum : Int) ^ q from Int.natCast_pow _ _]
  rw [shown_low (Int.pow_pos (by omega))]
  refine congrArg (fun l => low (List.sum l) _) (List.map_congr_left fun a _ => Int.natCast_pow _ _)
def alikeM (xs : Sm) : List Int := low ((xs.map fun (a : Nat) => (a : Int) * ((a : Int) - 1)).sum) ((xs.sum : Int) * ((xs.sum : Int) - 1))
theorem pred_mul (a : Nat) : ((a * (a - 1) : Nat) : Int) = (a : Int) * ((a : Int) - 1) := by
  cases a with
  | zero => rfl
  | succ a =>
    rw [Int.natCast_mul]
    congr 1
    omega
theorem alike_is {xs : Sm} (h : 1 < xs.sum) : Vbecal.shown (Vbecal.alike xs) = alikeM xs := by
  unfold Vbecal.alike alikeM
  rw [sumN_eq, all_eq, natsum, pred_mul]
  rw [shown_low (Int.mul_pos (by omega) (by omega))]
  refine congrArg (fun l => low (List.sum l) _) (List.map_congr_left fun a _ => pred_mul a)
def having (ps : List Nat) (i : Nat) : Nat := ps.countP fun m => m / 2 ^ i % 2 == 1
def overPlotsM (ps : List Nat) (h : Nat) : List Int := low (S (fun i => (C ps.length h : Int) - C (ps.length - having ps i) h) 8) (C ps.length h)
theorem overPlots_is {ps : List Nat} {h : Nat} (hh : h ≤ ps.length) : Vbecal.shown (Vbecal.overPlots ps h) = overPlotsM ps h := by
  unfold Vbecal.overPlots overPlotsM
  have hW := C_posI hh
  rw [show (fun i => Vbecal.minus (1, 1) (frac ((Vbecal.choose (ps.length - Vbecal.plotsWith ps i) h : Nat) : Int) ((Vbecal.choose ps.length h : Nat) : Int))) = fun i => frac ((C ps.length h : Int) - C (ps.length - having ps i) h) (C ps.length h) from funext fun i => by
    rw [choose_eq, choose_eq, frac_one hW, minus_same hW]; rfl]
  rw [sumF_frac hW, shown_low hW, sum_range]; rfl
def sharedM (a b : Sm) (n m : Nat) : List Int :=
  low (S (fun i => ((C a.sum n : Int) - C (a.sum - a.getD i 0) n) * ((C b.sum m : Int) - C (b.sum - b.getD i 0) m)) a.length) ((C a.sum n : Int) * C b.sum m)
theorem shared_is {a b : Sm} {n m : Nat} (hn : n ≤ a.sum) (hm : m ≤ b.sum) : Vbecal.shown (Vbecal.shared a b n m) = sharedM a b n m := by
  unfold Vbecal.shared sharedM
  have h1 := C_posI hn
  have h2 := C_posI hm
  rw [show (fun i => Vbecal.times (Vbecal.met a n (a.getD i 0)) (Vbecal.met b m (b.getD i 0))) = fun i => frac (((C a.sum n : Int) - C (a.sum - a.getD i 0) n) * ((C b.sum m : Int) - C (b.sum - b.getD i 0) m)) ((C a.sum n : Int) * C b.sum m) from funext fun i => by
    rw [met_frac hn, met_frac hm, times_frac h1 h2]]
  rw [sumF_frac (Int.mul_pos h1 h2), shown_low (Int.mul_pos h1 h2), sum_range]
/-! ### richer, turns -/
def sooner (a b c d : Int) : Int := if c * b < a * d then 2 else if a * d = c * b then 1 else 0
def richerM (a b : Sm) (n : Nat) : Int := sooner (metSum a n) (C a.sum n) (metSum b n) (C b.sum n)
theorem richer_is {a b : Sm} {n : Nat} (ha : n ≤ a.sum) (hb : n ≤ b.sum) : (Vbecal.richer a b n : Int) = richerM a b n := by
  unfold Vbecal.richer richerM sooner
  rw [expected_frac ha, expected_frac hb, lessF_frac (C_posI hb) (C_posI ha)]
  by_cases h1 : metSum b n * (C a.sum n : Int) < metSum a n * (C b.sum n : Int)
  · rw [if_pos (decide_eq_true h1), if_pos h1]; rfl
  · rw [if_neg (by rw [decide_eq_false h1]; decide), if_neg h1]
    by_cases h2 : metSum a n * (C b.sum n : Int) = metSum b n * (C a.sum n : Int)
    · rw [if_pos ((frac_ext (C_posI ha) (C_posI hb)).mpr h2), if_pos h2]; rfl
    · rw [if_neg (fun e => h2 ((frac_ext (C_posI ha) (C_posI hb)).mp e)), if_neg h2]; rfl
def turnsM (a b : Sm) : List Int := ((List.range (min a.sum b.sum + 1)).filter fun n => decide (2 ≤ n) && decide (richerM a b n ≠ richerM a b (n - 1))).map fun (n : Nat) => (n : Int)
theorem turns_is (a b : Sm) : Vbecal.ints (Vbecal.turns a b) = turnsM a b := by
  unfold Vbecal.turns turnsM Vbecal.ints
  rw [all_eq, all_eq, List.range_succ_eq_map, List.filter_cons_of_neg (by simp), List.filter_map, List.map_map, List.map_map]
  have e : ((List.range (min a.sum b.sum)).filter fun i => decide (1 ≤ i) && Vbecal.richer a b (i + 1) != Vbecal.richer a b i) =
      (List.range (min a.sum b.sum)).filter ((fun n => decide (2 ≤ n) && decide (richerM a b n ≠ richerM a b (n - 1))) ∘ Nat.succ) := by
    refine List.filter_congr fun i hi => ?_
    have hi := List.mem_range.mp hi
    have h1 := richer_is (a := a) (b := b) (n := i + 1) (by omega) (by omega)
    have h2 := richer_is (a := a) (b := b) (n := i) (by omega) (by omega)
    show (decide (1 ≤ i) && Vbecal.richer a b (i + 1) != Vbecal.richer a b i) = (decide (2 ≤ i + 1) && decide (richerM a b (i + 1) ≠ richerM a b (i + 1 - 1)))
    rw [show i + 1 - 1 = i from rfl, ← h1, ← h2]
    have q1 : decide (1 ≤ i) = decide (2 ≤ i + 1) := by
      congr 1
      apply propext
      omega
    have q2 : (Vbecal.richer a b (i + 1) != Vbecal.richer a b i) = decide ((Vbecal.richer a b (i + 1) : Int) ≠ (Vbecal.richer a b i : Int)) := by
      by_cases h : Vbecal.richer a b (i + 1) = Vbecal.richer a b i
      · simp [h]
      · have : ¬ ((Vbecal.richer a b (i + 1) : Int) = (Vbecal.richer a b i : Int)) := by omega
        simp [h, this]
    rw [q1, q2]
  rw [e]
end Kc


/-! Plain mathematics: ways; evener. -/
namespace Kc
/-! ### sums of natural numbers -/
def N (f : Nat → Nat) : Nat → Nat
  | 0 => 0
  | n + 1 => N f n + f n
theorem N_range (f : Nat → Nat) : ∀ n, ((List.range n).map f).sum = N f n
  | 0 => rfl
  | n + 1 => by
    rw [List.range_succ, List.map_append, List.sum_append, N_range f n]
    simp [N]
theorem N_congr {f h : Nat → Nat} : ∀ {n : Nat}, (∀ i, i < n → f i = h i) → N f n = N h n
  | 0, _ => rfl
  | n + 1, e => by
    show N f n + f n = N h n + h n
    rw [N_congr fun i hi => e i (by omega), e n (by omega)]
theorem N_add (f h : Nat → Nat) : ∀ n, N (fun i => f i + h i) n = N f n + N h n
  | 0 => rfl
  | n + 1 => by
    show N _ n + (f n + h n) = N f n + f n + (N h n + h n)
    rw [N_add f h n]; omega
theorem N_mul (c : Nat) (f : Nat → Nat) : ∀ n, N (fun i => c * f i) n = c * N f n
  | 0 => by simp [N]
  | n + 1 => by
    show N _ n + c * f n = c * (N f n + f n)
    rw [N_mul c f n]; grind
theorem N_zero {f : Nat → Nat} : ∀ {n : Nat}, (∀ i, i < n → f i = 0) → N f n = 0
  | 0, _ => rfl
  | n + 1, e => by
    show N f n + f n = 0
    rw [N_zero fun i hi => e i (by omega), e n (by omega)]
theorem N_first (f : Nat → Nat) : ∀ n, N f (n + 1) = f 0 + N (fun i => f (i + 1)) n
  | 0 => by simp [N]
  | n + 1 => by
    show N f (n + 1) + f (n + 1) = f 0 + (N (fun i => f (i + 1)) n + f (n + 1))
    rw [N_first f n]; omega
theorem N_swap (f : Nat → Nat → Nat) (m : Nat) : ∀ n, N (fun i => N (fun j => f i j) m) n = N (fun j => N (fun i => f i j) n) m
  | 0 => by
    show 0 = _
    exact (N_zero fun i _ => rfl).symm
  | n + 1 => by
    show N _ n + N (fun j => f n j) m = N (fun j => N (fun i => f i j) n + f n j) m
    rw [N_swap f m n, N_add]
theorem N_le {f : Nat → Nat} {a b : Nat} (h : a ≤ b) (e : ∀ i, a ≤ i → i < b → f i = 0) : N f b = N f a := by
  induction b with
  | zero =>
    have : a = 0 := by omega
    subst this; rfl
  | succ b ih =>
    by_cases hb : a = b + 1
    · subst hb; rfl
    · show N f b + f b = N f a
      rw [ih (by omega) (fun i h1 h2 => e i h1 (by omega)), e b (by omega) (by omega)]; omega
theorem S_natCast (f : Nat → Nat) : ∀ n, S (fun i => (f i : Int)) n = (N f n : Int)
  | 0 => rfl
  | n + 1 => by
    show S _ n + (f n : Int) = ((N f n + f n : Nat) : Int)
    rw [S_natCast f n]; omega
/-! ### Vandermonde -/
theorem C_zero_succ (k : Nat) : C 0 (k + 1) = 0 := rfl
theorem vander (s : Nat) : ∀ (c m : Nat), C (s + c) m = N (fun t => C c t * C s (m - t)) (m + 1)
  | 0, m => by
    rw [N_first, N_zero (fun i _ => by rw [C_zero_succ]; simp), C_zero]
    simp
  | c + 1, 0 => by
    show C (s + (c + 1)) 0 = 0 + C (c + 1) 0 * C s 0
    rw [C_zero, C_zero, C_zero]
  | c + 1, m + 1 => by
    have h1 := vander s c m
    have h2 := vander s c (m + 1)
    show C (s + c) m + C (s + c) (m + 1) = _
    rw [h1, h2, N_first _ (m + 1), N_first _ (m + 1)]
    have e : N (fun i => C (c + 1) (i + 1) * C s (m + 1 - (i + 1))) (m + 1) = N (fun i => C c i * C s (m - i)) (m + 1) + N (fun i => C c (i + 1) * C s (m + 1 - (i + 1))) (m + 1) := by
      rw [← N_add]
      refine N_congr fun i _ => ?_
      rw [C_succ, Nat.add_mul, Nat.add_sub_add_right]
    rw [e, C_zero, C_zero]; omega
/-- with the terms that count -/
theorem vander_min (s c m : Nat) : C (s + c) m = C s m + N (fun t => C c (t + 1) * C s (m - (t + 1))) (min c m) := by
  rw [vander, N_first, C_zero]
  congr 1
  · simp
  · exact N_le (by omega) fun i h1 h2 => by rw [C_big c (i + 1) (by omega)]; simp
/-! ### ways: the table by kinds, the sums over choices of kinds -/
def F (xs : Sm) : Nat → Nat → Nat → Nat
  | 0, m, k => if m = 0 ∧ k = 0 then 1 else 0
  | i + 1, m, k => F xs i m k + (if k = 0 then 0 else N (fun t => C (xs.getD i 0) (t + 1) * F xs i (m - (t + 1)) (k - 1)) (min (xs.getD i 0) m))
theorem F_succ (xs : Sm) (i m k : Nat) : F xs (i + 1) m (k + 1) = F xs i m (k + 1) + N (fun t => C (xs.getD i 0) (t + 1) * F xs i (m - (t + 1)) k) (min (xs.getD i 0) m) := rfl
theorem F_first (xs : Sm) (i m : Nat) : F xs (i + 1) m 0 = F xs i m 0 := rfl
theorem F_big (xs : Sm) : ∀ (i m k : Nat), i < k → F xs i m k = 0
  | 0, m, k, h => if_neg (by omega)
  | i + 1, m, 0, h => absurd h (by omega)
  | i + 1, m, k + 1, h => by
    rw [F_succ, F_big xs i m (k + 1) (by omega), N_zero fun t _ => by rw [F_big xs i _ k (by omega)]; simp]
def G (xs : Sm) : Nat → Nat → List Nat
  | 0, 0 => [0]
  | 0, _ + 1 => []
  | i + 1, 0 => G xs i 0
  | i + 1, j + 1 => G xs i (j + 1) ++ (G xs i j).map fun s => s + xs.getD i 0
theorem G_first (xs : Sm) (i : Nat) : G xs (i + 1) 0 = G xs i 0 := rfl
theorem G_succ (xs : Sm) (i j : Nat) : G xs (i + 1) (j + 1) = G xs i (j + 1) ++ (G xs i j).map fun s => s + xs.getD i 0 := rfl
theorem G_big (xs : Sm) : ∀ (i j : Nat), i < j → G xs i j = []
  | 0, 0, h => absurd h (by omega)
  | 0, j + 1, _ => rfl
  | i + 1, 0, h => absurd h (by omega)
  | i + 1, j + 1, h => by rw [G_succ, G_big xs i (j + 1) (by omega), G_big xs i j (by omega)]; rfl
def sumG (xs : Sm) (i j m : Nat) : Nat := ((G xs i j).map fun s => C s m).sum
theorem sum_map_add {α : Type} (f h : α → Nat) : ∀ l : List α, (l.map fun a => f a + h a).sum = (l.map f).sum + (l.map h).sum
  | [] => rfl
  | a :: l => by
    rw [List.map_cons, List.map_cons, List.map_cons, List.sum_cons, List.sum_cons, List.sum_cons, sum_map_add f h l]; omega
theorem sum_map_N {α : Type} (f : α → Nat → Nat) (n : Nat) : ∀ l : List α, (l.map fun a => N (f a) n).sum = N (fun t => (l.map fun a => f a t).sum) n
  | [] => by
    show 0 = _
    exact (N_zero fun i _ => rfl).symm
  | a :: l => by
    have : N (fun t => ((a :: l).map fun a => f a t).sum) n = N (fun t => f a t + (l.map fun a => f a t).sum) n := N_congr fun t _ => by rw [List.map_cons, List.sum_cons]
    rw [this, N_add, List.map_cons, List.sum_cons, sum_map_N f n l]
theorem sum_map_mul {α : Type} (c : Nat) (f : α → Nat) : ∀ l : List α, (l.map fun a => c * f a).sum = c * (l.map f).sum
  | [] => by simp
  | a :: l => by
    rw [List.map_cons, List.map_cons, List.sum_cons, List.sum_cons, sum_map_mul c f l, Nat.mul_add]
theorem sumG_succ (xs : Sm) (i j m : Nat) : sumG xs (i + 1) (j + 1) m = sumG xs i (j + 1) m + (sumG xs i j m + N (fun t => C (xs.getD i 0) (t + 1) * sumG xs i j (m - (t + 1))) (min (xs.getD i 0) m)) := by
  unfold sumG
  rw [G_succ, List.map_append, List.sum_append, List.map_map]
  congr 1
  have e : ((fun s => C s m) ∘ fun s => s + xs.getD i 0) = fun s => C s m + N (fun t => C (xs.getD i 0) (t + 1) * C s (m - (t + 1))) (min (xs.getD i 0) m) := funext fun s => vander_min s _ m
  rw [e, sum_map_add, sum_map_N]
  congr 1
  exact N_congr fun t _ => sum_map_mul _ _ _
/-- with how many kinds: each choice of j kinds holds the parts met by k of them -/
theorem choice_sum (xs : Sm) : ∀ (i j m : Nat), sumG xs i j m = N (fun k => F xs i m k * C (i - k) (j - k)) (j + 1)
  | 0, 0, m => by
    show ([0].map fun s => C s m).sum = 0 + F xs 0 m 0 * C 0 0
    cases m with
    | zero => rfl
    | succ m => rfl
  | 0, j + 1, m => by
    rw [show sumG xs 0 (j + 1) m = 0 from rfl, N_zero]
    intro k hk
    by_cases h : k = 0
    · subst h
      rw [show j + 1 - 0 = j + 1 from rfl, show 0 - 0 = 0 from rfl, C_zero_succ]; simp
    · rw [F_big xs 0 m k (by omega)]; simp
  | i + 1, 0, m => by
    have h := choice_sum xs i 0 m
    rw [show sumG xs (i + 1) 0 m = sumG xs i 0 m from rfl, h]
    show 0 + F xs i m 0 * C (i - 0) (0 - 0) = 0 + F xs (i + 1) m 0 * C (i + 1 - 0) (0 - 0)
    rw [F_first, C_zero, C_zero]
  | i + 1, j + 1, m => by
    rw [sumG_succ, choice_sum xs i (j + 1) m, choice_sum xs i j m]
    have e1 : N (fun t => C (xs.getD i 0) (t + 1) * sumG xs i j (m - (t + 1))) (min (xs.getD i 0) m) =
        N (fun k => N (fun t => C (xs.getD i 0) (t + 1) * F xs i (m - (t + 1)) k) (min (xs.getD i 0) m) * C (i - k) (j - k)) (j + 1) := by
      have a1 : N (fun t => C (xs.getD i 0) (t + 1) * sumG xs i j (m - (t + 1))) (min (xs.getD i 0) m) = N (fun t => N (fun k => C (xs.getD i 0) (t + 1) * F xs i (m - (t + 1)) k * C (i - k) (j - k)) (j + 1)) (min (xs.getD i 0) m) :=
        N_congr fun t _ => by
          rw [choice_sum xs i j (m - (t + 1)), ← N_mul]
          exact N_congr fun k _ => (Nat.mul_assoc _ _ _).symm
      rw [a1, N_swap]
      refine N_congr fun k _ => ?_
      have : N (fun t => C (xs.getD i 0) (t + 1) * F xs i (m - (t + 1)) k * C (i - k) (j - k)) (min (xs.getD i 0) m) = N (fun t => C (i - k) (j - k) * (C (xs.getD i 0) (t + 1) * F xs i (m - (t + 1)) k)) (min (xs.getD i 0) m) :=
        N_congr fun t _ => Nat.mul_comm _ _
      rw [this, N_mul, Nat.mul_comm]
    have e2 : N (fun k => F xs i m k * C (i + 1 - k) (j + 1 - k)) (j + 1 + 1) = N (fun k => F xs i m k * C (i - k) (j + 1 - k)) (j + 1 + 1) + N (fun k => F xs i m k * C (i - k) (j - k)) (j + 1) := by
      show N _ (j + 1) + F xs i m (j + 1) * C (i + 1 - (j + 1)) (j + 1 - (j + 1)) = N _ (j + 1) + F xs i m (j + 1) * C (i - (j + 1)) (j + 1 - (j + 1)) + N _ (j + 1)
      rw [Nat.sub_self, C_zero, C_zero]
      have : N (fun k => F xs i m k * C (i + 1 - k) (j + 1 - k)) (j + 1) = N (fun k => F xs i m k * C (i - k) (j + 1 - k)) (j + 1) + N (fun k => F xs i m k * C (i - k) (j - k)) (j + 1) := by
        rw [← N_add]
        refine N_congr fun k hk => ?_
        by_cases hik : k ≤ i
        · rw [show i + 1 - k = (i - k) + 1 by omega, show j + 1 - k = (j - k) + 1 by omega, C_succ, Nat.mul_add]; omega
        · rw [F_big xs i m k (by omega)]; simp
      rw [this]; omega
    have e3 : N (fun k => F xs (i + 1) m k * C (i + 1 - k) (j + 1 - k)) (j + 1 + 1) = N (fun k => F xs i m k * C (i + 1 - k) (j + 1 - k)) (j + 1 + 1) +
        N (fun k => N (fun t => C (xs.getD i 0) (t + 1) * F xs i (m - (t + 1)) k) (min (xs.getD i 0) m) * C (i - k) (j - k)) (j + 1) := by
      rw [N_first, N_first (fun k => F xs i m k * C (i + 1 - k) (j + 1 - k)), F_first]
      have : N (fun k => F xs (i + 1) m (k + 1) * C (i + 1 - (k + 1)) (j + 1 - (k + 1))) (j + 1) = N (fun k => F xs i m (k + 1) * C (i + 1 - (k + 1)) (j + 1 - (k + 1))) (j + 1) +
          N (fun k => N (fun t => C (xs.getD i 0) (t + 1) * F xs i (m - (t + 1)) k) (min (xs.getD i 0) m) * C (i - k) (j - k)) (j + 1) := by
        rw [← N_add]
        refine N_congr fun k _ => ?_
        rw [F_succ, Nat.add_mul, Nat.add_sub_add_right, Nat.add_sub_add_right]
      rw [this]; omega
    rw [e3, e2, e1]; omega
/-! the program's own: found, number by number -/
def wl (xs : Sm) (n : Nat) : Nat → List Int
  | 0 => []
  | j + 1 => wl xs n j ++ [((G xs xs.length j).map fun s => (C s n : Int)).sum - S (fun k => (wl xs n j).getD k 0 * (C (xs.length - k) (j - k) : Int)) j]
def waysM (xs : Sm) (n : Nat) : List Int := wl xs n (xs.length + 1)
theorem wl_is (xs : Sm) (n : Nat) : ∀ j, wl xs n j = (List.range j).map fun k => (F xs xs.length n k : Int)
  | 0 => rfl
  | j + 1 => by
    have ih := wl_is xs n j
    rw [List.range_succ, List.map_append, ← ih]
    show wl xs n j ++ [_] = wl xs n j ++ [_]
    congr 2
    have h := choice_sum xs xs.length j n
    have h2 : (sumG xs xs.length j n : Int) = (N (fun k => F xs xs.length n k * C (xs.length - k) (j - k)) j : Int) + F xs xs.length n j := by
      rw [h]
      show ((N _ j + F xs xs.length n j * C (xs.length - j) (j - j) : Nat) : Int) = _
      rw [Nat.sub_self, C_zero]; omega
    have h3 : ((G xs xs.length j).map fun s => (C s n : Int)).sum = (sumG xs xs.length j n : Int) := (natsum (fun s => C s n) _).symm
    have h4 : S (fun k => (wl xs n j).getD k 0 * (C (xs.length - k) (j - k) : Int)) j = (N (fun k => F xs xs.length n k * C (xs.length - k) (j - k)) j : Int) := by
      rw [← S_natCast]
      refine S_congr fun k hk => ?_
      rw [ih, List.getD_eq_getElem?_getD, List.getElem?_map, List.getElem?_range hk]
      show (F xs xs.length n k : Int) * _ = _
      rw [Int.natCast_mul]
    show _ = (F xs xs.length n j : Int)
    rw [h3, h4, h2]; omega
/-! the specification's table -/
theorem table (xs : Sm) (n : Nat) : ∀ i, i ≤ xs.length →
    (xs.take i).foldl (Vbecal.addKind n) ((List.range (n + 1)).map fun m => (List.range (xs.length + 1)).map fun k => if m = 0 ∧ k = 0 then 1 else 0) =
      (List.range (n + 1)).map fun m => (List.range (xs.length + 1)).map fun k => F xs i m k
  | 0, _ => rfl
  | i + 1, h => by
    have e : xs.take (i + 1) = xs.take i ++ [xs.getD i 0] := by
      rw [List.take_add_one, List.getD_eq_getElem?_getD]
      simp [show i < xs.length by omega]
    rw [e, List.foldl_append, table xs n i (by omega)]
    show Vbecal.addKind n _ (xs.getD i 0) = _
    unfold Vbecal.addKind
    have hd : (((List.range (n + 1)).map fun m => (List.range (xs.length + 1)).map fun k => F xs i m k).headD []).length = xs.length + 1 := by
      rw [show List.range (n + 1) = 0 :: (List.range n).map Nat.succ from List.range_succ_eq_map ..]
      simp
    have get : ∀ m k, m ≤ n → k ≤ xs.length → (((List.range (n + 1)).map fun m => (List.range (xs.length + 1)).map fun k => F xs i m k).getD m []).getD k 0 = F xs i m k := fun m k hm hk => by
      rw [List.getD_eq_getElem?_getD (l := (List.range (n + 1)).map _), List.getElem?_map, List.getElem?_range (by omega)]
      show ((List.range (xs.length + 1)).map fun k => F xs i m k).getD k 0 = _
      rw [List.getD_eq_getElem?_getD, List.getElem?_map, List.getElem?_range (by omega)]
      rfl
    rw [hd]
    refine List.map_congr_left fun m hm => ?_
    have hm := List.mem_range.mp hm
    refine List.map_congr_left fun k hk => ?_
    have hk := List.mem_range.mp hk
    rw [get m k (by omega) (by omega)]
    show _ = F xs i m k + (if k = 0 then 0 else N (fun t => C (xs.getD i 0) (t + 1) * F xs i (m - (t + 1)) (k - 1)) (min (xs.getD i 0) m))
    congr 1
    by_cases h0 : k = 0
    · rw [if_pos h0, if_pos h0]
    · rw [if_neg h0, if_neg h0, sumN_eq, N_range]
      refine N_congr fun t _ => ?_
      rw [choose_eq, get _ _ (by omega) (by omega)]
theorem ways_is (xs : Sm) (n : Nat) : Vbecal.ints (Vbecal.ways xs n) = waysM xs n := by
  unfold waysM Vbecal.ways
  rw [wl_is]
  have h := table xs n xs.length (Nat.le_refl _)
  rw [List.take_length] at h
  dsimp only
  rw [h, List.getD_eq_getElem?_getD, List.getElem?_map, List.getElem?_range (by omega)]
  show Vbecal.ints ((List.range (xs.length + 1)).map fun k => F xs xs.length n k) = _
  unfold Vbecal.ints
  rw [List.map_map]; rfl
theorem ways_len (xs : Sm) (n : Nat) : (waysM xs n).length = xs.length + 1 := by
  unfold waysM
  rw [wl_is]; simp
theorem wl_len (xs : Sm) (n j : Nat) : (wl xs n j).length = j := by
  rw [wl_is]; simp
/-! bounds of the choices' sums -/
theorem G_len (xs : Sm) : ∀ i j, (G xs i j).length ≤ 2 ^ i
  | 0, 0 => by simp [G]
  | 0, j + 1 => by simp [G]
  | i + 1, 0 => by
    rw [G_first, Nat.pow_succ]
    have := G_len xs i 0
    omega
  | i + 1, j + 1 => by
    rw [G_succ, List.length_append, List.length_map, Nat.pow_succ]
    have := G_len xs i (j + 1)
    have := G_len xs i j
    omega
theorem G_le {xs : Sm} (h : ∀ a ∈ xs, a ≤ 40) : ∀ i j s, s ∈ G xs i j → s ≤ 40 * i
  | 0, 0, s, m => by
    rcases List.mem_cons.mp m with rfl | m
    · omega
    · cases m
  | 0, j + 1, s, m => by cases m
  | i + 1, 0, s, m => by
    have := G_le h i 0 s m
    omega
  | i + 1, j + 1, s, m => by
    rw [G_succ] at m
    rcases List.mem_append.mp m with m | m
    · have := G_le h i (j + 1) s m
      omega
    · obtain ⟨t, ht, rfl⟩ := List.mem_map.mp m
      have h1 := G_le h i j t ht
      have h2 : xs.getD i 0 ≤ 40 := by
        by_cases hi : i < xs.length
        · refine h _ ?_
          rw [List.getD_eq_getElem?_getD]
          simp [hi]
        · rw [List.getD_eq_getElem?_getD, List.getElem?_eq_none (by omega)]; decide
      omega
/-! ### evener -/
theorem put_perm (c : Nat) : ∀ l : List Nat, (Vbecal.putDown c l).Perm (c :: l)
  | [] => List.Perm.refl _
  | d :: l => by
    unfold Vbecal.putDown
    by_cases h : d < c
    · rw [if_pos h]
    · rw [if_neg h]
      exact ((put_perm c l).cons d).trans (List.Perm.swap ..)
theorem put_down (c : Nat) : ∀ l : List Nat, l.Pairwise (· ≥ ·) → (Vbecal.putDown c l).Pairwise (· ≥ ·)
  | [], _ => List.pairwise_singleton ..
  | d :: l, h => by
    unfold Vbecal.putDown
    obtain ⟨h1, h2⟩ := List.pairwise_cons.mp h
    by_cases hd : d < c
    · rw [if_pos hd]
      refine List.pairwise_cons.mpr ⟨fun x hx => ?_, h⟩
      rcases List.mem_cons.mp hx with rfl | hx
      · exact Nat.le_of_lt hd
      · have : d ≥ x := h1 x hx
        show c ≥ x
        omega
    · rw [if_neg hd]
      refine List.pairwise_cons.mpr ⟨fun x hx => ?_, put_down c l h2⟩
      rcases List.mem_cons.mp ((put_perm c l).mem_iff.mp hx) with rfl | hx
      · show d ≥ x
        omega
      · exact h1 x hx
theorem fall_go : ∀ (a l : List Nat), l.Pairwise (· ≥ ·) → (a.foldl (fun l c => Vbecal.putDown c l) l).Perm (a ++ l) ∧ (a.foldl (fun l c => Vbecal.putDown c l) l).Pairwise (· ≥ ·)
  | [], l, h => ⟨List.Perm.refl _, h⟩
  | c :: a, l, h => by
    obtain ⟨h1, h2⟩ := fall_go a (Vbecal.putDown c l) (put_down c l h)
    refine ⟨h1.trans ?_, h2⟩
    exact ((put_perm c l).append_left a).trans List.perm_middle
theorem falling_perm (a : Sm) : (Vbecal.falling a).Perm a := by
  have h := (fall_go a [] List.Pairwise.nil).1
  rw [List.append_nil] at h
  exact h
theorem falling_down (a : Sm) : (Vbecal.falling a).Pairwise (· ≥ ·) := (fall_go a [] List.Pairwise.nil).2
theorem sums_at : ∀ (l : List Nat) (s i : Nat), (Vbecal.sums s l).getD i (s + l.sum) = s + (l.take (i + 1)).sum
  | [], s, i => by simp [Vbecal.sums]
  | c :: l, s, 0 => by
    show s + c = s + ([c] : List Nat).sum
    simp
  | c :: l, s, i + 1 => by
    show (Vbecal.sums (s + c) l).getD i (s + (c :: l).sum) = s + (c :: l.take (i + 1)).sum
    rw [List.sum_cons, List.sum_cons, ← Nat.add_assoc, sums_at l (s + c) i]; omega
/-- how many animals the i + 1 greatest kinds have -/
def great (xs : Sm) (i : Nat) : Nat := ((Vbecal.falling xs).take (i + 1)).sum
theorem great_at (xs : Sm) (i : Nat) : (Vbecal.sums 0 (Vbecal.falling xs)).getD i (Vbecal.all xs) = great xs i := by
  have h := sums_at (Vbecal.falling xs) 0 i
  rw [Nat.zero_add, Nat.zero_add, (falling_perm xs).sum_nat] at h
  rw [all_eq, h]; rfl
def evenM (a b : Sm) : Bool := (List.range (max a.length b.length)).all fun i => decide ((great a i : Int) * b.sum ≤ (great b i : Int) * a.sum)
theorem even_is (a b : Sm) : Vbecal.evener a b = evenM a b := by
  unfold Vbecal.evener evenM
  dsimp only
  congr 1
  funext i
  rw [great_at, great_at, all_eq, all_eq]
  apply decide_eq_decide.mpr
  rw [← Int.natCast_mul, ← Int.natCast_mul]
  omega
theorem great_le (xs : Sm) (i : Nat) : great xs i ≤ xs.sum := by
  unfold great
  have h := (falling_perm xs).sum_nat
  have h2 : (Vbecal.falling xs).sum = ((Vbecal.falling xs).take (i + 1)).sum + ((Vbecal.falling xs).drop (i + 1)).sum := by
    rw [← List.sum_append, List.take_append_drop]
  omega
/-- a sort going down is the specification's -/
theorem sorted_is {xs : Sm} {ns : List Int} (hp : ns.Perm (xs.map fun (n : Nat) => (n : Int))) (hd : ns.Pairwise (· ≥ ·)) : ns = (Vbecal.falling xs).map fun (n : Nat) => (n : Int) := by
  refine List.Perm.eq_of_pairwise (le := fun a b => decide (a ≥ b)) ?_ ?_ ?_ ?_
  · intro a b _ _ h1 h2
    have := of_decide_eq_true h1
    have := of_decide_eq_true h2
    omega
  · exact hd.imp fun h => decide_eq_true h
  · rw [List.pairwise_map]
    exact (falling_down xs).imp fun h => by
      apply decide_eq_true
      have : _ ≥ _ := h
      omega
  · exact hp.trans ((falling_perm xs).map _).symm
end Kc


/-! Short words for the walk. -/
namespace Kw
open PySem PySem.Spec PyProof.Rows L2 Evl
def top (i : Nat) : Stmt := PySem.Challenge.pw_kindcatch_s01_answers.main.body.getD i (.Pass ⟨0, 0, 0, 0⟩)
/-! ### callees -/
/-- the name nm holds a def that keeps sp -/
def Callee (P : Program) (w : World) (K : PySem.W.Frag) (mg : Str → Option Value) (base : Heap) (CX : CXT) (k : Nat) (nm : Str) (ps : List Str) (sp : Sp) : Prop :=
  ∃ f fd, FnOk P w K mg base CX k f fd ps sp ∧ mg nm = some (.ref f) ∧ PySem.W.keepIn K (.ref f) = true ∧ Binds K fd ps []
/-- the def of the text stands under its name -/
def DefIn (K : PySem.W.Frag) (mg : Str → Option Value) (nm qual : Str) (st : Stmt) (ps : List Str) : Prop :=
  ∃ f fd, Fun K nm qual st f fd ∧ mg nm = some (.ref f) ∧ Binds K fd ps []
/-- a method of the class at C -/
def MCallee (P : Program) (w : World) (K : PySem.W.Frag) (mg : Str → Option Value) (base : Heap) (CX : CXT) (C : Addr) (k : Nat) (m : Str) (ps : List Str) (sp : Sp) : Prop :=
  ∃ f fd, FnOk P w K mg base CX k f fd ps sp ∧ Meth K C m f ∧ Binds K fd ps []
def MDefIn (K : PySem.W.Frag) (C : Addr) (m qual : Str) (st : Stmt) (ps : List Str) : Prop :=
  ∃ f fd, Fun K m qual st f fd ∧ Meth K C m f ∧ Binds K fd ps []
/-- a class that is made -/
def KCallee (P : Program) (w : World) (K : PySem.W.Frag) (mg : Str → Option Value) (base : Heap) (CX : CXT) (C : Addr) (k : Nat) (nm : Str) (ps : List Str) (sp : Sp) : Prop :=
  ∃ f fd, FnOk P w K mg base CX k f fd ps sp ∧ Mk K C f ∧ mg nm = some (.ref C) ∧ Binds K fd ps []
section
variable {X : Cx} {CX : CXT} {k : Nat} {nm : Str} {C : Addr} {ps : List Str} {sp : Sp} {E : XK} {p pos apos : Pos} {e o : Expr} {es : List Expr} {t : TA} {ta : TE}
theorem pe_callC (c : Callee X.prog X.w X.K X.mg X.base CX k nm ps sp) (hr : Room k X.A) (hg : Gl X nm) (hx : Passes CX X E) (ha : PA X (e :: es) t) (hdb : (nm == ("__debug__" : Str)) = false := by decide)
    (he : starEach (e :: es) X.env = (false, eval e X.env) :: starEach es X.env := by rfl) (hpl : (backTo pos (starEach es X.env)).any (·.1) = false := by rfl) :
    PE X (.Call (.Name nm p) (e :: es) [] pos) (tCall sp [] E t) := by
  obtain ⟨f, fd, F, m, kp, b⟩ := c
  exact pe_call F hr hg m kp b .nil hx ha hdb he hpl
theorem pe_methC {pl : Sem Bool} (c : Cls X.K C) (m : MCallee X.prog X.w X.K X.mg X.base CX C k nm ps sp) (he : PE X o ta) (hr : Room k X.A) (hx : Passes CX X E) (ha : PA X (e :: es) t)
    (hst : starEach (e :: es) X.env = (false, eval e X.env) :: starEach es X.env := by rfl) (hpl : (backTo pos (starEach es X.env)).any (·.1) = false := by rfl)
    (ht : eval (.Call (.Attribute o nm apos) (e :: es) [] pos) X.env = (do
      let ov ← eval o X.env
      standAt apos.atName
      let (f, first) ← holding [ov] (getMethod ov nm pl)
      callWith pos f first (backTo pos (starEach (e :: es) X.env)) (backToKw pos (keywordEach [] X.env))) := by rfl) :
    PE X (.Call (.Attribute o nm apos) (e :: es) [] pos) (tMeth C nm sp [] E ta t) := by
  obtain ⟨f, fd, F, mt, b⟩ := m
  exact pe_meth he c mt F hr b .nil hx ha hst hpl ht
theorem pe_makeC (c : KCallee X.prog X.w X.K X.mg X.base CX C k nm ps sp) (hr : Room (k + 1) X.A) (hg : Gl X nm) (hx : Passes CX X E) (ha : PA X (e :: es) t) (hdb : (nm == ("__debug__" : Str)) = false := by decide)
    (he : starEach (e :: es) X.env = (false, eval e X.env) :: starEach es X.env := by rfl) (hpl : (backTo pos (starEach es X.env)).any (·.1) = false := by rfl) :
    PE X (.Call (.Name nm p) (e :: es) [] pos) (tMake C sp [] E t) := by
  obtain ⟨f, fd, F, mk, m, b⟩ := c
  exact pe_make mk F hr hg m b .nil hx ha hdb he hpl
theorem pe_makeC0 (c : KCallee X.prog X.w X.K X.mg X.base CX C k nm ps sp) (hr : Room (k + 1) X.A) (hg : Gl X nm) (hx : Passes CX X E) (hdb : (nm == ("__debug__" : Str)) = false := by decide) :
    PE X (.Call (.Name nm p) [] [] pos) (tMake C sp [] E tNil) := by
  obtain ⟨f, fd, F, mk, m, b⟩ := c
  exact pe_make0 mk F hr hg m b .nil hx hdb
end
section
variable {P : Program} {w : World} {K : PySem.W.Frag} {mg : Str → Option Value} {base : Heap}
/-- a def that raises nothing: its body as a term, the reading of that term -/
theorem callee {nm qual : Str} {st : Stmt} {N ps : List Str} {k : Nat} {sp : Sp} (D : DefIn K mg nm qual st ps) (S : FnScope N ps (defScope st)) (len : ∀ vs H Q E, sp vs H Q E → vs.length = ps.length)
    (hbody : ∀ (f : Addr) (cdv : Value) (A : Around) (outer : List Env) (s : Shared) (H : Hp) (vs : List V) (Q : VK) (E : XK), Room k (A.deeper (envOfC qual (defScope st) s.heap.objs.size f cdv)) → sp vs H Q E →
      ∃ t, PSs (cxOf CX0 P w K mg base N qual (defScope st) f cdv A outer s H E).nox (defBody st) t ∧ t { nx := fun _ H' => Q .non H', rt := Q } (start N vs) H) : Callee P w K mg base CX0 (k + 1) nm ps sp := by
  obtain ⟨f, fd, F, m, b⟩ := D
  exact ⟨f, fd, F.ok S len (hbody f), m, F.kp, b⟩
theorem calleeX {nm qual : Str} {st : Stmt} {N ps : List Str} {k : Nat} {sp : Sp} (D : DefIn K mg nm qual st ps) (S : FnScope N ps (defScope st)) (len : ∀ vs H Q E, sp vs H Q E → vs.length = ps.length)
    (hbody : ∀ (f : Addr) (cdv : Value) (A : Around) (outer : List Env) (s : Shared) (H : Hp) (vs : List V) (Q : VK) (E : XK), Room k (A.deeper (envOfC qual (defScope st) s.heap.objs.size f cdv)) → sp vs H Q E →
      ∃ t, PSs (cxOf (L2.CX P w) P w K mg base N qual (defScope st) f cdv A outer s H E) (defBody st) t ∧ t { nx := fun _ H' => Q .non H', rt := Q } (start N vs) H) : Callee P w K mg base (L2.CX P w) (k + 1) nm ps sp := by
  obtain ⟨f, fd, F, m, b⟩ := D
  exact ⟨f, fd, F.okX S len (hbody f), m, F.kp, b⟩
theorem mcallee {C : Addr} {nm qual : Str} {st : Stmt} {N ps : List Str} {k : Nat} {sp : Sp} (D : MDefIn K C nm qual st ps) (S : FnScope N ps (defScope st)) (len : ∀ vs H Q E, sp vs H Q E → vs.length = ps.length)
    (hbody : ∀ (f : Addr) (cdv : Value) (A : Around) (outer : List Env) (s : Shared) (H : Hp) (vs : List V) (Q : VK) (E : XK), Room k (A.deeper (envOfC qual (defScope st) s.heap.objs.size f cdv)) → sp vs H Q E →
      ∃ t, PSs (cxOf (L2.CX P w) P w K mg base N qual (defScope st) f cdv A outer s H E) (defBody st) t ∧ t { nx := fun _ H' => Q .non H', rt := Q } (start N vs) H) : MCallee P w K mg base (L2.CX P w) C (k + 1) nm ps sp := by
  obtain ⟨f, fd, F, m, b⟩ := D
  exact ⟨f, fd, F.okX S len (hbody f), m, b⟩
end
/-! ### values -/
abbrev IL (K : PySem.W.Frag) (H : Hp) (a : Addr) (ns : List Int) : Prop := SqL K H a (ns.map V.int)
/-- the built-in names that the text leaves alone; its constants -/
structure Bl (mg : Str → Option Value) where
  b_len : mg "len" = none
  b_sum : mg "sum" = none
  b_range : mg "range" = none
  b_sorted : mg "sorted" = none
  b_enumerate : mg "enumerate" = none
  b_zip : mg "zip" = none
  b_max : mg "max" = none
  b_min : mg "min" = none
  b_all : mg "all" = none
  b_int : mg "int" = none
  b_list : mg "list" = none
  t_LESS : Tok
  g_LESS : mg "LESS" = some (.int (0) t_LESS)
  t_AS_RICH : Tok
  g_AS_RICH : mg "AS_RICH" = some (.int (1) t_AS_RICH)
  t_MORE : Tok
  g_MORE : mg "MORE" = some (.int (2) t_MORE)
  t_OUT_OF_RANGE : Tok
  g_OUT_OF_RANGE : mg "OUT_OF_RANGE" = some (.int (-1) t_OUT_OF_RANGE)
  t_ONE_ANIMAL : Tok
  g_ONE_ANIMAL : mg "ONE_ANIMAL" = some (.int (-2) t_ONE_ANIMAL)
  t_UNLIKE_COUNTS : Tok
  g_UNLIKE_COUNTS : mg "UNLIKE_COUNTS" = some (.int (-3) t_UNLIKE_COUNTS)
  t_TOO_MANY : Tok
  g_TOO_MANY : mg "TOO_MANY" = some (.int (-4) t_TOO_MANY)
  t_PLACES : Tok
  g_PLACES : mg "PLACES" = some (.int (4) t_PLACES)
  t_MOST_KINDS : Tok
  g_MOST_KINDS : mg "MOST_KINDS" = some (.int (8) t_MOST_KINDS)
  t_MOST_ANIMALS : Tok
  g_MOST_ANIMALS : mg "MOST_ANIMALS" = some (.int (40) t_MOST_ANIMALS)
  t_MOST_PLOTS : Tok
  g_MOST_PLOTS : mg "MOST_PLOTS" = some (.int (30) t_MOST_PLOTS)
  t_MOST_PLOT : Tok
  g_MOST_PLOT : mg "MOST_PLOT" = some (.int (255) t_MOST_PLOT)
  t_MOST_WAYS : Tok
  g_MOST_WAYS : mg "MOST_WAYS" = some (.int (60) t_MOST_WAYS)
  t_MOST_POWER : Tok
  g_MOST_POWER : mg "MOST_POWER" = some (.int (8) t_MOST_POWER)
section
variable {K : PySem.W.Frag} {σ : L2.St} {H H' : Hp} {ta tb te tx tl : TE} {x y z v : V}
theorem given_all (n : Nat) (v : Nat → V) : given n (fun _ => true) v = (List.range n).map v := by
  unfold given
  rw [List.filter_eq_self.mpr (fun _ _ => rfl)]
theorem map_getD {α β : Type} (xs : List α) (d : α) (f : α → β) : (List.range xs.length).map (fun i => f (xs.getD i d)) = xs.map f := by
  apply List.ext_getElem
  · simp
  · intro i h1 h2
    simp at h1
    simp [h1]
theorem et_yes : EvT tYes σ H true := fun H1 _ _ q => q H1 (Ex.refl H1)
/-- sum of a list of ints -/
theorem ev_sum {a : Addr} {ns : List Int} (h : Ev ta σ H (.ref a)) (hs : IL K H a ns) : Ev (tCB (rSum K) (tCons ta tNil)) σ H (.int ns.sum) := fun H1 e Q q =>
  h H1 e _ fun H2 e2 => ⟨a, ns, rfl, ex_l (e.trans e2) hs, q H2 e2⟩
theorem ev_sumN {xs : List V} {ns : List Int} (h : EvL ta σ H xs) (hx : xs = ns.map V.int) : Ev (tCB (rSum K) (tCons ta tNil)) σ H (.int ns.sum) := fun H1 e Q q =>
  h H1 e _ fun p H2 _ e2 hp => ⟨p, ns, rfl, sq_of (by rw [hp, hx]), q H2 e2⟩
/-- [F(x) for x in ns] -/
theorem el_mapL {a : Addr} {ns : List Int} {j : Nat} {vs : List Nat} (F : Int → V) (h : Ev tl σ H (.ref a)) (hx : IL K H a ns) (hz : ns.length ≤ 40000) (hw : ∀ x, wipe ((wipe σ vs).set j (some x)) vs = wipe σ vs)
    (he : ∀ n ∈ ns, ∀ H1, Ex H H1 → Ev te ((wipe σ vs).set j (some (.int n))) H1 (F n)) : EvL (tLc (iList K tl) (gName j) tYes te vs) σ H (ns.map F) := by
  have g := el_lcL (K := K) (t := tYes) (te := te) (fun _ => true) (fun i => F (ns.getD i 0)) h hx (by simpa using hz) hw (fun i x H1 e hi => et_yes) (fun i x H1 e hi _ => by
    rw [List.getElem?_map] at hi
    cases q : ns[i]? with
    | none => rw [q] at hi; cases hi
    | some n =>
      rw [q] at hi
      have ex : x = .int n := (Option.some.inj hi).symm
      subst ex
      have m : n ∈ ns := List.mem_of_getElem? q
      have e2 : ns.getD i 0 = n := by rw [List.getD_eq_getElem?_getD, q]; rfl
      rw [e2]
      exact he n m H1 e)
  rw [given_all, List.length_map, map_getD] at g
  exact g
/-- the same over a new list -/
theorem el_mapNL {ns : List Int} {xs : List V} {j : Nat} {vs : List Nat} (F : Int → V) (h : EvL tl σ H xs) (hx : xs = ns.map V.int) (hz : ns.length ≤ 40000) (hw : ∀ x, wipe ((wipe σ vs).set j (some x)) vs = wipe σ vs)
    (he : ∀ n ∈ ns, ∀ H1, Ex H H1 → Ev te ((wipe σ vs).set j (some (.int n))) H1 (F n)) : EvL (tLc (iList K tl) (gName j) tYes te vs) σ H (ns.map F) := by
  subst hx
  have g := el_lcNL (K := K) (t := tYes) (te := te) (fun _ => true) (fun i => F (ns.getD i 0)) h (by simpa using hz) hw (fun i x H1 e hi => et_yes) (fun i x H1 e hi _ => by
    rw [List.getElem?_map] at hi
    cases q : ns[i]? with
    | none => rw [q] at hi; cases hi
    | some n =>
      rw [q] at hi
      have ex : x = .int n := (Option.some.inj hi).symm
      subst ex
      have m : n ∈ ns := List.mem_of_getElem? q
      have e2 : ns.getD i 0 = n := by rw [List.getD_eq_getElem?_getD, q]; rfl
      rw [e2]
      exact he n m H1 e)
  rw [given_all, List.length_map, map_getD] at g
  exact g
theorem el_mapR1 {ta : TA} {j : Nat} {vs : List Nat} {n : Int} (F : Nat → V) (h : EvA ta σ H [.int n]) (hn : 0 ≤ n ∧ n ≤ 40000) (hw : ∀ x, wipe ((wipe σ vs).set j (some x)) vs = wipe σ vs)
    (he : ∀ (i : Nat) H1, Ex H H1 → (i : Int) < n → Ev te ((wipe σ vs).set j (some (.int (i : Int)))) H1 (F i)) : EvL (tLc (iRng1 ta) (gName j) tYes te vs) σ H ((List.range n.toNat).map F) := by
  have g := el_lcR1 (t := tYes) (te := te) (fun _ => true) F h hn hw (fun i H1 e hi => et_yes) (fun i H1 e hi _ => he i H1 e hi)
  rw [given_all] at g
  exact g
end
end Kw


/-! numbers.py -/
namespace Kw
open PySem PySem.Spec PyProof.Rows L2 Evl
section
variable {P : Program} {w : World} {K : PySem.W.Frag} {mg : Str → Option Value} {base : Heap} {H : Hp}
/-! ### common -/
abbrev s_common : Stmt := (top 1)
abbrev n_common : List Str := ["one", "other"]
abbrev p_common : List Str := ["one", "other"]
theorem sc_common : FnScope n_common p_common (defScope s_common) := ⟨rfl, rfl, rfl, by decide +kernel, rfl, by decide +kernel, by decide +kernel⟩
def spCommon : Sp := fun vs H Q _ => ∃ a b : Int, vs = [.int a, .int b] ∧ 0 < b ∧ RetV (.int (Kc.g a b)) H Q
theorem sv_common {a b : Int} (hb : 0 < b) : SpV spCommon [.int a, .int b] H (.int (Kc.g a b)) := fun H1 e Q q E => ⟨a, b, rfl, hb, q⟩
theorem g_step {x y : Int} (hy : 0 < y) : Kc.g y (x.fmod y) = Kc.g x y := by
  rw [Int.fmod_eq_emod_of_nonneg _ (by omega), Int.emod_def]
  unfold Kc.g
  congr 1
  show Int.gcd y (x - y * (x / y)) = Int.gcd x y
  rw [Int.gcd_sub_mul_left_right, Int.gcd_comm]
theorem ok_common (D : DefIn K mg "common" "common" s_common p_common) : Callee P w K mg base CX0 1 "common" p_common spCommon := by
  refine callee D sc_common (fun vs H Q E h => ?_) (fun f cdv A outer s H vs Q E hr h => ⟨_, (pss_cons (ps_while PassesOwn.never (pt_cmpR op_gt (pv 1) pe_int (nomark _)) (pss_one (ps_par (i := 0) (j := 1) (by rfl) sc_common.nd rfl rfl (by decide) rfl rfl (pa_cons (pv 1) (pa_cons (pe_op op_modN (pv 0) (pv 1)) pa_nil)) (by rfl))))
      (pss_one (ps_ret (pv 0)))), ?_⟩)
  · obtain ⟨a, b, rfl, _⟩ := h
    rfl
  · obtain ⟨a, b, rfl, hb, q⟩ := h
    refine q_while (fun m σ H' => ∃ x y : Int, (0 < y ∨ 0 ≤ x) ∧ 0 ≤ y ∧ m = y.toNat ∧ σ = [some (.int x), some (.int y)] ∧ Ex H H' ∧ Kc.g x y = Kc.g a b) b.toNat ⟨a, b, Or.inl hb, Int.le_of_lt hb, rfl, rfl, Ex.refl H, rfl⟩ ?_
    rintro m σ H' ⟨x, y, hx, hy, rfl, rfl, e, hg⟩
    refine ⟨decide (0 < y), et_test (ev_op (ev_var rfl) ev_c rv_I0), fun ht H1 e1 => ?_, fun hf H1 e1 => ?_⟩
    · have hy0 : 0 < y := of_decide_eq_true ht
      refine ⟨fun σ2 H2 => ∃ x' y' : Int, (0 < y' ∨ 0 ≤ x') ∧ 0 ≤ y' ∧ y' < y ∧ σ2 = [some (.int x'), some (.int y')] ∧ Ex H H2 ∧ Kc.g x' y' = Kc.g a b, ?_, ?_⟩
      · rintro σ2 H2 ⟨x', y', h1, h2, h3, h4, h5, h6⟩
        exact ⟨y'.toNat, by omega, x', y', h1, h2, rfl, h4, h5, h6⟩
      · refine ea_cons (ev_var rfl) (ea_cons (ev_op (ev_var rfl) (ev_var rfl) (rv_I (by omega))) ea_nil) H1 (Ex.refl H1) _ fun H2 e2 => ?_
        have hm := Int.emod_nonneg x (show y ≠ 0 by omega)
        have hl := Int.emod_lt_of_pos x hy0
        have em : x.fmod y = x % y := Int.fmod_eq_emod_of_nonneg _ (by omega)
        exact ⟨.int y, .int (x.fmod y), rfl, y, x.fmod y, Or.inr hy, by omega, by omega, rfl, (e.trans e1).trans e2, by rw [g_step hy0]; exact hg⟩
    · have hy0 : y = 0 := by have := of_decide_eq_false hf; omega
      subst hy0
      refine s_ret (ev_var rfl) fun H2 e2 => ?_
      have : Kc.g a b = x := by
        rw [← hg]
        unfold Kc.g
        rw [show (0 : Int).natAbs = 0 from rfl, Nat.gcd_zero_right]
        omega
      rw [← this]
      exact q H2 ((e.trans e1).trans e2)
/-! ### lowest -/
abbrev s_lowest : Stmt := (top 2)
abbrev n_lowest : List Str := ["top", "bottom", "shared"]
abbrev p_lowest : List Str := ["top", "bottom"]
theorem sc_lowest : FnScope n_lowest p_lowest (defScope s_lowest) := ⟨rfl, rfl, rfl, by decide +kernel, rfl, by decide +kernel, by decide +kernel⟩
def spLowest : Sp := fun vs H Q _ => ∃ a b : Int, vs = [.int a, .int b] ∧ 0 < b ∧ b.natAbs < 2 ^ 8000 ∧ RetL ((Kc.low a b).map V.int) H Q
theorem sl_lowest {a b : Int} (hb : 0 < b) (hz : b.natAbs < 2 ^ 8000) : SpL spLowest [.int a, .int b] H ((Kc.low a b).map V.int) := fun H1 e Q q E => ⟨a, b, rfl, hb, hz, q⟩
theorem ok_lowest (c_common : Callee P w K mg base CX0 1 "common" p_common spCommon) (D : DefIn K mg "lowest" "lowest" s_lowest p_lowest) : Callee P w K mg base CX0 2 "lowest" p_lowest spLowest := by
  refine callee D sc_lowest (fun vs H Q E h => ?_) (fun f cdv A outer s H vs Q E hr h => ⟨_, (pss_cons (ps_set (i := 2) sc_lowest.nd rfl (Or.inl rfl) (pe_callC c_common (hr.mono (by decide)) (by rfl) pass0 (pa_cons (pv 0) (pa_cons (pv 1) pa_nil))))
      (pss_one (ps_ret (pe_lst (pa_cons (pe_op op_fdivW (pv 0) (pv 2)) (pa_cons (pe_op op_fdivW (pv 1) (pv 2)) pa_nil)))))), ?_⟩)
  · obtain ⟨a, b, rfl, _⟩ := h
    rfl
  · obtain ⟨a, b, rfl, hb, hz, q⟩ := h
    have hg := Kc.g_pos (a := a) hb
    have hgb : Kc.g a b ≤ b := Int.le_of_dvd hb (Kc.g_dvd_right a b)
    have hd : CDivW a (Kc.g a b) := wide_div hg (Nat.lt_of_le_of_lt (by omega) hz) (by decide) (by decide)
    have hd2 : CDivW b (Kc.g a b) := hd
    refine q_asg (ev_call (ea_cons (ev_var rfl) (ea_cons (ev_var rfl) ea_nil)) (sv_common hb)) fun H1 e1 => ?_
    refine s_retL (el_lst (ea_cons (ev_op (ev_var rfl) (ev_var rfl) (rv_I hd)) (ea_cons (ev_op (ev_var rfl) (ev_var rfl) (rv_I hd2)) ea_nil)) (by show 2 ≤ 100000; omega)) fun p H2 hp e2 h2 => ?_
    exact q.go e1 hp e2 h2
/-! ### power -/
abbrev s_power : Stmt := (top 3)
abbrev n_power : List Str := ["number", "many", "found", "k"]
abbrev p_power : List Str := ["number", "many"]
theorem sc_power : FnScope n_power p_power (defScope s_power) := ⟨rfl, rfl, rfl, by decide +kernel, rfl, by decide +kernel, by decide +kernel⟩
def spPower : Sp := fun vs H Q _ => ∃ (a : Int) (q : Nat), vs = [.int a, .int (q : Int)] ∧ 0 ≤ a ∧ a < 2 ^ 10 ∧ q ≤ 100 ∧ RetV (.int (a ^ q)) H Q
theorem sv_power {a : Int} {q : Nat} (ha : 0 ≤ a) (hb : a < 2 ^ 10) (hq : q ≤ 100) : SpV spPower [.int a, .int (q : Int)] H (.int (a ^ q)) := fun H1 e Q k E => ⟨a, q, rfl, ha, hb, hq, k⟩
theorem pow_small {a : Int} (ha : 0 ≤ a) (hb : a < 2 ^ 10) : ∀ i : Nat, (a ^ i).natAbs ≤ 2 ^ (10 * i)
  | 0 => by simp
  | i + 1 => by
    rw [Int.pow_succ, Int.natAbs_mul, show 10 * (i + 1) = 10 * i + 10 from rfl, Nat.pow_add]
    exact Nat.mul_le_mul (pow_small ha hb i) (by omega)
theorem ok_power (T : Bl mg) (D : DefIn K mg "power" "power" s_power p_power) : Callee P w K mg base CX0 1 "power" p_power spPower := by
  refine callee D sc_power (fun vs H Q E h => ?_) (fun f cdv A outer s H vs Q E hr h => ⟨_, (pss_cons (ps_set (i := 2) sc_power.nd rfl (Or.inl rfl) pe_int)
      (pss_cons (ps_for PassesOwn.never rfl (pi_range1 rfl T.b_range (pa_cons (pv 1) pa_nil)) (pg_name (i := 3) sc_power.nd rfl (Or.inl rfl)) (pss_one (ps_set (i := 2) sc_power.nd rfl (Or.inl rfl) (pe_op op_mulW (pv 2) (pv 0)))))
      (pss_one (ps_ret (pv 2))))), ?_⟩)
  · obtain ⟨a, q, rfl, _⟩ := h
    rfl
  · obtain ⟨a, n, rfl, ha, hb, hn, q⟩ := h
    refine q_asg ev_c fun H1 e1 => ?_
    refine q_forR1 (ea_cons (ev_var rfl) ea_nil) (by omega) (fun i σ' H' => ∃ z : Option V, σ' = [some (.int a), some (.int (n : Int)), some (.int (a ^ i)), z] ∧ Ex H H') (fun H2 e2 => ⟨none, by rw [Int.pow_zero]; rfl, e1.trans e2⟩) ?_ ?_
    · rintro i σ' H' hi ⟨z, rfl, e⟩
      have hb1 : (a ^ i).natAbs < 2 ^ 2000 := Nat.lt_of_le_of_lt (pow_small ha hb i) (Nat.pow_lt_pow_right (by omega) (by omega))
      refine s_asg (ev_op (ev_var rfl) (ev_var rfl) (rv_I (wide_mul hb1 (b := 11) (by omega) (by decide) (by decide) (by decide)))) fun H2 e2 => ?_
      exact ⟨some (.int (i : Int)), by rw [Int.pow_succ]; rfl, e.trans e2⟩
    · rintro σ' H' ⟨z, rfl, e⟩
      rw [Int.toNat_natCast]
      exact s_ret (ev_var rfl) fun H2 e2 => q H2 (e.trans e2)
/-! ### choices_row -/
abbrev s_choices_row : Stmt := (top 4)
abbrev n_choices_row : List Str := ["n", "most", "found", "k"]
abbrev p_choices_row : List Str := ["n", "most"]
theorem sc_choices_row : FnScope n_choices_row p_choices_row (defScope s_choices_row) := ⟨rfl, rfl, rfl, by decide +kernel, rfl, by decide +kernel, by decide +kernel⟩
def rowV (n most : Nat) : List V := (List.range (most + 1)).map fun k => V.int (Kc.C n k)
def spRow : Sp := fun vs H Q _ => ∃ n m : Nat, vs = [.int (n : Int), .int (m : Int)] ∧ n ≤ 1000 ∧ m ≤ 1000 ∧ RetL (rowV n m) H Q
theorem sl_row {n m : Nat} (hn : n ≤ 1000) (hm : m ≤ 1000) : SpL spRow [.int (n : Int), .int (m : Int)] H (rowV n m) := fun H1 e Q k E => ⟨n, m, rfl, hn, hm, k⟩
theorem C_small {n : Nat} (hn : n ≤ 1000) (k : Nat) : ((Kc.C n k : Int)).natAbs < 2 ^ 1001 := by
  rw [Int.natAbs_natCast]
  exact Nat.lt_of_le_of_lt (Kc.C_le n k) (Nat.pow_lt_pow_right (by omega) (by omega))
theorem rowV_len (n m : Nat) : (rowV n m).length = m + 1 := by simp [rowV]
theorem rowV_at {n m k : Nat} (h : k ≤ m) : (rowV n m)[k]? = some (V.int (Kc.C n k)) := by
  unfold rowV
  rw [List.getElem?_map, List.getElem?_range (by omega)]
  rfl
theorem rowV_more (n m : Nat) : rowV n (m + 1) = rowV n m ++ [V.int (Kc.C n (m + 1))] := by
  unfold rowV
  rw [List.range_succ, List.map_append]
  rfl
theorem ok_row (T : Bl mg) (D : DefIn K mg "choices_row" "choices_row" s_choices_row p_choices_row) : Callee P w K mg base CX0 1 "choices_row" p_choices_row spRow := by
  refine callee D sc_choices_row (fun vs H Q E h => ?_) (fun f cdv A outer s H vs Q E hr h => ⟨_, (pss_cons (ps_set (i := 2) sc_choices_row.nd rfl (Or.inl rfl) (pe_lst (pa_cons pe_int pa_nil)))
      (pss_cons (ps_for PassesOwn.never rfl (pi_range1 rfl T.b_range (pa_cons (pv 1) pa_nil)) (pg_name (i := 3) sc_choices_row.nd rfl (Or.inl rfl)) (pss_one (ps_expr (pe_bm PySem.F.plainAttrs_list PySem.F.slot_list_append PySem.F.type_list_append mt_append (pv 2) (pa_cons (pe_op op_fdivW (pe_op op_mulW (pe_ix (r := rIxL K) ix_list (pv 2) (pv 3) (fun _ _ => rfl)) (pe_op op_sub (pv 0) (pv 3))) (pe_op op_add (pv 3) pe_int)) pa_nil)))))
      (pss_one (ps_ret (pv 2))))), ?_⟩)
  · obtain ⟨n, m, rfl, _⟩ := h
    rfl
  · obtain ⟨n, m, rfl, hn, hm, q⟩ := h
    refine q_asgL (el_lst (ea_cons ev_c ea_nil) (by decide)) fun p H1 hp e1 h1 => ?_
    refine q_forR1 (ea_cons (ev_var rfl) ea_nil) (by omega) (fun i σ' H' => ∃ z : Option V, σ' = [some (.int (n : Int)), some (.int (m : Int)), some (.ref p), z] ∧ Ex H H' ∧ H' p = some (.lst (rowV n i))) (fun H2 e2 => ⟨none, by rfl, e1.trans e2, ?_⟩) ?_ ?_
    · rw [e2 p _ h1]
      show _ = some (HO.lst [V.int (Kc.C n 0 : Nat)])
      rw [Kc.C_zero]; rfl
    · rintro i σ' H' hi ⟨z, rfl, e, hl⟩
      have hi2 : i < m := by omega
      refine s_app hl (ev_var rfl) (ev_op (ev_op (ev_op (ev_var rfl) (ev_var rfl) (rv_ixL (sq_of hl) (atI_nat (rowV_at (Nat.le_refl i))))) (ev_op (ev_var rfl) (ev_var rfl) rv_I0) (rv_I (wide_mul (C_small hn i) (b := 11) (by omega) (by decide) (by decide) (by decide)))) (ev_op (ev_var rfl) ev_c rv_I0) (rv_I (wide_div (b := 11) (by omega) (by omega) (by decide) (by decide)))) (by rw [rowV_len]; omega) fun H2 e2 => ?_
      refine ⟨some (.int (i : Int)), rfl, (e.trans e2).mut hp, ?_⟩
      rw [upd_same, rowV_more, Kc.C_step]
    · rintro σ' H' ⟨z, rfl, e, hl⟩
      rw [Int.toNat_natCast] at hl
      exact s_ret (ev_var rfl) fun H2 e2 => q p H2 hp (e.trans e2) (e2 p _ hl)
/-! ### choices -/
abbrev s_choices : Stmt := (top 5)
abbrev n_choices : List Str := ["n", "k"]
abbrev p_choices : List Str := ["n", "k"]
theorem sc_choices : FnScope n_choices p_choices (defScope s_choices) := ⟨rfl, rfl, rfl, by decide +kernel, rfl, by decide +kernel, by decide +kernel⟩
def spChoices : Sp := fun vs H Q _ => ∃ n k : Nat, vs = [.int (n : Int), .int (k : Int)] ∧ n ≤ 1000 ∧ k ≤ 1000 ∧ RetV (.int (Kc.C n k)) H Q
theorem sv_choices {n k : Nat} (hn : n ≤ 1000) (hk : k ≤ 1000) : SpV spChoices [.int (n : Int), .int (k : Int)] H (.int (Kc.C n k)) := fun H1 e Q q E => ⟨n, k, rfl, hn, hk, q⟩
theorem ok_choices (c_choices_row : Callee P w K mg base CX0 1 "choices_row" p_choices_row spRow) (D : DefIn K mg "choices" "choices" s_choices p_choices) : Callee P w K mg base CX0 2 "choices" p_choices spChoices := by
  refine callee D sc_choices (fun vs H Q E h => ?_) (fun f cdv A outer s H vs Q E hr h => ⟨_, (pss_one (ps_ret (pe_ix (r := rIxL K) ix_list (pe_callC c_choices_row (hr.mono (by decide)) (by rfl) pass0 (pa_cons (pv 0) (pa_cons (pv 1) pa_nil))) (pv 1) (fun _ _ => rfl)))), ?_⟩)
  · obtain ⟨n, m, rfl, _⟩ := h
    rfl
  · obtain ⟨n, k, rfl, hn, hk, q⟩ := h
    refine s_ret (ev_opL1 (el_call (ea_cons (ev_var rfl) (ea_cons (ev_var rfl) ea_nil)) (sl_row hn hk)) (fun H1 e1 => ev_var rfl) (fun p H1 hp e1 => rv_ixL (sq_of hp) (atI_nat (rowV_at (Nat.le_refl k))))) fun H2 e2 => q H2 e2
end
end Kw


/-! parts.py, first half -/
namespace Kw
open PySem PySem.Spec PyProof.Rows L2 Evl
/-! ### samples -/
/-- whole numbers of a sample -/
def zs (l : List Nat) : List Int := l.map fun (n : Nat) => (n : Int)
structure Smp (xs : List Nat) : Prop where
  len : xs.length ≤ 8
  le : ∀ a ∈ xs, a ≤ 40
theorem sum_le : ∀ {xs : List Nat} {b : Nat}, (∀ a ∈ xs, a ≤ b) → xs.sum ≤ xs.length * b
  | [], b, _ => by simp
  | x :: xs, b, h => by
    have h1 := h x (List.mem_cons_self ..)
    have h2 := sum_le (xs := xs) (b := b) fun a ha => h a (List.mem_cons_of_mem _ ha)
    rw [List.sum_cons, List.length_cons, Nat.succ_mul]
    omega
theorem Smp.sum {xs : List Nat} (h : Smp xs) : xs.sum ≤ 320 := by
  have h1 := sum_le h.le
  have h2 := Nat.mul_le_mul_right 40 h.len
  omega
theorem zs_sum (xs : List Nat) : (zs xs).sum = (xs.sum : Int) := by
  induction xs with
  | nil => rfl
  | cons a xs ih =>
    show ((a : Int) :: zs xs).sum = ((a :: xs).sum : Nat)
    rw [List.sum_cons, List.sum_cons, ih]; omega
theorem zs_len (xs : List Nat) : (zs xs).length = xs.length := List.length_map ..
theorem zs_mem {xs : List Nat} {n : Int} (h : n ∈ zs xs) : ∃ a, a ∈ xs ∧ n = (a : Int) := by
  obtain ⟨a, ha, e⟩ := List.mem_map.mp h
  exact ⟨a, ha, e.symm⟩
theorem zs_at {xs : List Nat} {i : Nat} (h : i < xs.length) : ((zs xs).map V.int)[i]? = some (V.int (xs.getD i 0 : Nat)) := by
  unfold zs
  rw [List.map_map, List.getElem?_map, List.getD_eq_getElem?_getD]
  simp [h]
theorem getD_mem {xs : List Nat} {i : Nat} (h : i < xs.length) : xs.getD i 0 ∈ xs := by
  rw [List.getD_eq_getElem?_getD]
  simp [h]
theorem sum_bound : ∀ {l : List Int} {b : Nat}, (∀ x ∈ l, x.natAbs ≤ b) → l.sum.natAbs ≤ l.length * b
  | [], b, _ => by simp
  | x :: l, b, h => by
    have h1 := h x (List.mem_cons_self ..)
    have h2 := sum_bound (l := l) (b := b) fun a ha => h a (List.mem_cons_of_mem _ ha)
    rw [List.sum_cons, List.length_cons, Nat.succ_mul]
    omega
theorem sum_bound8 {l : List Int} {k : Nat} (hl : l.length ≤ 8) (h : ∀ x ∈ l, x.natAbs < 2 ^ k) : l.sum.natAbs < 2 ^ (k + 4) := by
  have h1 := sum_bound (l := l) (b := 2 ^ k) fun x hx => Nat.le_of_lt (h x hx)
  have h2 := Nat.mul_le_mul_right (2 ^ k) hl
  have h3 : 2 ^ (k + 4) = 2 ^ k * 16 := Nat.pow_add 2 k 4
  have h4 : 0 < 2 ^ k := Nat.two_pow_pos k
  omega
theorem sub_bound {x y : Int} {k : Nat} (hx : x.natAbs < 2 ^ k) (hy : y.natAbs < 2 ^ k) : (x - y).natAbs < 2 ^ (k + 1) := by
  have h3 : 2 ^ (k + 1) = 2 ^ k * 2 := Nat.pow_succ ..
  omega
theorem add_bound {x y : Int} {k : Nat} (hx : x.natAbs < 2 ^ k) (hy : y.natAbs < 2 ^ k) : (x + y).natAbs < 2 ^ (k + 1) := by
  have h3 : 2 ^ (k + 1) = 2 ^ k * 2 := Nat.pow_succ ..
  omega
theorem up_bound {x : Int} {k m : Nat} (hx : x.natAbs < 2 ^ k) (h : k ≤ m) : x.natAbs < 2 ^ m := Nat.lt_of_lt_of_le hx (Nat.pow_le_pow_right (by decide) h)
section
variable {K : PySem.W.Frag} {σ : L2.St} {H : Hp} {ta tb te tx tl : TE}
/-- [F(x) for x in sample] -/
theorem el_mapS {a : Addr} {xs : List Nat} {j : Nat} {vs : List Nat} (F : Nat → V) (h : Ev tl σ H (.ref a)) (hx : IL K H a (zs xs)) (hz : xs.length ≤ 40000) (hw : ∀ x, wipe ((wipe σ vs).set j (some x)) vs = wipe σ vs)
    (he : ∀ n ∈ xs, ∀ H1, Ex H H1 → Ev te ((wipe σ vs).set j (some (.int (n : Int)))) H1 (F n)) : EvL (tLc (iList K tl) (gName j) tYes te vs) σ H (xs.map F) := by
  have g := el_mapL (te := te) (fun i => F i.toNat) h hx (by rw [zs_len]; exact hz) hw fun n hn H1 e => by
    obtain ⟨m, hm, rfl⟩ := zs_mem hn
    rw [Int.toNat_natCast]
    exact he m hm H1 e
  have e : (zs xs).map (fun i => F i.toNat) = xs.map F := by
    unfold zs
    rw [List.map_map]
    exact List.map_congr_left fun a _ => by show F ((a : Int)).toNat = F a; rw [Int.toNat_natCast]
  rw [e] at g
  exact g
/-- [F(x) for x in a new list of zs, told by l] -/
theorem el_mapNS {α : Type} {l : List α} {G : α → Int} {j : Nat} {vs : List Nat} (F : α → V) (h : EvL tl σ H (l.map fun a => V.int (G a))) (hz : l.length ≤ 40000) (hw : ∀ x, wipe ((wipe σ vs).set j (some x)) vs = wipe σ vs)
    (he : ∀ a ∈ l, ∀ H1, Ex H H1 → Ev te ((wipe σ vs).set j (some (.int (G a)))) H1 (F a)) : EvL (tLc (iList K tl) (gName j) tYes te vs) σ H (l.map F) := by
  cases l with
  | nil =>
    have g := el_mapNL (K := K) (te := te) (ns := []) (fun _ => V.non) h rfl (by decide) hw (fun n hn => by cases hn)
    exact g
  | cons a0 l0 =>
    have g := el_lcNL (K := K) (t := tYes) (te := te) (fun _ => true) (fun i => F ((a0 :: l0).getD i a0)) h (by simpa using hz) hw (fun i x H1 e hi => et_yes) (fun i x H1 e hi _ => by
      rw [List.getElem?_map] at hi
      cases q : (a0 :: l0)[i]? with
      | none => rw [q] at hi; cases hi
      | some n =>
        rw [q] at hi
        have ex : x = .int (G n) := (Option.some.inj hi).symm
        subst ex
        have m : n ∈ (a0 :: l0) := List.mem_of_getElem? q
        have e2 : (a0 :: l0).getD i a0 = n := by rw [List.getD_eq_getElem?_getD, q]; rfl
        rw [e2]
        exact he n m H1 e)
    rw [given_all, List.length_map, map_getD] at g
    exact g
theorem ev_sumM {α : Type} {l : List α} (G : α → Int) (h : EvL ta σ H (l.map fun a => V.int (G a))) : Ev (tCB (rSum K) (tCons ta tNil)) σ H (.int (l.map G).sum) :=
  ev_sumN h (by rw [List.map_map]; rfl)
/-- len([x for x in sample if p(x)]) -/
theorem ev_count {a : Addr} {xs : List Nat} {j : Nat} {vs : List Nat} {t : TT} (p : Nat → Bool) (h : Ev tl σ H (.ref a)) (hx : IL K H a (zs xs)) (hz : xs.length ≤ 40000) (hw : ∀ x, wipe ((wipe σ vs).set j (some x)) vs = wipe σ vs)
    (ht : ∀ n ∈ xs, ∀ H1, Ex H H1 → EvT t ((wipe σ vs).set j (some (.int (n : Int)))) H1 (p n)) (he : ∀ n : Nat, n ∈ xs → ∀ H1, Ex H H1 → Ev te ((wipe σ vs).set j (some (.int (n : Int)))) H1 (.int (n : Int))) :
    Ev (tCB (rLenS K) (tCons (tLc (iList K tl) (gName j) t te vs) tNil)) σ H (.int (xs.countP p : Nat)) := by
  have key : ∀ {i : Nat} {x : V}, ((zs xs).map V.int)[i]? = some x → i < xs.length ∧ x = .int (xs.getD i 0 : Nat) ∧ xs.getD i 0 ∈ xs := fun {i x} hi => by
    have hl := (List.getElem?_eq_some_iff.mp hi).1
    rw [List.length_map, zs_len] at hl
    rw [zs_at hl] at hi
    exact ⟨hl, (Option.some.inj hi).symm, getD_mem hl⟩
  have g := el_lcL (K := K) (t := t) (te := te) (fun i => p (xs.getD i 0)) (fun i => .int (xs.getD i 0 : Nat)) h hx (by rw [List.length_map, zs_len]; exact hz) hw
    (fun i x H1 e hi => by
      obtain ⟨_, rfl, m⟩ := key hi
      exact ht _ m H1 e)
    (fun i x H1 e hi _ => by
      obtain ⟨_, rfl, m⟩ := key hi
      exact he _ m H1 e)
  have r := ev_lenN (K := K) g
  have e : (given ((zs xs).map V.int).length (fun i => p (xs.getD i 0)) (fun i => V.int (xs.getD i 0 : Nat))).length = xs.countP p := by
    unfold given
    rw [List.length_map, List.length_map, zs_len, ← List.countP_eq_length_filter]
    have q := List.countP_map (p := p) (f := fun i => xs.getD i 0) (l := List.range xs.length)
    have q2 : (List.range xs.length).map (fun i => xs.getD i 0) = xs := by
      have := map_getD xs 0 (fun x => x)
      simpa using this
    rw [q2] at q
    exact q.symm
  rw [e] at r
  exact r
end
section
variable {P : Program} {w : World} {K : PySem.W.Frag} {mg : Str → Option Value} {base : Heap} {H : Hp}
/-! ### size -/
abbrev s_size : Stmt := (top 7)
abbrev n_size : List Str := ["sample"]
abbrev p_size : List Str := ["sample"]
theorem sc_size : FnScope n_size p_size (defScope s_size) := ⟨rfl, rfl, rfl, by decide +kernel, rfl, by decide +kernel, by decide +kernel⟩
def spSize (K : PySem.W.Frag) : Sp := fun vs H Q _ => ∃ (a : Addr) (ns : List Int), vs = [.ref a] ∧ IL K H a ns ∧ RetV (.int ns.sum) H Q
theorem sv_size {a : Addr} {xs : List Nat} (h : IL K H a (zs xs)) : SpV (spSize K) [.ref a] H (.int (xs.sum : Nat)) := fun H1 e Q q E => ⟨a, zs xs, rfl, ex_l e h, by rw [zs_sum]; exact q⟩
theorem sv_sizeI {a : Addr} {ns : List Int} (h : IL K H a ns) : SpV (spSize K) [.ref a] H (.int ns.sum) := fun H1 e Q q E => ⟨a, ns, rfl, ex_l e h, q⟩
theorem ok_size (T : Bl mg) (D : DefIn K mg "size" "size" s_size p_size) : Callee P w K mg base CX0 1 "size" p_size (spSize K) := by
  refine callee D sc_size (fun vs H Q E h => ?_) (fun f cdv A outer s H vs Q E hr h => ⟨_, (pss_one (ps_ret (pe_callB (r := rSum K) (cr_sum rfl) (by rfl) T.b_sum (by decide +kernel) (pa_cons (pv 0) pa_nil)))), ?_⟩)
  · obtain ⟨n, m, rfl, _⟩ := h
    rfl
  · obtain ⟨a, ns, rfl, hs, q⟩ := h
    exact s_ret (ev_sum (ev_var rfl) hs) fun H2 e2 => q H2 e2
/-! ### kinds_there -/
abbrev s_kinds_there : Stmt := (top 8)
abbrev n_kinds_there : List Str := ["sample", "many"]
abbrev p_kinds_there : List Str := ["sample"]
theorem sc_kinds_there : FnScope n_kinds_there p_kinds_there (defScope s_kinds_there) := ⟨rfl, rfl, rfl, by decide +kernel, rfl, by decide +kernel, by decide +kernel⟩
def spKinds (K : PySem.W.Frag) : Sp := fun vs H Q _ => ∃ (a : Addr) (xs : List Nat), vs = [.ref a] ∧ IL K H a (zs xs) ∧ xs.length ≤ 8 ∧ RetV (.int (Vbecal.kinds xs : Nat)) H Q
theorem sv_kinds {a : Addr} {xs : List Nat} (h : IL K H a (zs xs)) (hl : xs.length ≤ 8) : SpV (spKinds K) [.ref a] H (.int (Vbecal.kinds xs : Nat)) := fun H1 e Q q E => ⟨a, xs, rfl, ex_l e h, hl, q⟩
theorem ok_kinds (T : Bl mg) (D : DefIn K mg "kinds_there" "kinds_there" s_kinds_there p_kinds_there) : Callee P w K mg base CX0 1 "kinds_there" p_kinds_there (spKinds K) := by
  refine callee D sc_kinds_there (fun vs H Q E h => ?_) (fun f cdv A outer s H vs Q E hr h => ⟨_, (pss_one (ps_ret (pe_callB call_len_seq (by rfl) T.b_len PySem.boot_len (pa_cons (pe_lc (own := [("many", 1)]) (g := gName 1) rfl sc_kinds_there.nd (pi_list (pv 0)) (blkOk_by (N := n_kinds_there) (sc := defScope s_kinds_there) (by decide +kernel)) (fun _ _ _ _ _ => (pg_name (i := 1) sc_kinds_there.nd rfl (Or.inl rfl))) (fun _ _ _ _ _ => (pts_one (pt_cmpR op_gt (pv 1) pe_int (nomark _)))) (fun _ _ _ _ _ => (pv 1))) pa_nil)))), ?_⟩)
  · obtain ⟨n, m, rfl, _⟩ := h
    rfl
  · obtain ⟨a, xs, rfl, hs, hl, q⟩ := h
    refine s_ret (ev_count (fun c => decide (0 < c)) (ev_var rfl) hs (by omega) (fun _ => rfl) (fun n hn H1 e1 => ?_) (fun n hn H1 e1 => ev_var rfl)) fun H2 e2 => q H2 e2
    refine et_is (et_test (ev_op (ev_var rfl) ev_c rv_I0)) ?_
    exact decide_eq_decide.mpr (by omega)
/-! ### without_row -/
abbrev s_without_row : Stmt := (top 9)
abbrev n_without_row : List Str := ["sample", "n", "many"]
abbrev p_without_row : List Str := ["sample", "n"]
theorem sc_without_row : FnScope n_without_row p_without_row (defScope s_without_row) := ⟨rfl, rfl, rfl, by decide +kernel, rfl, by decide +kernel, by decide +kernel⟩
def woI (xs : List Nat) (n : Nat) (a : Nat) : Int := (Kc.C (xs.sum - a) n : Nat)
def spWithout (K : PySem.W.Frag) : Sp := fun vs H Q _ => ∃ (a : Addr) (xs : List Nat) (n : Nat), vs = [.ref a, .int (n : Int)] ∧ IL K H a (zs xs) ∧ Smp xs ∧ n ≤ 400 ∧ RetL (xs.map fun c => V.int (woI xs n c)) H Q
theorem sl_without {a : Addr} {xs : List Nat} {n : Nat} (h : IL K H a (zs xs)) (hs : Smp xs) (hn : n ≤ 400) : SpL (spWithout K) [.ref a, .int (n : Int)] H (xs.map fun c => V.int (woI xs n c)) :=
  fun H1 e Q q E => ⟨a, xs, n, rfl, ex_l e h, hs, hn, q⟩
theorem sv_choicesI {i j : Int} (h0 : 0 ≤ i) (hi : i ≤ 1000) (g0 : 0 ≤ j) (hj : j ≤ 1000) : SpV spChoices [.int i, .int j] H (.int (Kc.C i.toNat j.toNat : Nat)) := fun H1 e Q q E =>
  ⟨i.toNat, j.toNat, by rw [Int.toNat_of_nonneg h0, Int.toNat_of_nonneg g0], by omega, by omega, q⟩
/-- choices(size - many, n) -/
theorem sv_wo {xs : List Nat} {a n : Nat} (hs : Smp xs) (ha : a ≤ xs.sum) (hn : n ≤ 400) : SpV spChoices [.int ((xs.sum : Int) - (a : Int)), .int (n : Int)] H (.int (woI xs n a)) := by
  have e : (xs.sum : Int) - (a : Int) = ((xs.sum - a : Nat) : Int) := by omega
  have := hs.sum
  rw [e]
  exact sv_choices (by omega) (by omega)
theorem ok_without (c_size : Callee P w K mg base CX0 1 "size" p_size (spSize K)) (c_choices : Callee P w K mg base CX0 2 "choices" p_choices spChoices) (D : DefIn K mg "without_row" "without_row" s_without_row p_without_row) :
    Callee P w K mg base CX0 3 "without_row" p_without_row (spWithout K) := by
  refine callee D sc_without_row (fun vs H Q E h => ?_) (fun f cdv A outer s H vs Q E hr h => ⟨_, (pss_one (ps_ret (pe_lc (own := [("many", 2)]) (g := gName 2) (tt := tYes) rfl sc_without_row.nd (pi_list (pv 0)) (blkOk_by (N := n_without_row) (sc := defScope s_without_row) (by decide +kernel)) (fun _ _ _ _ _ => (pg_name (i := 2) sc_without_row.nd rfl (Or.inl rfl))) (fun _ _ _ _ _ => pts_nil) (fun _ _ _ _ _ => (pe_callC c_choices (hr.mono (by decide)) (by rfl) pass0 (pa_cons (pe_op op_sub (pe_callC c_size (hr.mono (by decide)) (by rfl) pass0 (pa_cons (pv 0) pa_nil)) (pv 2)) (pa_cons (pv 1) pa_nil))))))), ?_⟩)
  · obtain ⟨a, xs, n, rfl, _⟩ := h
    rfl
  · obtain ⟨a, xs, n, rfl, hx, hs, hn, q⟩ := h
    refine s_retL (el_mapS (fun c => V.int (woI xs n c)) (ev_var rfl) hx (by have := hs.len; omega) (fun _ => rfl) (fun c hc H1 e1 => ?_)) fun p H1 hp e1 h1 => q p H1 hp e1 h1
    exact ev_call (ea_cons (ev_op (ev_call (ea_cons (ev_var rfl) ea_nil) (sv_size (ex_l e1 hx))) (ev_var rfl) rv_I0) (ea_cons (ev_var rfl) ea_nil)) (sv_wo hs (Kc.le_sum hc) hn)
/-! ### met_sum -/
abbrev s_met_sum : Stmt := (top 10)
abbrev n_met_sum : List Str := ["sample", "n", "whole", "without"]
abbrev p_met_sum : List Str := ["sample", "n"]
theorem sc_met_sum : FnScope n_met_sum p_met_sum (defScope s_met_sum) := ⟨rfl, rfl, rfl, by decide +kernel, rfl, by decide +kernel, by decide +kernel⟩
def spMet (K : PySem.W.Frag) : Sp := fun vs H Q _ => ∃ (a : Addr) (xs : List Nat) (n : Nat), vs = [.ref a, .int (n : Int)] ∧ IL K H a (zs xs) ∧ Smp xs ∧ n ≤ 400 ∧ RetV (.int (Kc.metSum xs n)) H Q
theorem sv_met {a : Addr} {xs : List Nat} {n : Nat} (h : IL K H a (zs xs)) (hs : Smp xs) (hn : n ≤ 400) : SpV (spMet K) [.ref a, .int (n : Int)] H (.int (Kc.metSum xs n)) := fun H1 e Q q E => ⟨a, xs, n, rfl, ex_l e h, hs, hn, q⟩
theorem wo_small {xs : List Nat} (hs : Smp xs) (n a : Nat) : (woI xs n a).natAbs < 2 ^ 1001 := C_small (by have := hs.sum; omega) n
theorem whole_small {xs : List Nat} (hs : Smp xs) (n : Nat) : ((Kc.C xs.sum n : Nat) : Int).natAbs < 2 ^ 1001 := C_small (by have := hs.sum; omega) n
theorem met_small {xs : List Nat} (hs : Smp xs) (n : Nat) : (Kc.metSum xs n).natAbs < 2 ^ 1006 := by
  unfold Kc.metSum
  refine sum_bound8 (k := 1002) (by rw [List.length_map]; exact hs.len) fun x hx => ?_
  obtain ⟨a, ha, rfl⟩ := List.mem_map.mp hx
  exact sub_bound (whole_small hs n) (wo_small hs n a)
theorem ok_met (T : Bl mg) (c_size : Callee P w K mg base CX0 1 "size" p_size (spSize K)) (c_choices : Callee P w K mg base CX0 2 "choices" p_choices spChoices) (c_without_row : Callee P w K mg base CX0 3 "without_row" p_without_row (spWithout K))
    (D : DefIn K mg "met_sum" "met_sum" s_met_sum p_met_sum) : Callee P w K mg base CX0 4 "met_sum" p_met_sum (spMet K) := by
  refine callee D sc_met_sum (fun vs H Q E h => ?_) (fun f cdv A outer s H vs Q E hr h => ⟨_, (pss_cons (ps_set (i := 2) sc_met_sum.nd rfl (Or.inr rfl) (pe_callC c_choices (hr.mono (by decide)) (by rfl) pass0 (pa_cons (pe_callC c_size (hr.mono (by decide)) (by rfl) pass0 (pa_cons (pv 0) pa_nil)) (pa_cons (pv 1) pa_nil))))
      (pss_one (ps_ret (pe_callB (r := rSum K) (cr_sum rfl) (by rfl) T.b_sum (by decide +kernel) (pa_cons (pe_lc (own := [("without", 3)]) (g := gName 3) (tt := tYes) rfl sc_met_sum.nd (pi_list (pe_callC c_without_row (hr.mono (by decide)) (by rfl) pass0 (pa_cons (pv 0) (pa_cons (pv 1) pa_nil)))) (blkOk_by (N := n_met_sum) (sc := defScope s_met_sum) (by decide +kernel)) (fun _ _ _ _ _ => (pg_name (i := 3) sc_met_sum.nd rfl (Or.inl rfl))) (fun _ _ _ _ _ => pts_nil) (fun _ _ _ _ _ => (pe_op op_sub (pv 2) (pv 3)))) pa_nil))))), ?_⟩)
  · obtain ⟨a, xs, n, rfl, _⟩ := h
    rfl
  · obtain ⟨a, xs, n, rfl, hx, hs, hn, q⟩ := h
    refine q_asg (ev_call (ea_cons (ev_call (ea_cons (ev_var rfl) ea_nil) (sv_size hx)) (ea_cons (ev_var rfl) ea_nil)) (sv_choices (by have := hs.sum; omega) (by omega))) fun H1 e1 => ?_
    have hx1 := ex_l e1 hx
    refine s_ret (ev_sumM (fun c => (Kc.C xs.sum n : Int) - woI xs n c) (el_mapNS (fun c => V.int ((Kc.C xs.sum n : Int) - woI xs n c)) (el_call (ea_cons (ev_var rfl) (ea_cons (ev_var rfl) ea_nil)) (sl_without hx1 hs hn)) (by have := hs.len; omega) (fun _ => rfl) (fun c hc H2 e2 => ?_))) fun H2 e2 => q H2 (e1.trans e2)
    exact ev_op (ev_var rfl) (ev_var rfl) rv_I0
/-! ### expected -/
abbrev s_expected : Stmt := (top 11)
abbrev n_expected : List Str := ["sample", "n"]
abbrev p_expected : List Str := ["sample", "n"]
theorem sc_expected : FnScope n_expected p_expected (defScope s_expected) := ⟨rfl, rfl, rfl, by decide +kernel, rfl, by decide +kernel, by decide +kernel⟩
def spExpected (K : PySem.W.Frag) : Sp := fun vs H Q _ => ∃ (a : Addr) (xs : List Nat) (n : Nat), vs = [.ref a, .int (n : Int)] ∧ IL K H a (zs xs) ∧ Smp xs ∧ n ≤ xs.sum ∧ RetL ((Kc.expectedM xs n).map V.int) H Q
theorem sl_expected {a : Addr} {xs : List Nat} {n : Nat} (h : IL K H a (zs xs)) (hs : Smp xs) (hn : n ≤ xs.sum) : SpL (spExpected K) [.ref a, .int (n : Int)] H ((Kc.expectedM xs n).map V.int) := fun H1 e Q q E => ⟨a, xs, n, rfl, ex_l e h, hs, hn, q⟩
theorem ok_expected (c_size : Callee P w K mg base CX0 1 "size" p_size (spSize K)) (c_choices : Callee P w K mg base CX0 2 "choices" p_choices spChoices) (c_met_sum : Callee P w K mg base CX0 4 "met_sum" p_met_sum (spMet K))
    (c_lowest : Callee P w K mg base CX0 2 "lowest" p_lowest spLowest) (D : DefIn K mg "expected" "expected" s_expected p_expected) : Callee P w K mg base CX0 5 "expected" p_expected (spExpected K) := by
  refine callee D sc_expected (fun vs H Q E h => ?_) (fun f cdv A outer s H vs Q E hr h => ⟨_, (pss_one (ps_ret (pe_callC c_lowest (hr.mono (by decide)) (by rfl) pass0 (pa_cons (pe_callC c_met_sum (hr.mono (by decide)) (by rfl) pass0 (pa_cons (pv 0) (pa_cons (pv 1) pa_nil))) (pa_cons (pe_callC c_choices (hr.mono (by decide)) (by rfl) pass0 (pa_cons (pe_callC c_size (hr.mono (by decide)) (by rfl) pass0 (pa_cons (pv 0) pa_nil)) (pa_cons (pv 1) pa_nil))) pa_nil))))), ?_⟩)
  · obtain ⟨a, xs, n, rfl, _⟩ := h
    rfl
  · obtain ⟨a, xs, n, rfl, hx, hs, hn, q⟩ := h
    have h320 := hs.sum
    refine s_retL (el_call (ea_cons (ev_call (ea_cons (ev_var rfl) (ea_cons (ev_var rfl) ea_nil)) (sv_met hx hs (by omega))) (ea_cons (ev_call (ea_cons (ev_call (ea_cons (ev_var rfl) ea_nil) (sv_size hx)) (ea_cons (ev_var rfl) ea_nil)) (sv_choices (by omega) (by omega))) ea_nil))
      (sl_lowest (Kc.C_posI hn) (up_bound (whole_small hs n) (by decide)))) fun p H1 hp e1 h1 => q p H1 hp e1 h1
/-! ### both_met -/
abbrev s_both_met : Stmt := (top 13)
abbrev n_both_met : List Str := ["sample", "n", "i", "j", "rest", "one", "other"]
abbrev p_both_met : List Str := ["sample", "n", "i", "j"]
theorem sc_both_met : FnScope n_both_met p_both_met (defScope s_both_met) := ⟨rfl, rfl, rfl, by decide +kernel, rfl, by decide +kernel, by decide +kernel⟩
def spBoth (K : PySem.W.Frag) : Sp := fun vs H Q _ => ∃ (a : Addr) (xs : List Nat) (n i j : Nat), vs = [.ref a, .int (n : Int), .int (i : Int), .int (j : Int)] ∧ IL K H a (zs xs) ∧ Smp xs ∧ n ≤ 400 ∧ j < i ∧ i < xs.length ∧ RetV (.int (Kc.bothMet xs n i j)) H Q
theorem sv_both {a : Addr} {xs : List Nat} {n i j : Nat} (h : IL K H a (zs xs)) (hs : Smp xs) (hn : n ≤ 400) (hj : j < i) (hi : i < xs.length) : SpV (spBoth K) [.ref a, .int (n : Int), .int (i : Int), .int (j : Int)] H (.int (Kc.bothMet xs n i j)) :=
  fun H1 e Q q E => ⟨a, xs, n, i, j, rfl, ex_l e h, hs, hn, hj, hi, q⟩
theorem two_le : ∀ {xs : List Nat} {i j : Nat}, j < i → i < xs.length → xs.getD i 0 + xs.getD j 0 ≤ xs.sum
  | [], i, j, _, h => absurd h (Nat.not_lt_zero _)
  | x :: xs, 0, j, h, _ => absurd h (Nat.not_lt_zero _)
  | x :: xs, i + 1, 0, _, h => by
    have : xs.getD i 0 ≤ xs.sum := Kc.sum_getD
    show xs.getD i 0 + x ≤ (x :: xs).sum
    rw [List.sum_cons]; omega
  | x :: xs, i + 1, j + 1, h, h2 => by
    have := two_le (xs := xs) (i := i) (j := j) (by omega) (by simpa using h2)
    show xs.getD i 0 + xs.getD j 0 ≤ (x :: xs).sum
    rw [List.sum_cons]; omega
theorem ok_both (c_size : Callee P w K mg base CX0 1 "size" p_size (spSize K)) (c_choices : Callee P w K mg base CX0 2 "choices" p_choices spChoices) (D : DefIn K mg "both_met" "both_met" s_both_met p_both_met) :
    Callee P w K mg base CX0 3 "both_met" p_both_met (spBoth K) := by
  refine callee D sc_both_met (fun vs H Q E h => ?_) (fun f cdv A outer s H vs Q E hr h => ⟨_, (pss_cons (ps_set (i := 4) sc_both_met.nd rfl (Or.inl rfl) (pe_callC c_size (hr.mono (by decide)) (by rfl) pass0 (pa_cons (pv 0) pa_nil)))
      (pss_cons (ps_set (i := 5) sc_both_met.nd rfl (Or.inl rfl) (pe_callC c_choices (hr.mono (by decide)) (by rfl) pass0 (pa_cons (pe_op op_sub (pv 4) (pe_ix (r := rIxL K) ix_list (pv 0) (pv 2) (fun _ _ => rfl))) (pa_cons (pv 1) pa_nil))))
      (pss_cons (ps_set (i := 6) sc_both_met.nd rfl (Or.inl rfl) (pe_callC c_choices (hr.mono (by decide)) (by rfl) pass0 (pa_cons (pe_op op_sub (pv 4) (pe_ix (r := rIxL K) ix_list (pv 0) (pv 3) (fun _ _ => rfl))) (pa_cons (pv 1) pa_nil))))
      (pss_one (ps_ret (pe_op op_add (pe_op op_sub (pe_op op_sub (pe_callC c_choices (hr.mono (by decide)) (by rfl) pass0 (pa_cons (pv 4) (pa_cons (pv 1) pa_nil))) (pv 5)) (pv 6)) (pe_callC c_choices (hr.mono (by decide)) (by rfl) pass0 (pa_cons (pe_op op_sub (pe_op op_sub (pv 4) (pe_ix (r := rIxL K) ix_list (pv 0) (pv 2) (fun _ _ => rfl))) (pe_ix (r := rIxL K) ix_list (pv 0) (pv 3) (fun _ _ => rfl))) (pa_cons (pv 1) pa_nil))))))))), ?_⟩)
  · obtain ⟨a, xs, n, i, j, rfl, _⟩ := h
    rfl
  · obtain ⟨a, xs, n, i, j, rfl, hx, hs, hn, hj, hi, q⟩ := h
    have h320 := hs.sum
    have l1 : xs.getD i 0 ≤ xs.sum := Kc.sum_getD
    have l2 : xs.getD j 0 ≤ xs.sum := Kc.sum_getD
    have l3 := two_le hj hi
    refine q_asg (ev_call (ea_cons (ev_var rfl) ea_nil) (sv_size hx)) fun H1 e1 => ?_
    refine q_asg (ev_call (ea_cons (ev_op (ev_var rfl) (ev_op (ev_var rfl) (ev_var rfl) (rv_ixL (ex_l e1 hx) (atI_nat (zs_at hi)))) rv_I0) (ea_cons (ev_var rfl) ea_nil)) (sv_wo hs l1 hn)) fun H2 e2 => ?_
    refine q_asg (ev_call (ea_cons (ev_op (ev_var rfl) (ev_op (ev_var rfl) (ev_var rfl) (rv_ixL (ex_l (e1.trans e2) hx) (atI_nat (zs_at (show j < xs.length by omega))))) rv_I0) (ea_cons (ev_var rfl) ea_nil)) (sv_wo hs l2 hn)) fun H3 e3 => ?_
    have hx3 := ex_l ((e1.trans e2).trans e3) hx
    have e : ((xs.sum : Int) - (xs.getD i 0 : Nat)) - (xs.getD j 0 : Nat) = ((xs.sum - xs.getD i 0 - xs.getD j 0 : Nat) : Int) := by omega
    have sv : SpV spChoices [.int (((xs.sum : Int) - (xs.getD i 0 : Nat)) - (xs.getD j 0 : Nat)), .int (n : Int)] H3 (.int (Kc.C (xs.sum - xs.getD i 0 - xs.getD j 0) n : Nat)) := by
      rw [e]
      exact sv_choices (by omega) (by omega)
    refine s_ret (ev_op (ev_op (ev_op (ev_call (ea_cons (ev_var rfl) (ea_cons (ev_var rfl) ea_nil)) (sv_choices (by omega) (by omega))) (ev_var rfl) rv_I0) (ev_var rfl) rv_I0)
      (ev_call (ea_cons (ev_op (ev_op (ev_var rfl) (ev_op (ev_var rfl) (ev_var rfl) (rv_ixL hx3 (atI_nat (zs_at hi)))) rv_I0) (ev_op (ev_var rfl) (ev_var rfl) (rv_ixL hx3 (atI_nat (zs_at (show j < xs.length by omega))))) rv_I0) (ea_cons (ev_var rfl) ea_nil)) sv) rv_I0) fun H4 e4 => q H4 (((e1.trans e2).trans e3).trans e4)
/-! ### pairs_sum -/
abbrev s_pairs_sum : Stmt := (top 14)
abbrev n_pairs_sum : List Str := ["sample", "n", "found", "i", "j"]
abbrev p_pairs_sum : List Str := ["sample", "n"]
theorem sc_pairs_sum : FnScope n_pairs_sum p_pairs_sum (defScope s_pairs_sum) := ⟨rfl, rfl, rfl, by decide +kernel, rfl, by decide +kernel, by decide +kernel⟩
def spPairs (K : PySem.W.Frag) : Sp := fun vs H Q _ => ∃ (a : Addr) (xs : List Nat) (n : Nat), vs = [.ref a, .int (n : Int)] ∧ IL K H a (zs xs) ∧ Smp xs ∧ n ≤ 400 ∧ RetV (.int (Kc.pairsSum xs n)) H Q
theorem sv_pairs {a : Addr} {xs : List Nat} {n : Nat} (h : IL K H a (zs xs)) (hs : Smp xs) (hn : n ≤ 400) : SpV (spPairs K) [.ref a, .int (n : Int)] H (.int (Kc.pairsSum xs n)) := fun H1 e Q q E => ⟨a, xs, n, rfl, ex_l e h, hs, hn, q⟩
theorem ok_pairs (T : Bl mg) (c_both_met : Callee P w K mg base CX0 3 "both_met" p_both_met (spBoth K)) (D : DefIn K mg "pairs_sum" "pairs_sum" s_pairs_sum p_pairs_sum) :
    Callee P w K mg base CX0 4 "pairs_sum" p_pairs_sum (spPairs K) := by
  refine callee D sc_pairs_sum (fun vs H Q E h => ?_) (fun f cdv A outer s H vs Q E hr h => ⟨_, (pss_cons (ps_set (i := 2) sc_pairs_sum.nd rfl (Or.inl rfl) pe_int)
      (pss_cons (ps_for PassesOwn.never rfl (pi_range1 rfl T.b_range (pa_cons (pe_callB call_len_seq (by rfl) T.b_len PySem.boot_len (pa_cons (pv 0) pa_nil)) pa_nil)) (pg_name (i := 3) sc_pairs_sum.nd rfl (Or.inr rfl)) (pss_one (ps_aug (i := 2) sc_pairs_sum.nd rfl (Or.inl rfl) (pe_callB (r := rSum K) (cr_sum rfl) (by rfl) T.b_sum (by decide +kernel) (pa_cons (pe_lc (own := [("j", 4)]) (g := gName 4) (tt := tYes) rfl sc_pairs_sum.nd (pi_range1 rfl T.b_range (pa_cons (pv 3) pa_nil)) (blkOk_by (N := n_pairs_sum) (sc := defScope s_pairs_sum) (by decide +kernel)) (fun _ _ _ _ _ => (pg_name (i := 4) sc_pairs_sum.nd rfl (Or.inl rfl))) (fun _ _ _ _ _ => pts_nil) (fun _ _ _ _ _ => (pe_callC c_both_met (hr.mono (by decide)) (by rfl) pass0 (pa_cons (pv 0) (pa_cons (pv 1) (pa_cons (pv 3) (pa_cons (pv 4) pa_nil))))))) pa_nil)) ip_add)))
      (pss_one (ps_ret (pv 2))))), ?_⟩)
  · obtain ⟨a, xs, n, rfl, _⟩ := h
    rfl
  · obtain ⟨a, xs, n, rfl, hx, hs, hn, q⟩ := h
    have h8 := hs.len
    have hlen : ((zs xs).map V.int).length = xs.length := by rw [List.length_map, zs_len]
    refine q_asg ev_c fun H1 e1 => ?_
    refine q_forR1 (ea_cons (ev_len (ev_var rfl) (ex_l e1 hx)) ea_nil) (by rw [hlen]; omega) (fun i σ' H' => ∃ z : Option V, σ' = [some (.ref a), some (.int (n : Int)), some (.int (Kc.S (fun i => ((List.range i).map fun j => Kc.bothMet xs n i j).sum) i)), z, none] ∧ Ex H H') (fun H2 e2 => ⟨none, rfl, e1.trans e2⟩) ?_ ?_
    · rintro i σ' H' hi ⟨z, rfl, e⟩
      rw [hlen] at hi
      have hx1 := ex_l e hx
      have g := ev_sumM (K := K) (fun j => Kc.bothMet xs n i j) (el_mapR1 (j := 4) (vs := [4]) (σ := [some (.ref a), some (.int (n : Int)), some (.int (Kc.S (fun i => ((List.range i).map fun j => Kc.bothMet xs n i j).sum) i)), some (.int (i : Int)), none]) (H := H')
        (te := tCall (spBoth K) [] E0 (tCons (tVar 0) (tCons (tVar 1) (tCons (tVar 3) (tCons (tVar 4) tNil))))) (ta := tCons (tVar 3) tNil) (n := (i : Int)) (fun j => V.int (Kc.bothMet xs n i j)) (ea_cons (ev_var rfl) ea_nil) (by omega) (fun _ => rfl) (fun j H2 e2 hj => ev_call (ea_cons (ev_var rfl) (ea_cons (ev_var rfl) (ea_cons (ev_var rfl) (ea_cons (ev_var rfl) ea_nil)))) (sv_both (ex_l e2 hx1) hs hn (by omega) (by omega))))
      rw [Int.toNat_natCast] at g
      exact s_aug rfl g fun H2 e2 => ⟨some (.int (i : Int)), rfl, e.trans e2⟩
    · rintro σ' H' ⟨z, rfl, e⟩
      rw [hlen, Int.toNat_natCast]
      refine s_ret (ev_var rfl) fun H2 e2 => ?_
      have := q H2 (e.trans e2)
      unfold Kc.pairsSum at this
      rw [Kc.sum_range] at this
      exact this
/-! ### variance -/
abbrev s_variance : Stmt := (top 15)
abbrev n_variance : List Str := ["sample", "n", "whole", "met", "squares"]
abbrev p_variance : List Str := ["sample", "n"]
theorem sc_variance : FnScope n_variance p_variance (defScope s_variance) := ⟨rfl, rfl, rfl, by decide +kernel, rfl, by decide +kernel, by decide +kernel⟩
def spVariance (K : PySem.W.Frag) : Sp := fun vs H Q _ => ∃ (a : Addr) (xs : List Nat) (n : Nat), vs = [.ref a, .int (n : Int)] ∧ IL K H a (zs xs) ∧ Smp xs ∧ n ≤ xs.sum ∧ RetL ((Kc.varianceM xs n).map V.int) H Q
theorem sl_variance {a : Addr} {xs : List Nat} {n : Nat} (h : IL K H a (zs xs)) (hs : Smp xs) (hn : n ≤ xs.sum) : SpL (spVariance K) [.ref a, .int (n : Int)] H ((Kc.varianceM xs n).map V.int) := fun H1 e Q q E => ⟨a, xs, n, rfl, ex_l e h, hs, hn, q⟩
theorem both_small {xs : List Nat} (hs : Smp xs) (n i j : Nat) : (Kc.bothMet xs n i j).natAbs < 2 ^ 1004 := by
  unfold Kc.bothMet
  have h1 := whole_small hs n
  have h2 := wo_small hs n (xs.getD i 0)
  have h3 := wo_small hs n (xs.getD j 0)
  have h4 : ((Kc.C (xs.sum - xs.getD i 0 - xs.getD j 0) n : Nat) : Int).natAbs < 2 ^ 1001 := C_small (by have := hs.sum; omega) n
  exact add_bound (sub_bound (sub_bound h1 h2) (up_bound h3 (by decide))) (up_bound h4 (by decide))
theorem pairs_small {xs : List Nat} (hs : Smp xs) (n : Nat) : (Kc.pairsSum xs n).natAbs < 2 ^ 1012 := by
  unfold Kc.pairsSum
  have h8 := hs.len
  refine sum_bound8 (k := 1008) (by rw [List.length_map, List.length_range]; exact h8) fun x hx => ?_
  obtain ⟨i, hi, rfl⟩ := List.mem_map.mp hx
  have hi := List.mem_range.mp hi
  refine sum_bound8 (k := 1004) (by rw [List.length_map, List.length_range]; omega) fun x hx => ?_
  obtain ⟨j, hj, rfl⟩ := List.mem_map.mp hx
  exact both_small hs n i j
theorem ok_variance (c_size : Callee P w K mg base CX0 1 "size" p_size (spSize K)) (c_choices : Callee P w K mg base CX0 2 "choices" p_choices spChoices) (c_met_sum : Callee P w K mg base CX0 4 "met_sum" p_met_sum (spMet K))
    (c_pairs_sum : Callee P w K mg base CX0 4 "pairs_sum" p_pairs_sum (spPairs K)) (c_lowest : Callee P w K mg base CX0 2 "lowest" p_lowest spLowest) (D : DefIn K mg "variance" "variance" s_variance p_variance) :
    Callee P w K mg base CX0 5 "variance" p_variance (spVariance K) := by
  refine callee D sc_variance (fun vs H Q E h => ?_) (fun f cdv A outer s H vs Q E hr h => ⟨_, (pss_cons (ps_set (i := 2) sc_variance.nd rfl (Or.inl rfl) (pe_callC c_choices (hr.mono (by decide)) (by rfl) pass0 (pa_cons (pe_callC c_size (hr.mono (by decide)) (by rfl) pass0 (pa_cons (pv 0) pa_nil)) (pa_cons (pv 1) pa_nil))))
      (pss_cons (ps_set (i := 3) sc_variance.nd rfl (Or.inl rfl) (pe_callC c_met_sum (hr.mono (by decide)) (by rfl) pass0 (pa_cons (pv 0) (pa_cons (pv 1) pa_nil))))
      (pss_cons (ps_set (i := 4) sc_variance.nd rfl (Or.inl rfl) (pe_op op_add (pv 3) (pe_op op_mulW pe_int (pe_callC c_pairs_sum (hr.mono (by decide)) (by rfl) pass0 (pa_cons (pv 0) (pa_cons (pv 1) pa_nil))))))
      (pss_one (ps_ret (pe_callC c_lowest (hr.mono (by decide)) (by rfl) pass0 (pa_cons (pe_op op_sub (pe_op op_mulW (pv 2) (pv 4)) (pe_op op_mulW (pv 3) (pv 3))) (pa_cons (pe_op op_mulW (pv 2) (pv 2)) pa_nil)))))))), ?_⟩)
  · obtain ⟨a, xs, n, rfl, _⟩ := h
    rfl
  · obtain ⟨a, xs, n, rfl, hx, hs, hn, q⟩ := h
    have h320 := hs.sum
    have b1 := whole_small hs n
    have b2 := met_small hs n
    have b3 := pairs_small hs n
    have b4 : (2 * Kc.pairsSum xs n).natAbs < 2 ^ 1014 := wide_lt (a := 2) (b := 1012) (i := 2) (by decide) b3
    have b5 : (Kc.metSum xs n + 2 * Kc.pairsSum xs n).natAbs < 2 ^ 1015 := add_bound (up_bound b2 (by decide)) b4
    refine q_asg (ev_call (ea_cons (ev_call (ea_cons (ev_var rfl) ea_nil) (sv_size hx)) (ea_cons (ev_var rfl) ea_nil)) (sv_choices (by omega) (by omega))) fun H1 e1 => ?_
    refine q_asg (ev_call (ea_cons (ev_var rfl) (ea_cons (ev_var rfl) ea_nil)) (sv_met (ex_l e1 hx) hs (by omega))) fun H2 e2 => ?_
    refine q_asg (ev_op (ev_var rfl) (ev_op ev_c (ev_call (ea_cons (ev_var rfl) (ea_cons (ev_var rfl) ea_nil)) (sv_pairs (ex_l (e1.trans e2) hx) hs (by omega))) (rv_I (wide_mul (a := 2) (by decide) b3 (by decide) (by decide) (by decide)))) rv_I0) fun H3 e3 => ?_
    refine s_retL (el_call (ea_cons (ev_op (ev_op (ev_var rfl) (ev_var rfl) (rv_I (wide_mul b1 b5 (by decide) (by decide) (by decide)))) (ev_op (ev_var rfl) (ev_var rfl) (rv_I (wide_mul b2 b2 (by decide) (by decide) (by decide)))) rv_I0)
      (ea_cons (ev_op (ev_var rfl) (ev_var rfl) (rv_I (wide_mul b1 b1 (by decide) (by decide) (by decide)))) ea_nil)) (sl_lowest (Int.mul_pos (Kc.C_posI hn) (Kc.C_posI hn)) (up_bound (wide_lt b1 b1) (by decide)))) fun p H4 hp e4 h4 => ?_
    exact q.go ((e1.trans e2).trans e3) hp e4 h4
end
end Kw


/-! parts.py, second half: times, powers, alike, over_plots -/
namespace Kw
open PySem PySem.Spec PyProof.Rows L2 Evl
theorem sum_small {l : List Int} {k : Nat} (hl : l.length ≤ 8) (h : ∀ x ∈ l, x.natAbs < 2 ^ k) : l.sum.natAbs < 2 ^ (k + 4) := sum_bound8 hl h
section
variable {P : Program} {w : World} {K : PySem.W.Frag} {mg : Str → Option Value} {base : Heap} {H : Hp}
/-! ### times -/
abbrev s_times : Stmt := (top 19)
abbrev n_times : List Str := ["sample", "n", "j", "whole", "found", "many"]
abbrev p_times : List Str := ["sample", "n", "j"]
theorem sc_times : FnScope n_times p_times (defScope s_times) := ⟨rfl, rfl, rfl, by decide +kernel, rfl, by decide +kernel, by decide +kernel⟩
def spTimes (K : PySem.W.Frag) : Sp := fun vs H Q _ => ∃ (a : Addr) (xs : List Nat) (n j : Nat), vs = [.ref a, .int (n : Int), .int (j : Int)] ∧ IL K H a (zs xs) ∧ Smp xs ∧ n ≤ xs.sum ∧ j ≤ n ∧ RetL ((Kc.timesM xs n j).map V.int) H Q
theorem sl_times {a : Addr} {xs : List Nat} {n j : Nat} (h : IL K H a (zs xs)) (hs : Smp xs) (hn : n ≤ xs.sum) (hj : j ≤ n) : SpL (spTimes K) [.ref a, .int (n : Int), .int (j : Int)] H ((Kc.timesM xs n j).map V.int) := fun H1 e Q q E => ⟨a, xs, n, j, rfl, ex_l e h, hs, hn, hj, q⟩
theorem ok_times (T : Bl mg) (c_size : Callee P w K mg base CX0 1 "size" p_size (spSize K)) (c_choices : Callee P w K mg base CX0 2 "choices" p_choices spChoices)
    (c_lowest : Callee P w K mg base CX0 2 "lowest" p_lowest spLowest) (D : DefIn K mg "times" "times" s_times p_times) : Callee P w K mg base CX0 3 "times" p_times (spTimes K) := by
  refine callee D sc_times (fun vs H Q E h => ?_) (fun f cdv A outer s H vs Q E hr h => ⟨_, (pss_cons (ps_set (i := 3) sc_times.nd rfl (Or.inr rfl) (pe_callC c_size (hr.mono (by decide)) (by rfl) pass0 (pa_cons (pv 0) pa_nil)))
      (pss_cons (ps_set (i := 4) sc_times.nd rfl (Or.inl rfl) (pe_callB (r := rSum K) (cr_sum rfl) (by rfl) T.b_sum (by decide +kernel) (pa_cons (pe_lc (own := [("many", 5)]) (g := gName 5) (tt := tYes) rfl sc_times.nd (pi_list (pv 0)) (blkOk_by (N := n_times) (sc := defScope s_times) (by decide +kernel)) (fun _ _ _ _ _ => (pg_name (i := 5) sc_times.nd rfl (Or.inl rfl))) (fun _ _ _ _ _ => pts_nil) (fun _ _ _ _ _ => (pe_op op_mulW (pe_callC c_choices (hr.mono (by decide)) (by rfl) pass0 (pa_cons (pv 5) (pa_cons (pv 2) pa_nil))) (pe_callC c_choices (hr.mono (by decide)) (by rfl) pass0 (pa_cons (pe_op op_sub (pv 3) (pv 5)) (pa_cons (pe_op op_sub (pv 1) (pv 2)) pa_nil)))))) pa_nil)))
      (pss_one (ps_ret (pe_callC c_lowest (hr.mono (by decide)) (by rfl) pass0 (pa_cons (pv 4) (pa_cons (pe_callC c_choices (hr.mono (by decide)) (by rfl) pass0 (pa_cons (pv 3) (pa_cons (pv 1) pa_nil))) pa_nil))))))), ?_⟩)
  · obtain ⟨a, xs, n, j, rfl, _⟩ := h
    rfl
  · obtain ⟨a, xs, n, j, rfl, hx, hs, hn, hj, q⟩ := h
    have h320 := hs.sum
    refine q_asg (ev_call (ea_cons (ev_var rfl) ea_nil) (sv_size hx)) fun H1 e1 => ?_
    refine q_asg (ev_sumM (fun (c : Nat) => (Kc.C c j : Int) * (Kc.C (xs.sum - c) (n - j) : Int)) (el_mapS (fun c => V.int ((Kc.C c j : Int) * (Kc.C (xs.sum - c) (n - j) : Int))) (ev_var rfl) (ex_l e1 hx) (by have := hs.len; omega) (fun _ => rfl) (fun c hc H2 e2 => ?_))) fun H2 e2 => ?_
    · have hc1 := Kc.le_sum hc
      have b1 : ((Kc.C c j : Nat) : Int).natAbs < 2 ^ 1001 := C_small (by omega) j
      have b2 : ((Kc.C (xs.sum - c) (n - j) : Nat) : Int).natAbs < 2 ^ 1001 := C_small (by omega) (n - j)
      have s1 : ((xs.sum : Nat) : Int) - (c : Nat) = ((xs.sum - c : Nat) : Int) := by omega
      have s2 : ((n : Nat) : Int) - (j : Nat) = ((n - j : Nat) : Int) := by omega
      have sv : SpV spChoices [.int (((xs.sum : Nat) : Int) - (c : Nat)), .int (((n : Nat) : Int) - (j : Nat))] H2 (.int (Kc.C (xs.sum - c) (n - j) : Nat)) := by
        rw [s1, s2]
        exact sv_choices (by omega) (by omega)
      exact ev_op (ev_call (ea_cons (ev_var rfl) (ea_cons (ev_var rfl) ea_nil)) (sv_choices (by omega) (by omega))) (ev_call (ea_cons (ev_op (ev_var rfl) (ev_var rfl) rv_I0) (ea_cons (ev_op (ev_var rfl) (ev_var rfl) rv_I0) ea_nil)) sv) (rv_I (wide_mul b1 b2 (by decide) (by decide) (by decide)))
    · refine s_retL (el_call (ea_cons (ev_var rfl) (ea_cons (ev_call (ea_cons (ev_var rfl) (ea_cons (ev_var rfl) ea_nil)) (sv_choices (by omega) (by omega))) ea_nil)) (sl_lowest (Kc.C_posI hn) (up_bound (whole_small hs n) (by decide)))) fun p H4 hp e4 h4 => ?_
      exact q.go (e1.trans e2) hp e4 h4
/-! ### powers -/
abbrev s_powers : Stmt := (top 21)
abbrev n_powers : List Str := ["sample", "q", "many"]
abbrev p_powers : List Str := ["sample", "q"]
theorem sc_powers : FnScope n_powers p_powers (defScope s_powers) := ⟨rfl, rfl, rfl, by decide +kernel, rfl, by decide +kernel, by decide +kernel⟩
def spPowers (K : PySem.W.Frag) : Sp := fun vs H Q _ => ∃ (a : Addr) (xs : List Nat) (n : Nat), vs = [.ref a, .int (n : Int)] ∧ IL K H a (zs xs) ∧ Smp xs ∧ 0 < xs.sum ∧ n ≤ 8 ∧ RetL ((Kc.powersM xs n).map V.int) H Q
theorem sl_powers {a : Addr} {xs : List Nat} {n : Nat} (h : IL K H a (zs xs)) (hs : Smp xs) (h0 : 0 < xs.sum) (hn : n ≤ 8) : SpL (spPowers K) [.ref a, .int (n : Int)] H ((Kc.powersM xs n).map V.int) := fun H1 e Q q E => ⟨a, xs, n, rfl, ex_l e h, hs, h0, hn, q⟩
theorem ok_powers (T : Bl mg) (c_size : Callee P w K mg base CX0 1 "size" p_size (spSize K)) (c_power : Callee P w K mg base CX0 1 "power" p_power spPower)
    (c_lowest : Callee P w K mg base CX0 2 "lowest" p_lowest spLowest) (D : DefIn K mg "powers" "powers" s_powers p_powers) : Callee P w K mg base CX0 3 "powers" p_powers (spPowers K) := by
  refine callee D sc_powers (fun vs H Q E h => ?_) (fun f cdv A outer s H vs Q E hr h => ⟨_, (pss_one (ps_ret (pe_callC c_lowest (hr.mono (by decide)) (by rfl) pass0 (pa_cons (pe_callB (r := rSum K) (cr_sum rfl) (by rfl) T.b_sum (by decide +kernel) (pa_cons (pe_lc (own := [("many", 2)]) (g := gName 2) (tt := tYes) rfl sc_powers.nd (pi_list (pv 0)) (blkOk_by (N := n_powers) (sc := defScope s_powers) (by decide +kernel)) (fun _ _ _ _ _ => (pg_name (i := 2) sc_powers.nd rfl (Or.inl rfl))) (fun _ _ _ _ _ => pts_nil) (fun _ _ _ _ _ => (pe_callC c_power (hr.mono (by decide)) (by rfl) pass0 (pa_cons (pv 2) (pa_cons (pv 1) pa_nil))))) pa_nil)) (pa_cons (pe_callC c_power (hr.mono (by decide)) (by rfl) pass0 (pa_cons (pe_callC c_size (hr.mono (by decide)) (by rfl) pass0 (pa_cons (pv 0) pa_nil)) (pa_cons (pv 1) pa_nil))) pa_nil))))), ?_⟩)
  · obtain ⟨a, xs, n, rfl, _⟩ := h
    rfl
  · obtain ⟨a, xs, n, rfl, hx, hs, h0, hn, q⟩ := h
    have h320 := hs.sum
    have hp : (0 : Int) < (xs.sum : Int) ^ n := Int.pow_pos (by omega)
    have hz : ((xs.sum : Int) ^ n).natAbs < 2 ^ 8000 := Nat.lt_of_le_of_lt (pow_small (by omega) (by omega) n) (Nat.pow_lt_pow_right (by decide) (by omega))
    refine s_retL (el_call (ea_cons (ev_sumM (fun (c : Nat) => (c : Int) ^ n) (el_mapS (fun c => V.int ((c : Int) ^ n)) (ev_var rfl) hx (by have := hs.len; omega) (fun _ => rfl) (fun c hc H2 e2 => ?_)))
      (ea_cons (ev_call (ea_cons (ev_call (ea_cons (ev_var rfl) ea_nil) (sv_size hx)) (ea_cons (ev_var rfl) ea_nil)) (sv_power (by omega) (by omega) (by omega))) ea_nil)) (sl_lowest hp hz)) fun p H4 hp e4 h4 => q p H4 hp e4 h4
    have hc1 := Kc.le_sum hc
    exact ev_call (ea_cons (ev_var rfl) (ea_cons (ev_var rfl) ea_nil)) (sv_power (by omega) (by omega) (by omega))
/-! ### alike -/
abbrev s_alike : Stmt := (top 23)
abbrev n_alike : List Str := ["sample", "whole", "many"]
abbrev p_alike : List Str := ["sample"]
theorem sc_alike : FnScope n_alike p_alike (defScope s_alike) := ⟨rfl, rfl, rfl, by decide +kernel, rfl, by decide +kernel, by decide +kernel⟩
def spAlike (K : PySem.W.Frag) : Sp := fun vs H Q _ => ∃ (a : Addr) (xs : List Nat), vs = [.ref a] ∧ IL K H a (zs xs) ∧ Smp xs ∧ 1 < xs.sum ∧ RetL ((Kc.alikeM xs).map V.int) H Q
theorem sl_alike {a : Addr} {xs : List Nat} (h : IL K H a (zs xs)) (hs : Smp xs) (h0 : 1 < xs.sum) : SpL (spAlike K) [.ref a] H ((Kc.alikeM xs).map V.int) := fun H1 e Q q E => ⟨a, xs, rfl, ex_l e h, hs, h0, q⟩
theorem small10 {x : Int} (h0 : -1 ≤ x) (h : x ≤ 400) : x.natAbs < 2 ^ 10 := by omega
theorem ok_alike (T : Bl mg) (c_size : Callee P w K mg base CX0 1 "size" p_size (spSize K)) (c_lowest : Callee P w K mg base CX0 2 "lowest" p_lowest spLowest) (D : DefIn K mg "alike" "alike" s_alike p_alike) :
    Callee P w K mg base CX0 3 "alike" p_alike (spAlike K) := by
  refine callee D sc_alike (fun vs H Q E h => ?_) (fun f cdv A outer s H vs Q E hr h => ⟨_, (pss_cons (ps_set (i := 1) sc_alike.nd rfl (Or.inl rfl) (pe_callC c_size (hr.mono (by decide)) (by rfl) pass0 (pa_cons (pv 0) pa_nil)))
      (pss_one (ps_ret (pe_callC c_lowest (hr.mono (by decide)) (by rfl) pass0 (pa_cons (pe_callB (r := rSum K) (cr_sum rfl) (by rfl) T.b_sum (by decide +kernel) (pa_cons (pe_lc (own := [("many", 2)]) (g := gName 2) (tt := tYes) rfl sc_alike.nd (pi_list (pv 0)) (blkOk_by (N := n_alike) (sc := defScope s_alike) (by decide +kernel)) (fun _ _ _ _ _ => (pg_name (i := 2) sc_alike.nd rfl (Or.inl rfl))) (fun _ _ _ _ _ => pts_nil) (fun _ _ _ _ _ => (pe_op op_mulW (pv 2) (pe_op op_sub (pv 2) pe_int)))) pa_nil)) (pa_cons (pe_op op_mulW (pv 1) (pe_op op_sub (pv 1) pe_int)) pa_nil)))))), ?_⟩)
  · obtain ⟨a, xs, rfl, _⟩ := h
    rfl
  · obtain ⟨a, xs, rfl, hx, hs, h1, q⟩ := h
    have h320 := hs.sum
    have m : ∀ {x y : Int}, -1 ≤ x → x ≤ 400 → -1 ≤ y → y ≤ 400 → CMulW x y := fun a1 a2 a3 a4 => wide_mul (small10 a1 a2) (small10 a3 a4) (by decide) (by decide) (by decide)
    refine q_asg (ev_call (ea_cons (ev_var rfl) ea_nil) (sv_size hx)) fun H1 e1 => ?_
    refine s_retL (el_call (ea_cons (ev_sumM (fun (c : Nat) => (c : Int) * ((c : Int) - 1)) (el_mapS (fun c => V.int ((c : Int) * ((c : Int) - 1))) (ev_var rfl) (ex_l e1 hx) (by have := hs.len; omega) (fun _ => rfl) (fun c hc H2 e2 => ?_)))
      (ea_cons (ev_op (ev_var rfl) (ev_op (ev_var rfl) ev_c rv_I0) (rv_I (m (by omega) (by omega) (by omega) (by omega)))) ea_nil)) (sl_lowest (Int.mul_pos (by omega) (by omega)) (up_bound (wide_lt (a := 10) (b := 10) (small10 (by omega) (by omega)) (small10 (by omega) (by omega))) (by decide)))) fun p H4 hp e4 h4 => q.go e1 hp e4 h4
    have hc1 := Kc.le_sum hc
    exact ev_op (ev_var rfl) (ev_op (ev_var rfl) ev_c rv_I0) (rv_I (m (by omega) (by omega) (by omega) (by omega)))
/-! ### over_plots -/
abbrev s_over_plots : Stmt := (top 25)
abbrev n_over_plots : List Str := ["plots", "h", "whole", "found", "kind", "having", "plot"]
abbrev p_over_plots : List Str := ["plots", "h"]
theorem sc_over_plots : FnScope n_over_plots p_over_plots (defScope s_over_plots) := ⟨rfl, rfl, rfl, by decide +kernel, rfl, by decide +kernel, by decide +kernel⟩
structure Plt (ps : List Nat) : Prop where
  len : ps.length ≤ 40
  le : ∀ a ∈ ps, a ≤ 255
def spOver (K : PySem.W.Frag) : Sp := fun vs H Q _ => ∃ (a : Addr) (ps : List Nat) (h : Nat), vs = [.ref a, .int (h : Int)] ∧ IL K H a (zs ps) ∧ ps.length ≤ 40 ∧ h ≤ ps.length ∧ RetL ((Kc.overPlotsM ps h).map V.int) H Q
theorem sl_over {a : Addr} {ps : List Nat} {h : Nat} (hx : IL K H a (zs ps)) (hl : ps.length ≤ 40) (hh : h ≤ ps.length) : SpL (spOver K) [.ref a, .int (h : Int)] H ((Kc.overPlotsM ps h).map V.int) := fun H1 e Q q E => ⟨a, ps, h, rfl, ex_l e hx, hl, hh, q⟩
theorem rv_andM {i : Int} : RV (fun x y H Q => ∃ (i : Int) (k : Nat), x = .int i ∧ y = .int (2 ^ k - 1) ∧ Q (.int (i % 2 ^ k)) H) (.int i) (.int 1) H (.int (i % 2)) := fun H1 e Q q => ⟨i, 1, rfl, rfl, q H1 (Ex.refl H1)⟩
theorem ok_over (T : Bl mg) (c_choices : Callee P w K mg base CX0 2 "choices" p_choices spChoices) (c_lowest : Callee P w K mg base CX0 2 "lowest" p_lowest spLowest) (D : DefIn K mg "over_plots" "over_plots" s_over_plots p_over_plots) :
    Callee P w K mg base CX0 3 "over_plots" p_over_plots (spOver K) := by
  refine callee D sc_over_plots (fun vs H Q E h => ?_) (fun f cdv A outer s H vs Q E hr h => ⟨_, (pss_cons (ps_set (i := 2) sc_over_plots.nd rfl (Or.inl rfl) (pe_callC c_choices (hr.mono (by decide)) (by rfl) pass0 (pa_cons (pe_callB call_len_seq (by rfl) T.b_len PySem.boot_len (pa_cons (pv 0) pa_nil)) (pa_cons (pv 1) pa_nil))))
      (pss_cons (ps_set (i := 3) sc_over_plots.nd rfl (Or.inl rfl) pe_int)
      (pss_cons (ps_for PassesOwn.never rfl (pi_range1 rfl T.b_range (pa_cons pe_int pa_nil)) (pg_name (i := 4) sc_over_plots.nd rfl (Or.inr rfl)) (pss_cons (ps_set (i := 5) sc_over_plots.nd rfl (Or.inl rfl) (pe_callB call_len_seq (by rfl) T.b_len PySem.boot_len (pa_cons (pe_lc (own := [("plot", 6)]) (g := gName 6) rfl sc_over_plots.nd (pi_list (pv 0)) (blkOk_by (N := n_over_plots) (sc := defScope s_over_plots) (by decide +kernel)) (fun _ _ _ _ _ => (pg_name (i := 6) sc_over_plots.nd rfl (Or.inl rfl))) (fun _ _ _ _ _ => (pts_one (pt_cmpR op_eq (pe_op op_andM (pe_op op_shr (pv 6) (pv 4)) pe_int) pe_int (nomark _)))) (fun _ _ _ _ _ => (pv 6))) pa_nil)))
      (pss_one (ps_aug (i := 3) sc_over_plots.nd rfl (Or.inl rfl) (pe_op op_sub (pv 2) (pe_callC c_choices (hr.mono (by decide)) (by rfl) pass0 (pa_cons (pe_op op_sub (pe_callB call_len_seq (by rfl) T.b_len PySem.boot_len (pa_cons (pv 0) pa_nil)) (pv 5)) (pa_cons (pv 1) pa_nil)))) ip_add))))
      (pss_one (ps_ret (pe_callC c_lowest (hr.mono (by decide)) (by rfl) pass0 (pa_cons (pv 3) (pa_cons (pv 2) pa_nil)))))))), ?_⟩)
  · obtain ⟨a, xs, n, rfl, _⟩ := h
    rfl
  · obtain ⟨a, ps, h, rfl, hx, hl, hh, q⟩ := h
    have hlen : ((zs ps).map V.int).length = ps.length := by rw [List.length_map, zs_len]
    have evL : ∀ {σ : L2.St} {H' : Hp}, Ex H H' → σ[0]? = some (some (.ref a)) → Ev (tCB (rLenS K) (tCons (tVar 0) tNil)) σ H' (.int (ps.length : Nat)) := fun {σ H'} e hσ => by
      have := ev_len (K := K) (ev_var hσ) (ex_l e hx)
      rw [hlen] at this
      exact this
    refine q_asg (ev_call (ea_cons (evL (Ex.refl H) rfl) (ea_cons (ev_var rfl) ea_nil)) (sv_choices (by omega) (by omega))) fun H1 e1 => ?_
    refine q_asg ev_c fun H2 e2 => ?_
    refine q_forR1 (n := 8) (ea_cons ev_c ea_nil) (by omega) (fun i σ' H' => ∃ z y : Option V, σ' = [some (.ref a), some (.int (h : Int)), some (.int (Kc.C ps.length h : Nat)), some (.int (Kc.S (fun i => (Kc.C ps.length h : Int) - Kc.C (ps.length - Kc.having ps i) h) i)), z, y, none] ∧ Ex H H') (fun H3 e3 => ⟨none, none, rfl, (e1.trans e2).trans e3⟩) ?_ ?_
    · rintro i σ' H' hi ⟨z, y, rfl, e⟩
      have hcount : Kc.having ps i ≤ ps.length := List.countP_le_length
      refine q_asg (ev_count (fun m => m / 2 ^ i % 2 == 1) (ev_var rfl) (ex_l e hx) (by omega) (fun _ => rfl) (fun m hm H3 e3 => ?_) (fun m hm H3 e3 => ev_var rfl)) fun H3 e3 => ?_
      · have e0 : ((m : Int) / 2 ^ ((i : Int)).toNat) % 2 = ((m / 2 ^ i % 2 : Nat) : Int) := by
          rw [Int.toNat_natCast]
          push_cast
          rfl
        refine et_is (et_test (ev_op (ev_op (ev_op (ev_var rfl) (ev_var rfl) (rv_I (show (0 : Int) ≤ (i : Int) by omega))) ev_c rv_andM) ev_c (rv_eq rfl))) ?_
        rw [e0, dec_int]
        by_cases c : m / 2 ^ i % 2 = 1
        · rw [c]; rfl
        · have c2 : ¬ (((m / 2 ^ i % 2 : Nat) : Int) = 1) := by omega
          rw [beq_eq_false_iff_ne.mpr c, beq_eq_false_iff_ne.mpr c2]
      · have s1 : ((ps.length : Nat) : Int) - (Kc.having ps i : Nat) = ((ps.length - Kc.having ps i : Nat) : Int) := by omega
        have sv : SpV spChoices [.int (((ps.length : Nat) : Int) - (Kc.having ps i : Nat)), .int (h : Int)] H3 (.int (Kc.C (ps.length - Kc.having ps i) h : Nat)) := by
          rw [s1]
          exact sv_choices (by omega) (by omega)
        refine s_aug rfl (ev_op (ev_var rfl) (ev_call (ea_cons (ev_op (evL (e.trans e3) rfl) (ev_var rfl) rv_I0) (ea_cons (ev_var rfl) ea_nil)) sv) rv_I0) fun H4 e4 => ?_
        exact ⟨_, _, rfl, (e.trans e3).trans e4⟩
    · rintro σ' H' ⟨z, y, rfl, e⟩
      refine s_retL (el_call (ea_cons (ev_var rfl) (ea_cons (ev_var rfl) ea_nil)) (sl_lowest (Kc.C_posI hh) (up_bound (C_small (by omega) h) (by decide)))) fun p H4 hp e4 h4 => q.go e hp e4 h4
end
end Kw


/-! parts.py: sums_by_kinds, ways, met_sums -/
namespace Kw
open PySem PySem.Spec PyProof.Rows L2 Evl
/-- n new objects, told by F -/
def Obs (F : Nat → HO) (n : Nat) (H H' : Hp) (qs : List Addr) : Prop := qs.length = n ∧ ∀ (i : Nat) q, qs[i]? = some q → H q = none ∧ H' q = some (F i)
/-- a new object o -/
def EvN (te : TE) (σ : L2.St) (H : Hp) (o : HO) : Prop := ∀ H1, Ex H H1 → ∀ Q : VK, (∀ p H2, H1 p = none → Ex H1 H2 → H2 p = some o → Q (.ref p) H2) → te σ H1 Q
/-- a new list of n new objects -/
def EvB (te : TE) (σ : L2.St) (H : Hp) (n : Nat) (F : Nat → HO) : Prop := ∀ H1, Ex H H1 → ∀ Q : VK, (∀ D H2 qs, H1 D = none → Ex H1 H2 → H2 D = some (.lst (qs.map V.ref)) → Obs F n H1 H2 qs → Q (.ref D) H2) → te σ H1 Q
def RetB (n : Nat) (F : Nat → HO) (H : Hp) (Q : VK) : Prop := ∀ D H2 qs, H D = none → Ex H H2 → H2 D = some (.lst (qs.map V.ref)) → Obs F n H H2 qs → Q (.ref D) H2
def SpB (sp : Sp) (vs : List V) (H : Hp) (n : Nat) (F : Nat → HO) : Prop := ∀ H1, Ex H H1 → ∀ Q : VK, RetB n F H1 Q → ∀ E : XK, sp vs H1 Q E
theorem Obs.back {F : Nat → HO} {n : Nat} {H H1 H' : Hp} {qs : List Addr} (e : Ex H H1) (h : Obs F n H1 H' qs) : Obs F n H H' qs := ⟨h.1, fun i q hq => ⟨fresh_back e (h.2 i q hq).1, (h.2 i q hq).2⟩⟩
theorem Obs.on {F : Nat → HO} {n : Nat} {H H1 H' : Hp} {qs : List Addr} (h : Obs F n H H1 qs) (e : Ex H1 H') : Obs F n H H' qs := ⟨h.1, fun i q hq => ⟨(h.2 i q hq).1, e _ _ (h.2 i q hq).2⟩⟩
theorem Obs.lt {F : Nat → HO} {n : Nat} {H H' : Hp} {qs : List Addr} (h : Obs F n H H' qs) {i : Nat} (hi : i < n) : ∃ q, qs[i]? = some q ∧ H q = none ∧ H' q = some (F i) := by
  have hl : i < qs.length := by rw [h.1]; exact hi
  exact ⟨qs[i], by simp [hl], h.2 i _ (by simp [hl])⟩
theorem refs_at {qs : List Addr} {i : Nat} {q : Addr} (h : qs[i]? = some q) : (qs.map V.ref)[i]? = some (V.ref q) := by rw [List.getElem?_map, h]; rfl
theorem refs_of {qs : List Addr} {i : Nat} {x : V} (h : (qs.map V.ref)[i]? = some x) : ∃ q, qs[i]? = some q ∧ x = V.ref q := by
  rw [List.getElem?_map] at h
  cases e : qs[i]? with
  | none => rw [e] at h; cases h
  | some q =>
    rw [e] at h
    exact ⟨q, rfl, (Option.some.inj h).symm⟩
section
variable {K : PySem.W.Frag} {σ : L2.St} {H H' : Hp} {ta tb te tx tl : TE} {D : Ends} {tu tz : TS}
theorem EvL.n {xs : List V} (h : EvL te σ H xs) : EvN te σ H (.lst xs) := h
theorem EvU.n {xs : List V} (h : EvU te σ H xs) : EvN te σ H (.tup xs) := h
theorem eb_call {sp : Sp} {dvs vs : List V} {E : XK} {ta : TA} {n : Nat} {F : Nat → HO} (h : EvA ta σ H vs) (hs : SpB sp (vs ++ dvs) H n F) : EvB (tCall sp dvs E ta) σ H n F := fun H1 e Q q =>
  h H1 e _ fun H2 e2 => hs H2 (e.trans e2) Q (fun p H3 qs hp e3 h3 ho => q p H3 qs (fresh_back e2 hp) (e2.trans e3) h3 (ho.back e2)) E
theorem q_asgB {i n : Nat} {F : Nat → HO} (h : EvB te σ H n F) (k : ∀ p H1 qs, H p = none → Ex H H1 → H1 p = some (.lst (qs.map V.ref)) → Obs F n H H1 qs → tz D (σ.set i (some (.ref p))) H1) : tSeq (tAsg te (gName i)) tz D σ H :=
  h H (Ex.refl H) _ fun p H1 qs hp e h1 ho => k p H1 qs hp e h1 ho
theorem s_retB {n : Nat} {F : Nat → HO} (h : EvB te σ H n F) (k : RetB n F H D.rt) : tRet te D σ H := h H (Ex.refl H) _ fun p H1 qs hp e h1 ho => k p H1 qs hp e h1 ho
theorem RetB.go {n : Nat} {F : Nat → HO} {Q : VK} (k : RetB n F H Q) (e : Ex H H') {p : Addr} {H2 : Hp} {qs : List Addr} (hp : H' p = none) (e2 : Ex H' H2) (h : H2 p = some (.lst (qs.map V.ref))) (o : Obs F n H' H2 qs) : Q (.ref p) H2 :=
  k p H2 qs (fresh_back e hp) (e.trans e2) h (o.back e)
/-- the comprehension's word: the list at Dl holds the objects made so far -/
def Cb (H : Hp) (F : Nat → HO) (Dl : Addr) (i : Nat) (H' : Hp) : Prop := H Dl = none ∧ Ex H H' ∧ ∃ qs : List Addr, H' Dl = some (.lst (qs.map V.ref)) ∧ qs.length = i ∧ ∀ (j : Nat) q, qs[j]? = some q → q ≠ Dl ∧ H q = none ∧ H' q = some (F j)
theorem Cb.start {F : Nat → HO} {Dl : Addr} (h : H Dl = none) : Cb H F Dl 0 (upd H Dl (.lst [])) := ⟨h, Ex.new h, [], upd_same, rfl, fun j q hq => by cases hq⟩
theorem Cb.done {F : Nat → HO} {Dl : Addr} {n : Nat} (h : Cb H F Dl n H') : ∃ qs, H' Dl = some (.lst (qs.map V.ref)) ∧ Obs F n H H' qs := by
  obtain ⟨_, _, qs, h1, h2, h3⟩ := h
  exact ⟨qs, h1, h2, fun i q hq => (h3 i q hq).2⟩
theorem cb_turn {F : Nat → HO} {Dl : Addr} {i : Nat} {σ2 : L2.St} (p : Cb H F Dl i H') (hi : i < 50000) (he : EvN te σ2 H (F i)) :
    tYes σ2 H' fun b H3 => if b = true then te σ2 H3 fun y H4 => ∃ acc, H4 Dl = some (.lst acc) ∧ acc.length < sizeLine ∧ Cb H F Dl (i + 1) (upd H4 Dl (.lst (acc ++ [y]))) else Cb H F Dl (i + 1) H3 := by
  obtain ⟨p1, p2, qs, p3, p4, p5⟩ := p
  show te σ2 H' fun y H4 => ∃ acc, H4 Dl = some (.lst acc) ∧ acc.length < sizeLine ∧ Cb H F Dl (i + 1) (upd H4 Dl (.lst (acc ++ [y])))
  refine he H' p2 _ fun q H4 hq e4 h4 => ⟨qs.map V.ref, e4 Dl _ p3, sz_lt (by rw [List.length_map]; omega), p1, Ex.mut (p2.trans e4) p1, qs ++ [q], ?_, by rw [List.length_append, p4]; rfl, fun j r hr => ?_⟩
  · rw [upd_same, List.map_append]; rfl
  · have hqD : q ≠ Dl := fun z => by
      rw [z, p3] at hq
      cases hq
    by_cases hj : j < qs.length
    · rw [List.getElem?_append_left hj] at hr
      obtain ⟨a1, a2, a3⟩ := p5 j r hr
      exact ⟨a1, a2, by rw [upd_ne a1]; exact e4 _ _ a3⟩
    · rw [List.getElem?_append_right (by omega)] at hr
      have hj0 : j - qs.length = 0 := by
        have := (List.getElem?_eq_some_iff.mp hr).1
        simp at this
        omega
      rw [hj0] at hr
      have er : q = r := Option.some.inj hr
      subst er
      have ej : j = i := by omega
      subst ej
      exact ⟨hqD, fresh_back p2 hq, by rw [upd_ne hqD]; exact h4⟩
/-- [an object for x in xs] -/
theorem eb_lcL {a : Addr} {xs : List V} {j : Nat} {vs : List Nat} (F : Nat → HO) (h : Ev tl σ H (.ref a)) (hx : SqL K H a xs) (hz : xs.length ≤ 40000) (hw : ∀ x, wipe ((wipe σ vs).set j (some x)) vs = wipe σ vs)
    (he : ∀ (i : Nat) (x : V) H1, Ex H H1 → xs[i]? = some x → EvN te ((wipe σ vs).set j (some x)) H1 (F i)) : EvB (tLc (iList K tl) (gName j) tYes te vs) σ H xs.length F := fun H0 e Q q => h H0 e _ fun H1 e1 => ⟨a, rfl, ⟨xs, ex_l (e.trans e1) hx⟩, fun Dl hD =>
  lc_list (xs := xs) (Cb H1 F Dl) (Cb.start hD) (fun i H' _ p => ex_l ((e.trans e1).trans p.2.1) hx) (fun i x H' hi p => ⟨hw x, cb_turn p (by have := (List.getElem?_eq_some_iff.mp hi).1; omega) (he i x H1 (e.trans e1) hi)⟩)
    (fun H' p => by
      obtain ⟨qs, g1, g2⟩ := p.done
      exact q Dl H' qs (fresh_back e1 p.1) (e1.trans p.2.1) g1 (g2.back e1))⟩
theorem eb_lcR1 {ta : TA} {j : Nat} {vs : List Nat} {n : Int} (F : Nat → HO) (h : EvA ta σ H [.int n]) (hn : 0 ≤ n ∧ n ≤ 40000) (hw : ∀ x, wipe ((wipe σ vs).set j (some x)) vs = wipe σ vs)
    (he : ∀ (i : Nat) H1, Ex H H1 → (i : Int) < n → EvN te ((wipe σ vs).set j (some (.int (i : Int)))) H1 (F i)) : EvB (tLc (iRng1 ta) (gName j) tYes te vs) σ H n.toNat F := fun H0 e Q q => h H0 e _ fun H1 e1 => ⟨n, rfl, by omega, by omega, fun Dl hD =>
  lc_range (lo := 0) (n := n.toNat) (Cb H1 F Dl) (Cb.start hD) (fun i H' hi p => by
    have e0 : (0 : Int) + (i : Int) = (i : Int) := Int.zero_add _
    show wipe ((wipe σ vs).set j (some (.int ((0 : Int) + (i : Int))))) vs = wipe σ vs ∧ tYes ((wipe σ vs).set j (some (.int ((0 : Int) + (i : Int))))) H' fun b H3 => if b = true then te ((wipe σ vs).set j (some (.int ((0 : Int) + (i : Int))))) H3 fun y H4 => ∃ acc, H4 Dl = some (.lst acc) ∧ acc.length < sizeLine ∧ Cb H1 F Dl (i + 1) (upd H4 Dl (.lst (acc ++ [y]))) else Cb H1 F Dl (i + 1) H3
    rw [e0]
    exact ⟨hw _, cb_turn p (by omega) (he i H1 (e.trans e1) (by omega))⟩) (fun H' p => by
      obtain ⟨qs, g1, g2⟩ := p.done
      exact q Dl H' qs (fresh_back e1 p.1) (e1.trans p.2.1) g1 (g2.back e1))⟩
/-- a list and a new list -/
theorem el_cat {a : Addr} {xs ys : List V} (ha : Ev ta σ H (.ref a)) (hx : H a = some (.lst xs)) (hb : EvL tb σ H ys) (hz : xs.length + ys.length ≤ 100000) : EvL (tOp rCat ta tb) σ H (xs ++ ys) := fun H1 e Q q =>
  ha H1 e _ fun H2 e2 => hb H2 (e.trans e2) _ fun b H3 _ e3 h3 => ⟨a, b, xs, ys, rfl, rfl, e3 _ _ (e2 _ _ (e _ _ hx)), h3, sz_of hz, fun p hp => q p _ (fresh_back (e2.trans e3) hp) ((e2.trans e3).trans (Ex.new hp)) upd_same⟩
/-- a new list and a list -/
theorem el_cat2 {a : Addr} {xs ys : List V} (ha : EvL ta σ H xs) (hb : Ev tb σ H (.ref a)) (hy : H a = some (.lst ys)) (hz : xs.length + ys.length ≤ 100000) : EvL (tOp rCat ta tb) σ H (xs ++ ys) := fun H1 e Q q =>
  ha H1 e _ fun b H2 _ e2 h2 => hb H2 (e.trans e2) _ fun H3 e3 => ⟨b, a, xs, ys, rfl, rfl, e3 _ _ h2, e3 _ _ (e2 _ _ (e _ _ hy)), sz_of hz, fun p hp => q p _ (fresh_back (e2.trans e3) hp) ((e2.trans e3).trans (Ex.new hp)) upd_same⟩
theorem el_cat3 {xs ys : List V} (ha : EvL ta σ H xs) (hb : EvL tb σ H ys) (hz : xs.length + ys.length ≤ 100000) : EvL (tOp rCat ta tb) σ H (xs ++ ys) := fun H1 e Q q =>
  ha H1 e _ fun b H2 _ e2 h2 => hb H2 (e.trans e2) _ fun a H3 _ e3 h3 => ⟨b, a, xs, ys, rfl, rfl, e3 _ _ h2, h3, sz_of hz, fun p hp => q p _ (fresh_back (e2.trans e3) hp) ((e2.trans e3).trans (Ex.new hp)) upd_same⟩
/-- xs[j] = a new list -/
theorem s_setN {l : Addr} {xs ys : List V} {j : Nat} (hl : H l = some (.lst xs)) (h : EvL te σ H ys) (ho : Ev ta σ H (.ref l)) (hi : Ev tb σ H (.int (j : Int))) (hj : j < xs.length) (k : ∀ p H1, H p = none → Ex H H1 → H1 p = some (.lst ys) → D.nx σ (upd H1 l (.lst (xs.set j (.ref p))))) :
    tAsg te (gSub ta tb rSetL) D σ H := h H (Ex.refl H) _ fun p H1 hp e1 h1 => ho H1 e1 _ fun H2 e2 => hi H2 (e1.trans e2) _ fun H3 e3 =>
  ⟨l, xs, (j : Int), j, rfl, rfl, ((e1.trans e2).trans e3) l _ hl, ixN_nat hj, k p H3 hp ((e1.trans e2).trans e3) (e3 _ _ (e2 _ _ h1))⟩
/-- for k, x in enumerate(xs) -/
theorem forE_at {a : Addr} {xs : List V} {i j : Nat} (hx : SqL K H a xs) (Pv : Nat → L2.St → Hp → Prop) (h0 : Pv 0 σ H) (hG : ∀ k σ' H', k ≤ xs.length → Pv k σ' H' → SqL K H' a xs)
    (hs : ∀ (k : Nat) x σ' H0 H', xs[k]? = some x → Pv k σ' H0 → Ex H0 H' → tu { D with nx := Pv (k + 1), ct := Pv (k + 1), bk := D.nx } ((σ'.set i (some (.int (k : Nat)))).set j (some x)) H') (hd : ∀ σ' H', Pv xs.length σ' H' → D.nx σ' H') :
    tFor (iEnum K (fun _ H Q => Q [.ref a] H)) (gTup K 2 (gCons (gName i) (gCons (gName j) gNil))) tu D σ H := by
  refine ⟨a, xs, rfl, hx, for_it (walk_enum (xs := xs)) Pv h0 hG (fun k v σ' H0 H' hk p y => ?_) hd⟩
  obtain ⟨T, x, z, rfl, hT, rfl, e1, e2⟩ := y
  have e1' : V.int (k : Nat) = x := Option.some.inj e1
  subst e1'
  exact ⟨T, _, rfl, st_of upd_same, rfl, _, _, rfl, _, _, rfl, rfl, hs k z σ' H0 _ e2 p (Ex.new hT)⟩
theorem s_forE {ta : TA} {a : Addr} {xs : List V} {i j : Nat} (h : EvA ta σ H [.ref a]) (hx : SqL K H a xs) (Pv : Nat → L2.St → Hp → Prop) (h0 : ∀ H1, Ex H H1 → Pv 0 σ H1) (hG : ∀ k σ' H', k ≤ xs.length → Pv k σ' H' → SqL K H' a xs)
    (hs : ∀ (k : Nat) x σ' H0 H', xs[k]? = some x → Pv k σ' H0 → Ex H0 H' → tu { D with nx := Pv (k + 1), ct := Pv (k + 1), bk := D.nx } ((σ'.set i (some (.int (k : Nat)))).set j (some x)) H') (hd : ∀ σ' H', Pv xs.length σ' H' → D.nx σ' H') :
    tFor (iEnum K ta) (gTup K 2 (gCons (gName i) (gCons (gName j) gNil))) tu D σ H := h H (Ex.refl H) _ fun H1 e => forE_at (ex_l e hx) Pv (h0 H1 e) hG hs hd
/-- for j in range(k, -1, -1) -/
theorem s_forD {ta : TA} {j k : Nat} (h : EvA ta σ H [.int (k : Int), .int (-1), .int (-1)]) (hk : k ≤ 100000) (Pv : Nat → L2.St → Hp → Prop) (h0 : ∀ H1, Ex H H1 → Pv 0 σ H1)
    (hs : ∀ (t : Nat) σ' H', t ≤ k → Pv t σ' H' → tu { D with nx := Pv (t + 1), ct := Pv (t + 1), bk := D.nx } (σ'.set j (some (.int ((k - t : Nat) : Int)))) H') (hd : ∀ σ' H', Pv (k + 1) σ' H' → D.nx σ' H') : tFor (iRng3 ta) (gName j) tu D σ H :=
  h H (Ex.refl H) _ fun H1 e => ⟨(k : Int), -1, -1, k + 1, rfl, by
    have := RgC.neg (i := (k : Int)) (j := -1) (by omega) (by omega) (by omega) (by omega)
    rw [show ((k : Int) - -1).toNat = k + 1 by omega] at this
    exact this, for_rangeC (lo := (k : Int)) (c := -1) (n := k + 1) Pv (h0 H1 e) (fun t σ' H' ht p => by
      have ek : (k : Int) + (t : Nat) * (-1) = ((k - t : Nat) : Int) := by omega
      show tu { D with nx := Pv (t + 1), ct := Pv (t + 1), bk := D.nx } (σ'.set j (some (.int ((k : Int) + (t : Nat) * (-1))))) H'
      rw [ek]
      exact hs t σ' H' (by omega) p) hd⟩
/-- for x, y in zip(xs, ys) -/
theorem forZ_at {a b : Addr} {xs ys : List V} {i j n : Nat} (hx : SqL K H a xs) (hy : SqL K H b ys) (hn : n = min xs.length ys.length) (Pv : Nat → L2.St → Hp → Prop) (h0 : Pv 0 σ H) (hG : ∀ k σ' H', k ≤ n → Pv k σ' H' → SqL K H' a xs ∧ SqL K H' b ys)
    (hs : ∀ (k : Nat) x y σ' H0 H', xs[k]? = some x → ys[k]? = some y → Pv k σ' H0 → Ex H0 H' → tu { D with nx := Pv (k + 1), ct := Pv (k + 1), bk := D.nx } ((σ'.set i (some x)).set j (some y)) H') (hd : ∀ σ' H', Pv n σ' H' → D.nx σ' H') :
    tFor (iZip K (fun _ H Q => Q [.ref a, .ref b] H)) (gTup K 2 (gCons (gName i) (gCons (gName j) gNil))) tu D σ H := by
  refine ⟨a, b, xs, ys, rfl, hx, hy, for_it (walk_zip hn) Pv h0 hG (fun k v σ' H0 H' hk p y => ?_) hd⟩
  obtain ⟨T, x, z, rfl, hT, rfl, e1, e2⟩ := y
  exact ⟨T, _, rfl, st_of upd_same, rfl, _, _, rfl, _, _, rfl, rfl, hs k x z σ' H0 _ e1 e2 p (Ex.new hT)⟩
end
section
variable {P : Program} {w : World} {K : PySem.W.Frag} {mg : Str → Option Value} {base : Heap} {H : Hp}
/-! ### sums_by_kinds -/
abbrev s_sums_by_kinds : Stmt := (top 17)
abbrev n_sums_by_kinds : List Str := ["sample", "found", "k", "many", "j", "some"]
abbrev p_sums_by_kinds : List Str := ["sample"]
theorem sc_sums_by_kinds : FnScope n_sums_by_kinds p_sums_by_kinds (defScope s_sums_by_kinds) := ⟨rfl, rfl, rfl, by decide +kernel, rfl, by decide +kernel, by decide +kernel⟩
def gL (l : List Nat) : HO := .lst ((zs l).map V.int)
def spSums (K : PySem.W.Frag) : Sp := fun vs H Q _ => ∃ (a : Addr) (xs : List Nat), vs = [.ref a] ∧ IL K H a (zs xs) ∧ Smp xs ∧ RetB (xs.length + 1) (fun j => gL (Kc.G xs xs.length j)) H Q
theorem sb_sums {a : Addr} {xs : List Nat} (h : IL K H a (zs xs)) (hs : Smp xs) : SpB (spSums K) [.ref a] H (xs.length + 1) (fun j => gL (Kc.G xs xs.length j)) := fun H1 e Q q E => ⟨a, xs, rfl, ex_l e h, hs, q⟩
theorem zs_append (l m : List Nat) : zs (l ++ m) = zs l ++ zs m := List.map_append ..
theorem zs_shift (l : List Nat) (c : Nat) : zs (l.map fun s => s + c) = (zs l).map fun z => z + (c : Int) := by
  unfold zs
  rw [List.map_map, List.map_map]
  exact List.map_congr_left fun s _ => by show ((s + c : Nat) : Int) = (s : Int) + c; omega
/-- the list at l and its lists: below the turn's place those of i kinds, above it those of one more -/
structure Tab (H H' : Hp) (l : Addr) (L : Nat) (F : Nat → List Nat) : Prop where
  new : H l = none
  ex : Ex H H'
  tab : ∃ qs : List Addr, H' l = some (.lst (qs.map V.ref)) ∧ qs.length = L + 1 ∧ ∀ (j : Nat) q, qs[j]? = some q → (q ≠ l ∧ H q = none) ∧ H' q = some (gL (F j))
theorem Tab.on {H H1 H' : Hp} {l : Addr} {L : Nat} {F : Nat → List Nat} (t : Tab H H1 l L F) (e : Ex H1 H') : Tab H H' l L F := by
  obtain ⟨qs, h1, h2, h3⟩ := t.tab
  exact ⟨t.new, t.ex.trans e, qs, e _ _ h1, h2, fun j q hq => ⟨(h3 j q hq).1, e _ _ (h3 j q hq).2⟩⟩
theorem Tab.is {H H1 : Hp} {l : Addr} {L : Nat} {F F' : Nat → List Nat} (t : Tab H H1 l L F) (e : ∀ j, j ≤ L → F j = F' j) : Tab H H1 l L F' := by
  obtain ⟨qs, h1, h2, h3⟩ := t.tab
  refine ⟨t.new, t.ex, qs, h1, h2, fun j q hq => ⟨(h3 j q hq).1, ?_⟩⟩
  have := (List.getElem?_eq_some_iff.mp hq).1
  rw [← e j (by omega)]
  exact (h3 j q hq).2
/-- behind i kinds, in the turn of the next, behind the places from j on -/
def mix (xs : List Nat) (i j : Nat) : Nat → List Nat := fun k => if j ≤ k then Kc.G xs (i + 1) k else Kc.G xs i k
theorem ok_sums (T : Bl mg) (D : DefIn K mg "sums_by_kinds" "sums_by_kinds" s_sums_by_kinds p_sums_by_kinds) : Callee P w K mg base CX0 1 "sums_by_kinds" p_sums_by_kinds (spSums K) := by
  refine callee D sc_sums_by_kinds (fun vs H Q E h => ?_) (fun f cdv A outer s H vs Q E hr h => ⟨_, (pss_cons (ps_set (i := 1) sc_sums_by_kinds.nd rfl (Or.inl rfl) (pe_op op_cat (pe_lst (pa_cons (pe_lst (pa_cons pe_int pa_nil)) pa_nil)) (pe_lc (own := [("many", 3)]) (g := gName 3) (tt := tYes) rfl sc_sums_by_kinds.nd (pi_list (pv 0)) (blkOk_by (N := n_sums_by_kinds) (sc := defScope s_sums_by_kinds) (by decide +kernel)) (fun _ _ _ _ _ => (pg_name (i := 3) sc_sums_by_kinds.nd rfl (Or.inl rfl))) (fun _ _ _ _ _ => pts_nil) (fun _ _ _ _ _ => (pe_lst pa_nil)))))
      (pss_cons (ps_for PassesOwn.never rfl (pi_enum (by rfl) T.b_enumerate (pa_cons (pv 0) pa_nil)) (pg_tup rfl (pgs_cons (pg_name (i := 2) sc_sums_by_kinds.nd rfl (Or.inl rfl)) (pgs_cons (pg_name (i := 3) sc_sums_by_kinds.nd rfl (Or.inr rfl)) pgs_nil))) (pss_one (ps_for PassesOwn.never rfl (pi_range3 rfl T.b_range (pa_cons (pv 2) (pa_cons (pe_un un_neg pe_int) (pa_cons (pe_un un_neg pe_int) pa_nil)))) (pg_name (i := 4) sc_sums_by_kinds.nd rfl (Or.inl rfl)) (pss_one (ps_asg (pe_op op_cat (pe_ix (r := rIxL K) ix_list (pv 1) (pe_op op_add (pv 4) pe_int) (fun _ _ => rfl)) (pe_lc (own := [("some", 5)]) (g := gName 5) (tt := tYes) rfl sc_sums_by_kinds.nd (pi_list (pe_ix (r := rIxL K) ix_list (pv 1) (pv 4) (fun _ _ => rfl))) (blkOk_by (N := n_sums_by_kinds) (sc := defScope s_sums_by_kinds) (by decide +kernel)) (fun _ _ _ _ _ => (pg_name (i := 5) sc_sums_by_kinds.nd rfl (Or.inl rfl))) (fun _ _ _ _ _ => pts_nil) (fun _ _ _ _ _ => (pe_op op_add (pv 5) (pv 3))))) (pg_sub (pv 1) (pe_op op_add (pv 4) pe_int) set_list))))))
      (pss_one (ps_ret (pv 1))))), ?_⟩)
  · obtain ⟨a, xs, rfl, _⟩ := h
    rfl
  · obtain ⟨a, xs, rfl, hx, hs, q⟩ := h
    have h8 := hs.len
    have hlen : ((zs xs).map V.int).length = xs.length := by rw [List.length_map, zs_len]
    -- found = [[0]] + [[] for many in sample]
    refine ⟨by show 1 ≤ sizeLine; decide, fun q0 hq0 => ⟨by show 1 ≤ sizeLine; decide, fun l1 hl1 => ?_⟩⟩
    have e01 : Ex H (upd (upd H q0 (.lst [.int 0])) l1 (.lst [.ref q0])) := (Ex.new hq0).trans (Ex.new hl1)
    refine eb_lcL (K := K) (xs := (zs xs).map V.int) (σ := [some (.ref a), none, none, none, none, none]) (te := tLst tNil) (fun _ => .lst []) (ev_var rfl) (ex_l e01 hx) (by rw [hlen]; omega) (fun _ => rfl) (fun i x H1 e hi => EvL.n (el_lst ea_nil (by decide))) _ (Ex.refl _) _ fun l2 H2 qs hl2 e2 h2 ho => ?_
    rw [hlen] at ho
    refine ⟨l1, l2, [.ref q0], qs.map V.ref, rfl, rfl, e2 _ _ upd_same, h2, sz_of (by rw [List.length_map, ho.1]; show 1 + xs.length ≤ 100000; omega), fun l hl => ?_⟩
    have hq0l1 : q0 ≠ l1 := fun z => by rw [← z, upd_same] at hl1; cases hl1
    have t0 : Tab H (upd H2 l (.lst ([.ref q0] ++ qs.map V.ref))) l xs.length (fun j => Kc.G xs 0 j) := by
      refine ⟨fresh_back (e01.trans e2) hl, (e01.trans e2).mut (fresh_back (e01.trans e2) hl), q0 :: qs, upd_same, by rw [List.length_cons, ho.1], fun j r hr => ?_⟩
      cases j with
      | zero =>
        have er : q0 = r := Option.some.inj hr
        subst er
        have g : H2 q0 = some (.lst [.int 0]) := e2 _ _ (by rw [upd_ne hq0l1, upd_same])
        have hne : q0 ≠ l := ne_of_none g hl
        exact ⟨⟨hne, hq0⟩, by rw [upd_ne hne]; exact g⟩
      | succ j =>
        have g := (ho.2 j r hr).2
        have hne : r ≠ l := ne_of_none g hl
        exact ⟨⟨hne, fresh_back e01 (ho.2 j r hr).1⟩, by rw [upd_ne hne]; exact g⟩
    -- for k, many in enumerate(sample)
    refine s_forE (K := K) (xs := (zs xs).map V.int) (ea_cons (ev_var rfl) ea_nil) (ex_l t0.ex hx) (fun i σ' H' => ∃ z1 z2 z3 : Option V, σ' = [some (.ref a), some (.ref l), z1, z2, z3, none] ∧ Tab H H' l xs.length (fun j => Kc.G xs i j))
      (fun H3 e3 => ⟨none, none, none, rfl, t0.on e3⟩) (fun k σ' H' hk p => ?_) ?_ ?_
    · obtain ⟨z1, z2, z3, rfl, t⟩ := p
      exact ex_l t.ex hx
    · rintro i x σ' H0 H' hi ⟨z1, z2, z3, rfl, t⟩ e
      have hil := (List.getElem?_eq_some_iff.mp hi).1
      rw [hlen] at hil
      rw [zs_at hil] at hi
      have ex : x = .int (xs.getD i 0 : Nat) := (Option.some.inj hi).symm
      subst ex
      have t1 := t.on e
      -- for j in range(k, -1, -1)
      refine s_forD (k := i) (ea_cons (ev_var rfl) (ea_cons (ev_un ev_c ru_neg) (ea_cons (ev_un ev_c ru_neg) ea_nil))) (by omega) (fun k σ' H' => ∃ z : Option V, σ' = [some (.ref a), some (.ref l), some (.int (i : Nat)), some (.int (xs.getD i 0 : Nat)), z, none] ∧ Tab H H' l xs.length (mix xs i (i + 2 - k))) (fun H3 e3 => ⟨z3, rfl, (t1.on e3).is fun j hj => ?_⟩) ?_ ?_
      · unfold mix
        by_cases h : i + 2 - 0 ≤ j
        · rw [if_pos h, Kc.G_big xs i j (by omega), Kc.G_big xs (i + 1) j (by omega)]
        · rw [if_neg h]
      · rintro k σ' H' hk ⟨z, rfl, tk⟩
        obtain ⟨rs, r1, r2, r3⟩ := tk.tab
        have hj1 : i - k + 1 < rs.length := by omega
        have hj0 : i - k < rs.length := by omega
        obtain ⟨ra, hra⟩ : ∃ r, rs[i - k + 1]? = some r := ⟨rs[i - k + 1], by simp [hj1]⟩
        obtain ⟨rb, hrb⟩ : ∃ r, rs[i - k]? = some r := ⟨rs[i - k], by simp [hj0]⟩
        obtain ⟨na, ca⟩ := r3 _ _ hra
        obtain ⟨nb, cb⟩ := r3 _ _ hrb
        have ma : mix xs i (i + 2 - k) (i - k + 1) = Kc.G xs i (i - k + 1) := if_neg (by omega)
        have mb : mix xs i (i + 2 - k) (i - k) = Kc.G xs i (i - k) := if_neg (by omega)
        rw [ma] at ca
        rw [mb] at cb
        have g1 := Kc.G_len xs i (i - k + 1)
        have g2 := Kc.G_len xs i (i - k)
        have g3 : 2 ^ i ≤ 2 ^ 8 := Nat.pow_le_pow_right (by decide) (by omega)
        have ixa : ∀ {H1 : Hp} {σ : L2.St}, Ex H' H1 → σ[1]? = some (some (.ref l)) → σ[4]? = some (some (.int ((i - k : Nat) : Int))) → Ev (tOp (rIxL K) (tVar 1) (tOp (rI0 fun i j => .int (i + j)) (tVar 4) (tC (.int 1)))) σ H1 (.ref ra) := fun {H1 σ} e h1 h2 =>
          ev_op (ev_var h1) (ev_op (ev_var h2) ev_c rv_I0) (rv_ixL (sq_of (e _ _ r1)) (at_of (j := i - k + 1) (by omega) (refs_at hra)))
        have cat := el_cat (H := H') (σ := [some (.ref a), some (.ref l), some (.int (i : Nat)), some (.int (xs.getD i 0 : Nat)), some (.int ((i - k : Nat) : Int)), none]) (ixa (Ex.refl _) rfl rfl) ca
          (el_mapS (K := K) (j := 5) (vs := [5]) (te := tOp (rI0 fun i j => .int (i + j)) (tVar 5) (tVar 3)) (tl := tOp (rIxL K) (tVar 1) (tVar 4)) (fun s => V.int ((s + xs.getD i 0 : Nat) : Int)) (ev_op (ev_var rfl) (ev_var rfl) (rv_ixL (sq_of r1) (atI_nat (refs_at hrb)))) (sq_of cb) (by omega) (fun _ => rfl) (fun s hs H1 e1 => by
            refine ev_is (ev_op (ev_var rfl) (ev_var rfl) rv_I0) ?_
            show V.int ((s : Int) + (xs.getD i 0 : Nat)) = V.int ((s + xs.getD i 0 : Nat) : Int)
            rw [Int.natCast_add])) (by rw [List.length_map, zs_len, List.length_map]; omega)
        refine s_setN (j := i - k + 1) r1 cat (ev_var rfl) (ev_is (ev_op (ev_var rfl) ev_c rv_I0) (by show V.int (((i - k : Nat) : Int) + 1) = V.int ((i - k + 1 : Nat) : Int); rw [Int.natCast_add]; rfl)) (by rw [List.length_map]; exact hj1) fun p H1 hp e1 h1 => ?_
        refine ⟨_, rfl, ?_⟩
        have npl : p ≠ l := fun z => by rw [z, r1] at hp; cases hp
        refine ⟨tk.new, (tk.ex.trans e1).mut tk.new, rs.set (i - k + 1) p, ?_, by rw [List.length_set]; exact r2, fun j r hr => ?_⟩
        · rw [upd_same, List.map_set]
        · by_cases hj : j = i - k + 1
          · subst hj
            rw [List.getElem?_set_self hj1] at hr
            have er : p = r := Option.some.inj hr
            subst er
            refine ⟨⟨npl, fresh_back tk.ex hp⟩, ?_⟩
            rw [upd_ne npl, h1]
            have : mix xs i (i + 2 - (k + 1)) (i - k + 1) = Kc.G xs i (i - k + 1) ++ (Kc.G xs i (i - k)).map fun s => s + xs.getD i 0 := if_pos (by omega)
            rw [this]
            unfold gL
            rw [zs_append, List.map_append]
            congr 3
            unfold zs
            rw [List.map_map, List.map_map]; rfl
          · rw [List.getElem?_set_ne (by omega)] at hr
            obtain ⟨n1, c1⟩ := r3 j r hr
            refine ⟨n1, ?_⟩
            rw [upd_ne n1.1, e1 _ _ c1]
            congr 2
            unfold mix
            by_cases h : i + 2 - k ≤ j
            · rw [if_pos h, if_pos (by omega)]
            · rw [if_neg h, if_neg (by omega)]
      · rintro σ' H' ⟨z, rfl, tk⟩
        refine ⟨_, _, _, rfl, tk.is fun j hj => ?_⟩
        unfold mix
        cases j with
        | zero =>
          rw [if_neg (by omega), Kc.G_first]
        | succ j => rw [if_pos (by omega)]
    · rintro σ' H' ⟨z1, z2, z3, rfl, t⟩
      rw [hlen] at t
      obtain ⟨rs, r1, r2, r3⟩ := t.tab
      refine s_ret (ev_var rfl) fun H3 e3 => ?_
      exact q l H3 rs t.new (t.ex.trans e3) (e3 _ _ r1) ⟨r2, fun i r hr => ⟨(r3 i r hr).1.2, e3 _ _ (r3 i r hr).2⟩⟩
end
end Kw


/-! parts.py: ways, met_sums -/
namespace Kw
open PySem PySem.Spec PyProof.Rows L2 Evl
def retE : Stmt → Expr
  | .Return (some e) _ => e
  | _ => .Constant .none 0 ⟨0, 0, 0, 0⟩
def lcS : Expr → Scope
  | .ListComp _ _ sc _ => sc
  | _ => { kind := .function, names := [], isGenerator := false, isCoroutine := false }
/-- all but the object at f is as it was -/
def ExB (f : Addr) (H H' : Hp) : Prop := ∀ b o, H b = some o → b ≠ f → H' b = some o
theorem ExB.of {f : Addr} {H H' : Hp} (e : Ex H H') : ExB f H H' := fun b o h _ => e b o h
theorem ExB.on {f : Addr} {H H1 H' : Hp} (a : ExB f H H1) (e : Ex H1 H') : ExB f H H' := fun b o h n => e b o (a b o h n)
theorem ExB.set {f : Addr} {H H' : Hp} {o : HO} (a : ExB f H H') : ExB f H (upd H' f o) := fun b u h n => by rw [upd_ne n]; exact a b u h n
section
variable {P : Program} {w : World} {K : PySem.W.Frag} {mg : Str → Option Value} {base : Heap} {H : Hp}
/-! ### ways -/
abbrev s_ways : Stmt := (top 18)
abbrev n_ways : List Str := ["sample", "n", "found", "j", "sums", "here", "k", "many", "some"]
abbrev p_ways : List Str := ["sample", "n"]
theorem sc_ways : FnScope n_ways p_ways (defScope s_ways) := ⟨rfl, rfl, rfl, by decide +kernel, rfl, by decide +kernel, by decide +kernel⟩
def spWays (K : PySem.W.Frag) : Sp := fun vs H Q _ => ∃ (a : Addr) (xs : List Nat) (n : Nat), vs = [.ref a, .int (n : Int)] ∧ IL K H a (zs xs) ∧ Smp xs ∧ n ≤ 400 ∧ RetL ((Kc.waysM xs n).map V.int) H Q
theorem sl_ways {a : Addr} {xs : List Nat} {n : Nat} (h : IL K H a (zs xs)) (hs : Smp xs) (hn : n ≤ 400) : SpL (spWays K) [.ref a, .int (n : Int)] H ((Kc.waysM xs n).map V.int) := fun H1 e Q q E => ⟨a, xs, n, rfl, ex_l e h, hs, hn, q⟩
theorem ok_ways (T : Bl mg) (c_sums_by_kinds : Callee P w K mg base CX0 1 "sums_by_kinds" p_sums_by_kinds (spSums K)) (c_choices : Callee P w K mg base CX0 2 "choices" p_choices spChoices) (D : DefIn K mg "ways" "ways" s_ways p_ways) :
    Callee P w K mg base CX0 3 "ways" p_ways (spWays K) := by
  refine callee D sc_ways (fun vs H Q E h => ?_) (fun f cdv A outer s H vs Q E hr h => ⟨_, (pss_cons (ps_set (i := 2) sc_ways.nd rfl (Or.inl rfl) (pe_lst pa_nil))
      (pss_cons (ps_for PassesOwn.never rfl (pi_enum (by rfl) T.b_enumerate (pa_cons (pe_callC c_sums_by_kinds (hr.mono (by decide)) (by rfl) pass0 (pa_cons (pv 0) pa_nil)) pa_nil)) (pg_tup rfl (pgs_cons (pg_name (i := 3) sc_ways.nd rfl (Or.inl rfl)) (pgs_cons (pg_name (i := 4) sc_ways.nd rfl (Or.inl rfl)) pgs_nil))) (pss_cons (ps_set (i := 5) sc_ways.nd rfl (Or.inl rfl) (pe_callB (r := rSum K) (cr_sum rfl) (by rfl) T.b_sum (by decide +kernel) (pa_cons (pe_lc (own := [("some", 8)]) (g := gName 8) (tt := tYes) rfl sc_ways.nd (pi_list (pv 4)) (blkOk_by (N := n_ways) (sc := defScope s_ways) (by decide +kernel)) (fun _ _ _ _ _ => (pg_name (i := 8) sc_ways.nd rfl (Or.inl rfl))) (fun _ _ _ _ _ => pts_nil) (fun _ _ _ _ _ => (pe_callC c_choices (hr.mono (by decide)) (by rfl) pass0 (pa_cons (pv 8) (pa_cons (pv 1) pa_nil))))) pa_nil)))
      (pss_cons (ps_for PassesOwn.never rfl (pi_enum (by rfl) T.b_enumerate (pa_cons (pv 2) pa_nil)) (pg_tup rfl (pgs_cons (pg_name (i := 6) sc_ways.nd rfl (Or.inl rfl)) (pgs_cons (pg_name (i := 7) sc_ways.nd rfl (Or.inl rfl)) pgs_nil))) (pss_one (ps_aug (i := 5) sc_ways.nd rfl (Or.inl rfl) (pe_op op_mul (pv 7) (pe_callC c_choices (hr.mono (by decide)) (by rfl) pass0 (pa_cons (pe_op op_sub (pe_callB call_len_seq (by rfl) T.b_len PySem.boot_len (pa_cons (pv 0) pa_nil)) (pv 6)) (pa_cons (pe_op op_sub (pv 3) (pv 6)) pa_nil)))) ip_sub)))
      (pss_one (ps_expr (pe_bm PySem.F.plainAttrs_list PySem.F.slot_list_append PySem.F.type_list_append mt_append (pv 2) (pa_cons (pv 5) pa_nil)))))))
      (pss_one (ps_ret (pv 2))))), ?_⟩)
  · obtain ⟨a, xs, n, rfl, _⟩ := h
    rfl
  · obtain ⟨a, xs, n, rfl, hx, hs, hn, q⟩ := h
    have h8 := hs.len
    have hlen : ((zs xs).map V.int).length = xs.length := by rw [List.length_map, zs_len]
    refine q_asgL (el_lst ea_nil (by decide)) fun f H1 hf e1 h1 => ?_
    -- for j, sums in enumerate(sums_by_kinds(sample))
    refine eb_call (ea_cons (ev_var rfl) ea_nil) (sb_sums (ex_l e1 hx) hs) H1 (Ex.refl H1) _ fun Dl H2 qs hD e2 h2 ho => ?_
    have nqf : ∀ (i : Nat) q, qs[i]? = some q → q ≠ f := fun i q hq z => by
      have := (ho.2 i q hq).1
      rw [z, h1] at this
      cases this
    have nDf : Dl ≠ f := fun z => by
      rw [z, h1] at hD
      cases hD
    refine forE_at (K := K) (a := Dl) (xs := qs.map V.ref) (sq_of h2) (fun j σ' H' => ∃ z1 z2 z3 z4 z5 : Option V, σ' = [some (.ref a), some (.int (n : Int)), some (.ref f), z1, z2, z3, z4, z5, none] ∧ ExB f H2 H' ∧ H' f = some (.lst ((Kc.wl xs n j).map V.int))) ⟨none, none, none, none, none, rfl, ExB.of (Ex.refl H2), e2 _ _ h1⟩ (fun k σ' H' hk p => ?_) ?_ ?_
    · obtain ⟨z1, z2, z3, z4, z5, rfl, b, _⟩ := p
      exact sq_of (b _ _ h2 nDf)
    · rintro j x σ' H0 H' hj ⟨z1, z2, z3, z4, z5, rfl, b0, hf0⟩ e
      obtain ⟨q1, hq, rfl⟩ := refs_of hj
      have hjL : j < xs.length + 1 := by
        have := (List.getElem?_eq_some_iff.mp hq).1
        rw [ho.1] at this
        exact this
      have b := b0.on e
      have hf' := e _ _ hf0
      have cq := b _ _ (ho.2 j q1 hq).2 (nqf j q1 hq)
      have hx' : IL K H' a (zs xs) := by
        have nf : ∀ {o}, H a = some o → a ≠ f := fun h => ne_of_none h hf
        rcases hx with (h | ⟨o, h⟩) | h
        · exact .inl (.inl (b _ _ (e2 _ _ (e1 _ _ h)) (nf h)))
        · exact .inl (.inr ⟨o, b _ _ (e2 _ _ (e1 _ _ h)) (nf h)⟩)
        · exact .inr h
      have g1 := Kc.G_len xs xs.length j
      have g3 : 2 ^ xs.length ≤ 2 ^ 8 := Nat.pow_le_pow_right (by decide) h8
      refine q_asg (ev_sumM (fun (s : Nat) => (Kc.C s n : Int)) (el_mapS (fun s => V.int (Kc.C s n : Nat)) (ev_var rfl) (sq_of cq) (by omega) (fun _ => rfl) (fun s hsm H3 e3 => ?_))) fun H3 e3 => ?_
      · have := Kc.G_le hs.le xs.length j s hsm
        exact ev_call (ea_cons (ev_var rfl) (ea_cons (ev_var rfl) ea_nil)) (sv_choices (by omega) (by omega))
      · -- for k, many in enumerate(found): here -= many * choices(len(sample) - k, j - k)
        have wlen : ((Kc.wl xs n j).map V.int).length = j := by rw [List.length_map, Kc.wl_len]
        have hf3 := e3 _ _ hf'
        refine s_forE (K := K) (a := f) (xs := (Kc.wl xs n j).map V.int) (i := 6) (j := 7) (ea_cons (ev_var rfl) ea_nil) (sq_of hf3) (fun k σ' H4 => ∃ z4 z5 : Option V, σ' = [some (.ref a), some (.int (n : Int)), some (.ref f), some (.int (j : Nat)), some (.ref q1), some (.int (((Kc.G xs xs.length j).map fun s => (Kc.C s n : Int)).sum - Kc.S (fun k => (Kc.wl xs n j).getD k 0 * (Kc.C (xs.length - k) (j - k) : Int)) k)), z4, z5, none] ∧ Ex H3 H4) (fun H4 e4 => ⟨z4, z5, ?_, e4⟩) (fun k σ' H4 hk p => ?_) ?_ ?_
        · show _ = [_, _, _, _, _, some (V.int (_ - 0)), _, _, _]
          rw [Int.sub_zero]; rfl
        · obtain ⟨_, _, rfl, e4⟩ := p
          exact sq_of (e4 _ _ hf3)
        · rintro k x σ' H4 H5 hk ⟨y4, y5, rfl, e4⟩ e5
          have hkj := (List.getElem?_eq_some_iff.mp hk).1
          rw [wlen] at hkj
          have ex : x = .int ((Kc.wl xs n j).getD k 0) := by
            rw [List.getElem?_map, List.getElem?_eq_getElem (by rw [Kc.wl_len]; exact hkj)] at hk
            have := (Option.some.inj hk).symm
            rw [this, List.getD_eq_getElem?_getD, List.getElem?_eq_getElem (by rw [Kc.wl_len]; exact hkj)]; rfl
          subst ex
          have s1 : ((xs.length : Nat) : Int) - (k : Nat) = ((xs.length - k : Nat) : Int) := by omega
          have s2 : ((j : Nat) : Int) - (k : Nat) = ((j - k : Nat) : Int) := by omega
          have sv : SpV spChoices [.int (((xs.length : Nat) : Int) - (k : Nat)), .int (((j : Nat) : Int) - (k : Nat))] H5 (.int (Kc.C (xs.length - k) (j - k) : Nat)) := by
            rw [s1, s2]
            exact sv_choices (by omega) (by omega)
          have small : Kc.C (xs.length - k) (j - k) ≤ 2 ^ 8 := Nat.le_trans (Kc.C_le _ _) (Nat.pow_le_pow_right (by decide) (by omega))
          have ln := ev_len (K := K) (σ := [some (.ref a), some (.int (n : Int)), some (.ref f), some (.int (j : Nat)), some (.ref q1), some (.int (((Kc.G xs xs.length j).map fun s => (Kc.C s n : Int)).sum - Kc.S (fun k => (Kc.wl xs n j).getD k 0 * (Kc.C (xs.length - k) (j - k) : Int)) k)), some (.int (k : Nat)), some (.int ((Kc.wl xs n j).getD k 0)), none]) (ev_var (i := 0) rfl) (ex_l ((e3.trans e4).trans e5) hx')
          rw [hlen] at ln
          refine s_aug (f := fun x y => x - y) rfl (ev_op (ev_var rfl) (ev_call (ea_cons (ev_op ln (ev_var rfl) rv_I0) (ea_cons (ev_op (ev_var rfl) (ev_var rfl) rv_I0) ea_nil)) sv) (rv_I (.inr (by omega)))) fun H6 e6 => ?_
          refine ⟨some (.int (k : Nat)), some (.int ((Kc.wl xs n j).getD k 0)), ?_, (e4.trans e5).trans e6⟩
          show [_, _, _, _, _, some (V.int (_ - Kc.S _ k - (Kc.wl xs n j).getD k 0 * (Kc.C (xs.length - k) (j - k) : Int))), _, _, _] = [_, _, _, _, _, some (V.int (_ - (Kc.S _ k + (Kc.wl xs n j).getD k 0 * (Kc.C (xs.length - k) (j - k) : Int)))), _, _, _]
          rw [Int.sub_sub]
        · rintro σ' H4 ⟨y4, y5, rfl, e4⟩
          rw [wlen]
          refine s_app (e4 _ _ hf3) (ev_var rfl) (ev_var rfl) (by rw [wlen]; omega) fun H5 e5 => ?_
          refine ⟨_, _, _, _, _, rfl, (b.on ((e3.trans e4).trans e5)).set, ?_⟩
          rw [upd_same]
          show _ = some (HO.lst ((Kc.wl xs n j ++ [_]).map V.int))
          rw [List.map_append]; rfl
    · rintro σ' H' ⟨z1, z2, z3, z4, z5, rfl, b, hf'⟩
      refine s_ret (ev_var rfl) fun H3 e3 => ?_
      have e : Ex H H3 := fun c o hc => e3 _ _ (b _ _ (e2 _ _ (e1 _ _ hc)) (ne_of_none hc hf))
      refine q f H3 hf e ?_
      rw [e3 _ _ hf', List.length_map, ho.1]; rfl
/-! ### met_sums -/
abbrev s_met_sums : Stmt := (top 27)
abbrev n_met_sums : List Str := ["sample", "most", "whole", "rows", "many", "n", "row"]
abbrev p_met_sums : List Str := ["sample", "most"]
theorem sc_met_sums : FnScope n_met_sums p_met_sums (defScope s_met_sums) := ⟨rfl, rfl, rfl, by decide +kernel, rfl, by decide +kernel, by decide +kernel⟩
def msT (xs : List Nat) (n : Nat) : HO := .tup [.int (Kc.metSum xs n), .int (Kc.C xs.sum n : Nat)]
def spMets (K : PySem.W.Frag) : Sp := fun vs H Q _ => ∃ (a : Addr) (xs : List Nat) (m : Nat), vs = [.ref a, .int (m : Int)] ∧ IL K H a (zs xs) ∧ Smp xs ∧ m ≤ 400 ∧ RetB (m + 1) (msT xs) H Q
theorem sb_mets {a : Addr} {xs : List Nat} {m : Nat} (h : IL K H a (zs xs)) (hs : Smp xs) (hm : m ≤ 400) : SpB (spMets K) [.ref a, .int (m : Int)] H (m + 1) (msT xs) := fun H1 e Q q E => ⟨a, xs, m, rfl, ex_l e h, hs, hm, q⟩
theorem ok_mets (T : Bl mg) (c_size : Callee P w K mg base CX0 1 "size" p_size (spSize K)) (c_choices_row : Callee P w K mg base CX0 1 "choices_row" p_choices_row spRow) (D : DefIn K mg "met_sums" "met_sums" s_met_sums p_met_sums) :
    Callee P w K mg base CX0 2 "met_sums" p_met_sums (spMets K) := by
  refine callee D sc_met_sums (fun vs H Q E h => ?_) (fun f cdv A outer s H vs Q E hr h => ⟨_, (pss_cons (ps_set (i := 2) sc_met_sums.nd rfl (Or.inr rfl) (pe_callC c_choices_row (hr.mono (by decide)) (by rfl) pass0 (pa_cons (pe_callC c_size (hr.mono (by decide)) (by rfl) pass0 (pa_cons (pv 0) pa_nil)) (pa_cons (pv 1) pa_nil))))
      (pss_cons (ps_set (i := 3) sc_met_sums.nd rfl (Or.inr rfl) (pe_lc (own := [("many", 4)]) (g := gName 4) (wi := iList K _) (tt := tYes) rfl sc_met_sums.nd (pi_list (pv 0)) (blkOk_by (N := n_met_sums) (sc := defScope s_met_sums) (by decide +kernel)) (fun _ _ _ _ _ => (pg_name (i := 4) sc_met_sums.nd rfl (Or.inl rfl))) (fun _ _ _ _ _ => pts_nil) (fun _ _ _ _ _ => (pe_callC c_choices_row (hr.mono (by decide)) (by rfl) pass0 (pa_cons (pe_op op_sub (pe_callC c_size (hr.mono (by decide)) (by rfl) pass0 (pa_cons (pv 0) pa_nil)) (pv 4)) (pa_cons (pv 1) pa_nil))))))
      (pss_one (ps_ret (pe_lc (own := [("n", 5)]) (g := gName 5) (tt := tYes) rfl sc_met_sums.nd (pi_range1 rfl T.b_range (pa_cons (pe_op op_add (pv 1) pe_int) pa_nil)) (blkOk_by (N := n_met_sums) (sc := defScope s_met_sums) (by decide +kernel)) (fun _ _ _ _ _ => (pg_name (i := 5) sc_met_sums.nd rfl (Or.inr rfl))) (fun _ _ _ _ _ => pts_nil) (fun _ _ _ _ _ => (pe_tup (pa_cons (pe_callB (r := rSum K) (cr_sum rfl) (by rfl) T.b_sum (by decide +kernel) (pa_cons (pe_lc (own := [("row", 6)]) (g := gName 6) (wi := iList K _) (tt := tYes) rfl sc_met_sums.nd (pi_list (pv 3)) (blkOk_by (N := n_met_sums) (sc := relS (lcS (retE ((defBody s_met_sums).getD 2 (.Pass ⟨0, 0, 0, 0⟩)))) (defScope s_met_sums)) (by decide +kernel)) (fun _ _ _ _ _ => (pg_name (i := 6) sc_met_sums.nd rfl (Or.inl rfl))) (fun _ _ _ _ _ => pts_nil) (fun _ _ _ _ _ => (pe_op op_sub (pe_ix (r := rIxL K) ix_list (pv 2) (pv 5) (fun _ _ => rfl)) (pe_ix (r := rIxL K) ix_list (pv 6) (pv 5) (fun _ _ => rfl))))) pa_nil)) (pa_cons (pe_ix (r := rIxL K) ix_list (pv 2) (pv 5) (fun _ _ => rfl)) pa_nil))))))))), ?_⟩)
  · obtain ⟨a, xs, n, rfl, _⟩ := h
    rfl
  · obtain ⟨a, xs, m, rfl, hx, hs, hm, q⟩ := h
    have h8 := hs.len
    have h320 := hs.sum
    have hlen : ((zs xs).map V.int).length = xs.length := by rw [List.length_map, zs_len]
    refine q_asgL (el_call (ea_cons (ev_call (ea_cons (ev_var rfl) ea_nil) (sv_size hx)) (ea_cons (ev_var rfl) ea_nil)) (sl_row (by omega) (by omega))) fun f H1 hf e1 h1 => ?_
    refine q_asgB (eb_lcL (K := K) (xs := (zs xs).map V.int) (fun i => .lst (rowV (xs.sum - xs.getD i 0) m)) (ev_var rfl) (ex_l e1 hx) (by rw [hlen]; omega) (fun _ => rfl) (fun i x H2 e2 hi => ?_)) fun Dl H2 qs hD e2 h2 ho => ?_
    · have hil := (List.getElem?_eq_some_iff.mp hi).1
      rw [hlen] at hil
      rw [zs_at hil] at hi
      have ex : x = .int (xs.getD i 0 : Nat) := (Option.some.inj hi).symm
      subst ex
      have l1 : xs.getD i 0 ≤ xs.sum := Kc.sum_getD
      have s1 : ((xs.sum : Nat) : Int) - (xs.getD i 0 : Nat) = ((xs.sum - xs.getD i 0 : Nat) : Int) := by omega
      have sl : SpL spRow [.int (((xs.sum : Nat) : Int) - (xs.getD i 0 : Nat)), .int (m : Int)] H2 (rowV (xs.sum - xs.getD i 0) m) := by
        rw [s1]
        exact sl_row (by omega) (by omega)
      exact EvL.n (el_call (ea_cons (ev_op (ev_call (ea_cons (ev_var rfl) ea_nil) (sv_size (ex_l (e1.trans e2) hx))) (ev_var rfl) rv_I0) (ea_cons (ev_var rfl) ea_nil)) sl)
    · rw [hlen] at ho
      have g := fun te' (he : ∀ (i : Nat) H3, Ex H2 H3 → (i : Int) < ((m : Int) + 1) → EvN te' ([some (.ref a), some (.int (m : Int)), some (.ref f), some (.ref Dl), none, some (.int (i : Int)), none]) H3 (msT xs i)) => eb_lcR1 (te := te') (vs := [5]) (j := 5) (σ := [some (.ref a), some (.int (m : Int)), some (.ref f), some (.ref Dl), none, none, none]) (H := H2) (ta := tCons (tOp (rI0 fun i j => .int (i + j)) (tVar 1) (tC (.int 1))) tNil) (n := (m : Int) + 1) (msT xs) (ea_cons (ev_op (ev_var rfl) ev_c rv_I0) ea_nil) (by omega) (fun _ => rfl) he
      rw [show ((m : Int) + 1).toNat = m + 1 by omega] at g
      refine s_retB (g _ (fun i H3 e3 hi => EvU.n (eu_tup (ea_cons (ev_sumM (fun (c : Nat) => (Kc.C xs.sum i : Int) - (Kc.C (xs.sum - c) i : Int)) ?_) (ea_cons (ev_op (ev_var rfl) (ev_var rfl) (rv_ixL (sq_of (e3 _ _ (e2 _ _ h1))) (atI_nat (rowV_at (show i ≤ m by omega))))) ea_nil)) (by show 2 ≤ 100000; omega)))) fun p H3 rs hp e3 h3 hr3 => q.go (e1.trans e2) hp e3 h3 hr3
      have g2 := fun te' tl' (hl : Ev tl' ([some (.ref a), some (.int (m : Int)), some (.ref f), some (.ref Dl), none, some (.int (i : Int)), none]) H3 (.ref Dl)) he => el_lcL (K := K) (t := tYes) (te := te') (tl := tl') (j := 6) (vs := [6]) (xs := qs.map V.ref) (fun _ => true) (fun k => V.int ((Kc.C xs.sum i : Int) - (Kc.C (xs.sum - xs.getD k 0) i : Int))) hl (sq_of (e3 _ _ h2)) (by rw [List.length_map, ho.1]; omega) (fun _ => rfl) (fun i x H1 e hi => et_yes) he
      rw [given_all, List.length_map, ho.1, map_getD xs 0 (fun c => V.int ((Kc.C xs.sum i : Int) - (Kc.C (xs.sum - c) i : Int)))] at g2
      refine g2 _ _ (ev_var rfl) (fun k x H4 e4 hk _ => ?_)
      obtain ⟨q1, hq, rfl⟩ := refs_of hk
      exact ev_op (ev_op (ev_var rfl) (ev_var rfl) (rv_ixL (sq_of (e4 _ _ (e3 _ _ (e2 _ _ h1)))) (atI_nat (rowV_at (show i ≤ m by omega))))) (ev_op (ev_var rfl) (ev_var rfl) (rv_ixL (sq_of (e4 _ _ (e3 _ _ (ho.2 k q1 hq).2))) (atI_nat (rowV_at (show i ≤ m by omega))))) rv_I0
end
end Kw


/-! comparing.py -/
namespace Kw
open PySem PySem.Spec PyProof.Rows L2 Evl
section
variable {K : PySem.W.Frag} {σ : L2.St} {H : Hp} {ta tb te tx tl : TE} {t : TT}
theorem el_lcR2 {ta : TA} {j : Nat} {vs : List Nat} {lo n : Int} (f : Nat → Bool) (v : Nat → V) (h : EvA ta σ H [.int lo, .int n]) (hn : 0 ≤ lo ∧ lo ≤ 40000 ∧ -100 ≤ n ∧ n ≤ 40000) (hw : ∀ x, wipe ((wipe σ vs).set j (some x)) vs = wipe σ vs)
    (ht : ∀ (i : Nat) H1, Ex H H1 → lo + (i : Int) < n → EvT t ((wipe σ vs).set j (some (.int (lo + (i : Int))))) H1 (f i)) (he : ∀ (i : Nat) H1, Ex H H1 → lo + (i : Int) < n → f i = true → Ev te ((wipe σ vs).set j (some (.int (lo + (i : Int))))) H1 (v i)) :
    EvL (tLc (iRng2 ta) (gName j) t te vs) σ H (given (n - lo).toNat f v) := fun H0 e Q q => h H0 e _ fun H1 e1 => ⟨lo, n, rfl, ⟨by omega, by omega, by omega, by omega⟩, fun Dl hD =>
  lc_range (lo := lo) (n := (n - lo).toNat) (Cw H1 f v Dl) ⟨hD, Ex.new hD, upd_same⟩ (fun i H' hi p => ⟨hw _, cw_turn p (by omega) (ht i H1 (e.trans e1) (by omega)) (fun hf => he i H1 (e.trans e1) (by omega) hf)⟩) (fun H' p => q Dl H' (fresh_back e1 p.1) (e1.trans p.2.1) p.2.2)⟩
theorem el_sortedRev {a : Addr} {xs : List Nat} (h : Ev ta σ H (.ref a)) (hx : IL K H a (zs xs)) : EvL (tCKw (rSortedKw K true [.bl true]) (tCons ta tNil) (tCons (tC (.bl true)) tNil)) σ H ((zs (Vbecal.falling xs)).map V.int) := fun H1 e Q q =>
  h H1 e _ fun H2 e2 => ⟨a, zs xs, rfl, rfl, ex_l (e.trans e2) hx, fun ns' p hp ho hn => by
    have e3 := Kc.sorted_is hp (show ns'.Pairwise (· ≥ ·) from ho)
    rw [e3]
    exact q p _ (fresh_back e2 hn) (e2.trans (Ex.new hn)) upd_same⟩
theorem cut_take {xs : List V} {k : Nat} : cutV xs none (some (k : Int)) = xs.take k := by
  unfold cutV
  rw [HT.sIx_nat, HT.sIx_none, List.drop_zero, Nat.sub_zero]
  by_cases h : k ≤ xs.length
  · rw [Nat.min_eq_left h]
  · rw [Nat.min_eq_right (by omega), List.take_of_length_le (Nat.le_refl _), List.take_of_length_le (by omega)]
theorem ev_allM {α : Type} {l : List α} (G : α → Bool) (h : EvL ta σ H (l.map fun a => V.bl (G a))) : Ev (tCB (rAll K) (tCons ta tNil)) σ H (.bl (l.all G)) := fun H1 e Q q =>
  h H1 e _ fun p H2 _ e2 hp => ⟨p, l.map G, rfl, sq_of (by rw [hp, List.map_map]; rfl), by
    have e3 : (l.map G).all id = l.all G := by rw [List.all_map]; rfl
    rw [e3]
    exact q H2 e2⟩
theorem zs_take (l : List Nat) (k : Nat) : ((zs l).map V.int).take k = (zs (l.take k)).map V.int := by
  unfold zs
  rw [List.map_take, List.map_take]
def rMin2 : List V → Hp → VK → Prop := fun xs H Q => ∃ i j, xs = [.int i, .int j] ∧ Q (.int (if j < i then j else i)) H
theorem ev_min2 {i j : Int} (ha : Ev ta σ H (.int i)) (hb : Ev tb σ H (.int j)) : Ev (tCB rMin2 (tCons ta (tCons tb tNil))) σ H (.int (if j < i then j else i)) := fun H1 e Q q =>
  ha H1 e _ fun H2 e2 => hb H2 (e.trans e2) _ fun H3 e3 => ⟨i, j, rfl, q H3 (e2.trans e3)⟩
end
section
variable {P : Program} {w : World} {K : PySem.W.Frag} {mg : Str → Option Value} {base : Heap} {H : Hp}
/-! ### greatest_sums -/
abbrev s_greatest_sums : Stmt := (top 32)
abbrev n_greatest_sums : List Str := ["sample", "many", "falling", "k"]
abbrev p_greatest_sums : List Str := ["sample", "many"]
theorem sc_greatest_sums : FnScope n_greatest_sums p_greatest_sums (defScope s_greatest_sums) := ⟨rfl, rfl, rfl, by decide +kernel, rfl, by decide +kernel, by decide +kernel⟩
def spGreat (K : PySem.W.Frag) : Sp := fun vs H Q _ => ∃ (a : Addr) (xs : List Nat) (m : Nat), vs = [.ref a, .int (m : Int)] ∧ IL K H a (zs xs) ∧ m ≤ 400 ∧ RetL ((List.range m).map fun i => V.int (Kc.great xs i : Nat)) H Q
theorem sl_great {a : Addr} {xs : List Nat} {m : Nat} (h : IL K H a (zs xs)) (hm : m ≤ 400) : SpL (spGreat K) [.ref a, .int (m : Int)] H ((List.range m).map fun i => V.int (Kc.great xs i : Nat)) := fun H1 e Q q E => ⟨a, xs, m, rfl, ex_l e h, hm, q⟩
theorem ok_great (T : Bl mg) (D : DefIn K mg "greatest_sums" "greatest_sums" s_greatest_sums p_greatest_sums) : Callee P w K mg base CX0 1 "greatest_sums" p_greatest_sums (spGreat K) := by
  refine callee D sc_greatest_sums (fun vs H Q E h => ?_) (fun f cdv A outer s H vs Q E hr h => ⟨_, (pss_cons (ps_set (i := 2) sc_greatest_sums.nd rfl (Or.inr rfl) (pe_callBK (r := rSortedKw K true [.bl true]) (cr_sortedRev (b := true)) (by rfl) T.b_sorted (by decide +kernel) (pa_cons (pv 0) pa_nil) (pk_cons pe_bl pk_nil)))
      (pss_one (ps_ret (pe_lc (own := [("k", 3)]) (g := gName 3) (tt := tYes) rfl sc_greatest_sums.nd (pi_range2 rfl T.b_range (pa_cons pe_int (pa_cons (pe_op op_add (pv 1) pe_int) pa_nil))) (blkOk_by (N := n_greatest_sums) (sc := defScope s_greatest_sums) (by decide +kernel)) (fun _ _ _ _ _ => (pg_name (i := 3) sc_greatest_sums.nd rfl (Or.inl rfl))) (fun _ _ _ _ _ => pts_nil) (fun _ _ _ _ _ => (pe_callB (r := rSum K) (cr_sum rfl) (by rfl) T.b_sum (by decide +kernel) (pa_cons (pe_slice (r := rSlL K) sl_list (pv 2) po_none (po_some (pv 3))) pa_nil))))))), ?_⟩)
  · obtain ⟨a, xs, n, rfl, _⟩ := h
    rfl
  · obtain ⟨a, xs, m, rfl, hx, hm, q⟩ := h
    refine q_asgL (el_sortedRev (ev_var rfl) hx) fun p H1 hp e1 h1 => ?_
    have g := fun te' (he : ∀ (i : Nat) H2, Ex H1 H2 → (1 : Int) + (i : Int) < (m : Int) + 1 → Ev te' ([some (.ref a), some (.int (m : Int)), some (.ref p), some (.int (1 + (i : Int)))]) H2 (.int (Kc.great xs i : Nat))) => el_lcR2 (t := tYes) (te := te') (σ := [some (.ref a), some (.int (m : Int)), some (.ref p), none]) (H := H1) (j := 3) (vs := [3]) (lo := 1) (n := (m : Int) + 1) (ta := tCons (tC (.int 1)) (tCons (tOp (rI0 fun i j => .int (i + j)) (tVar 1) (tC (.int 1))) tNil)) (fun _ => true) (fun i => V.int (Kc.great xs i : Nat))
      (ea_cons ev_c (ea_cons (ev_op (ev_var rfl) ev_c rv_I0) ea_nil)) (by omega) (fun _ => rfl) (fun i H1 e hi => et_yes) (fun i H2 e2 hi _ => he i H2 e2 hi)
    rw [given_all, show ((m : Int) + 1 - 1).toNat = m by omega] at g
    refine s_retL (g _ (fun i H2 e2 hi => ?_)) fun p H2 hp e2 h2 => q.go e1 hp e2 h2
    have k1 : (1 : Int) + (i : Int) = ((i + 1 : Nat) : Int) := by omega
    rw [k1]
    have s1 : Ev (tCB (rSum K) (tCons (tSl (rSlL K) (tVar 2) tNoPart (tPart (tVar 3))) tNil)) [some (.ref a), some (.int (m : Int)), some (.ref p), some (.int ((i + 1 : Nat) : Int))] H2 (.int (zs ((Vbecal.falling xs).take (i + 1))).sum) :=
      ev_sumN (el_sl (ev_var rfl) eo_none (eo_some (ev_var rfl)) (sq_of (e2 _ _ h1))) (by rw [cut_take, zs_take])
    rw [zs_sum] at s1
    exact s1
/-! ### is_as_even -/
abbrev s_is_as_even : Stmt := (top 33)
abbrev n_is_as_even : List Str := ["one", "other", "many", "mine", "theirs", "k"]
abbrev p_is_as_even : List Str := ["one", "other"]
theorem sc_is_as_even : FnScope n_is_as_even p_is_as_even (defScope s_is_as_even) := ⟨rfl, rfl, rfl, by decide +kernel, rfl, by decide +kernel, by decide +kernel⟩
def spEven (K : PySem.W.Frag) : Sp := fun vs H Q _ => ∃ (a b : Addr) (xs ys : List Nat), vs = [.ref a, .ref b] ∧ IL K H a (zs xs) ∧ IL K H b (zs ys) ∧ Smp xs ∧ Smp ys ∧ RetV (.bl (Kc.evenM xs ys)) H Q
theorem sv_even {a b : Addr} {xs ys : List Nat} (hx : IL K H a (zs xs)) (hy : IL K H b (zs ys)) (sx : Smp xs) (sy : Smp ys) : SpV (spEven K) [.ref a, .ref b] H (.bl (Kc.evenM xs ys)) := fun H1 e Q q E => ⟨a, b, xs, ys, rfl, ex_l e hx, ex_l e hy, sx, sy, q⟩
theorem ok_even (T : Bl mg) (c_size : Callee P w K mg base CX0 1 "size" p_size (spSize K)) (c_greatest_sums : Callee P w K mg base CX0 1 "greatest_sums" p_greatest_sums (spGreat K)) (D : DefIn K mg "is_as_even" "is_as_even" s_is_as_even p_is_as_even) :
    Callee P w K mg base CX0 2 "is_as_even" p_is_as_even (spEven K) := by
  refine callee D sc_is_as_even (fun vs H Q E h => ?_) (fun f cdv A outer s H vs Q E hr h => ⟨_, (pss_cons (ps_set (i := 2) sc_is_as_even.nd rfl (Or.inl rfl) (pe_callB (call_max2 rfl) (by rfl) T.b_max (by decide +kernel) (pa_cons (pe_callB call_len_seq (by rfl) T.b_len PySem.boot_len (pa_cons (pv 0) pa_nil)) (pa_cons (pe_callB call_len_seq (by rfl) T.b_len PySem.boot_len (pa_cons (pv 1) pa_nil)) pa_nil))))
      (pss_cons (ps_set (i := 3) sc_is_as_even.nd rfl (Or.inr rfl) (pe_callC c_greatest_sums (hr.mono (by decide)) (by rfl) pass0 (pa_cons (pv 0) (pa_cons (pv 2) pa_nil))))
      (pss_cons (ps_set (i := 4) sc_is_as_even.nd rfl (Or.inr rfl) (pe_callC c_greatest_sums (hr.mono (by decide)) (by rfl) pass0 (pa_cons (pv 1) (pa_cons (pv 2) pa_nil))))
      (pss_one (ps_ret (pe_callB (r := rAll K) (cr_all rfl) (by rfl) T.b_all (by decide +kernel) (pa_cons (pe_lc (own := [("k", 5)]) (g := gName 5) (tt := tYes) rfl sc_is_as_even.nd (pi_range1 rfl T.b_range (pa_cons (pv 2) pa_nil)) (blkOk_by (N := n_is_as_even) (sc := defScope s_is_as_even) (by decide +kernel)) (fun _ _ _ _ _ => (pg_name (i := 5) sc_is_as_even.nd rfl (Or.inl rfl))) (fun _ _ _ _ _ => pts_nil) (fun _ _ _ _ _ => (pe_cmpR op_le (pe_op op_mulW (pe_ix (r := rIxL K) ix_list (pv 3) (pv 5) (fun _ _ => rfl)) (pe_callC c_size (hr.mono (by decide)) (by rfl) pass0 (pa_cons (pv 1) pa_nil))) (pe_op op_mulW (pe_ix (r := rIxL K) ix_list (pv 4) (pv 5) (fun _ _ => rfl)) (pe_callC c_size (hr.mono (by decide)) (by rfl) pass0 (pa_cons (pv 0) pa_nil))) (nomark _)))) pa_nil))))))), ?_⟩)
  · obtain ⟨a, b, xs, ys, rfl, _⟩ := h
    rfl
  · obtain ⟨a, b, xs, ys, rfl, hx, hy, sx, sy, q⟩ := h
    have l1 := sx.len
    have l2 := sy.len
    have b1 := sx.sum
    have b2 := sy.sum
    have hl1 : ((zs xs).map V.int).length = xs.length := by rw [List.length_map, zs_len]
    have hl2 : ((zs ys).map V.int).length = ys.length := by rw [List.length_map, zs_len]
    have mx : (if ((ys.length : Nat) : Int) > (xs.length : Nat) then ((ys.length : Nat) : Int) else (xs.length : Nat)) = ((max xs.length ys.length : Nat) : Int) := by
      split <;> omega
    have g0 := ev_max2 (ev_len (K := K) (σ := [some (.ref a), some (.ref b), none, none, none, none]) (ev_var (i := 0) rfl) hx) (ev_len (K := K) (ev_var (i := 1) rfl) hy)
    rw [hl1, hl2, mx] at g0
    refine q_asg g0 fun H1 e1 => ?_
    refine q_asgL (el_call (ea_cons (ev_var rfl) (ea_cons (ev_var rfl) ea_nil)) (sl_great (ex_l e1 hx) (by omega))) fun p H2 hp e2 h2 => ?_
    refine q_asgL (el_call (ea_cons (ev_var rfl) (ea_cons (ev_var rfl) ea_nil)) (sl_great (ex_l (e1.trans e2) hy) (by omega))) fun r H3 hr3 e3 h3 => ?_
    have e13 := (e1.trans e2).trans e3
    have atg : ∀ (zs' : List Nat) {k : Nat}, k < max xs.length ys.length → ((List.range (max xs.length ys.length)).map fun i => V.int (Kc.great zs' i : Nat))[k]? = some (V.int (Kc.great zs' k : Nat)) := fun zs' k hk => by
      rw [List.getElem?_map, List.getElem?_range hk]; rfl
    have g := fun te' (he : ∀ (i : Nat) H2, Ex H3 H2 → (i : Int) < ((max xs.length ys.length : Nat) : Int) → Ev te' ([some (.ref a), some (.ref b), some (.int ((max xs.length ys.length : Nat) : Int)), some (.ref p), some (.ref r), some (.int (i : Int))]) H2 (.bl (decide ((Kc.great xs i : Int) * ys.sum ≤ (Kc.great ys i : Int) * xs.sum)))) => el_mapR1 (te := te') (σ := [some (.ref a), some (.ref b), some (.int ((max xs.length ys.length : Nat) : Int)), some (.ref p), some (.ref r), none]) (H := H3) (j := 5) (vs := [5]) (ta := tCons (tVar 2) tNil) (n := ((max xs.length ys.length : Nat) : Int)) (fun i => V.bl (decide ((Kc.great xs i : Int) * ys.sum ≤ (Kc.great ys i : Int) * xs.sum)))
      (ea_cons (ev_var rfl) ea_nil) (by omega) (fun _ => rfl) he
    rw [Int.toNat_natCast] at g
    refine s_ret (ev_allM (K := K) (fun i => decide ((Kc.great xs i : Int) * ys.sum ≤ (Kc.great ys i : Int) * xs.sum)) (g _ (fun i H4 e4 hi => ?_))) fun H4 e4 => q H4 (e13.trans e4)
    have g1 := Kc.great_le xs i
    have g2 := Kc.great_le ys i
    have m : ∀ {x y : Int}, -1 ≤ x → x ≤ 400 → -1 ≤ y → y ≤ 400 → CMulW x y := fun a1 a2 a3 a4 => wide_mul (small10 a1 a2) (small10 a3 a4) (by decide) (by decide) (by decide)
    exact ev_op (ev_op (ev_op (ev_var rfl) (ev_var rfl) (rv_ixL (sq_of (e4 _ _ (e3 _ _ h2))) (atI_nat (atg xs (by omega))))) (ev_call (ea_cons (ev_var rfl) ea_nil) (sv_size (ex_l (e13.trans e4) hy))) (rv_I (m (by omega) (by omega) (by omega) (by omega))))
      (ev_op (ev_op (ev_var rfl) (ev_var rfl) (rv_ixL (sq_of (e4 _ _ h3)) (atI_nat (atg ys (by omega))))) (ev_call (ea_cons (ev_var rfl) ea_nil) (sv_size (ex_l (e13.trans e4) hx))) (rv_I (m (by omega) (by omega) (by omega) (by omega)))) rv_I0
/-! ### sooner -/
abbrev s_sooner : Stmt := (top 34)
abbrev n_sooner : List Str := ["mine", "theirs", "left", "right"]
abbrev p_sooner : List Str := ["mine", "theirs"]
theorem sc_sooner : FnScope n_sooner p_sooner (defScope s_sooner) := ⟨rfl, rfl, rfl, by decide +kernel, rfl, by decide +kernel, by decide +kernel⟩
def spSooner (K : PySem.W.Frag) : Sp := fun vs H Q _ => ∃ (p r : Addr) (a b c d : Int), vs = [.ref p, .ref r] ∧ H p = some (.tup [.int a, .int b]) ∧ H r = some (.tup [.int c, .int d]) ∧ a.natAbs < 2 ^ 1006 ∧ b.natAbs < 2 ^ 1006 ∧ c.natAbs < 2 ^ 1006 ∧ d.natAbs < 2 ^ 1006 ∧ RetV (.int (Kc.sooner a b c d)) H Q
theorem sv_sooner {p r : Addr} {a b c d : Int} (hp : H p = some (.tup [.int a, .int b])) (hr : H r = some (.tup [.int c, .int d])) (h1 : a.natAbs < 2 ^ 1006) (h2 : b.natAbs < 2 ^ 1006) (h3 : c.natAbs < 2 ^ 1006) (h4 : d.natAbs < 2 ^ 1006) :
    SpV (spSooner K) [.ref p, .ref r] H (.int (Kc.sooner a b c d)) := fun H1 e Q q E => ⟨p, r, a, b, c, d, rfl, e _ _ hp, e _ _ hr, h1, h2, h3, h4, q⟩
theorem ok_sooner (T : Bl mg) (D : DefIn K mg "sooner" "sooner" s_sooner p_sooner) : Callee P w K mg base CX0 1 "sooner" p_sooner (spSooner K) := by
  refine callee D sc_sooner (fun vs H Q E h => ?_) (fun f cdv A outer s H vs Q E hr h => ⟨_, (pss_cons (ps_set (i := 2) sc_sooner.nd rfl (Or.inl rfl) (pe_op op_mulW (pe_ix (r := rIxT K) ix_tup (pv 0) pe_int (fun _ _ => rfl)) (pe_ix (r := rIxT K) ix_tup (pv 1) pe_int (fun _ _ => rfl))))
      (pss_cons (ps_set (i := 3) sc_sooner.nd rfl (Or.inl rfl) (pe_op op_mulW (pe_ix (r := rIxT K) ix_tup (pv 1) pe_int (fun _ _ => rfl)) (pe_ix (r := rIxT K) ix_tup (pv 0) pe_int (fun _ _ => rfl))))
      (pss_cons (ps_if (pt_cmpR op_gt (pv 2) (pv 3) (nomark _)) (pss_one (ps_ret (pe_glob (v := .int (2)) rfl T.g_MORE ⟨_, rfl⟩))) pss_nil)
      (pss_cons (ps_if (pt_cmpR op_eq (pv 2) (pv 3) (nomark _)) (pss_one (ps_ret (pe_glob (v := .int (1)) rfl T.g_AS_RICH ⟨_, rfl⟩))) pss_nil)
      (pss_one (ps_ret (pe_glob (v := .int (0)) rfl T.g_LESS ⟨_, rfl⟩))))))), ?_⟩)
  · obtain ⟨a, b, xs, ys, _, _, rfl, _⟩ := h
    rfl
  · obtain ⟨p, r, a, b, c, d, rfl, hp, hr2, h1, h2, h3, h4, q⟩ := h
    refine q_asg (ev_op (ev_op (ev_var rfl) ev_c (rv_ixT (st_of hp) (atI_nat (j := 0) rfl))) (ev_op (ev_var rfl) ev_c (rv_ixT (st_of hr2) (atI_nat (j := 1) rfl))) (rv_I (wide_mul h1 h4 (by decide) (by decide) (by decide)))) fun H1 e1 => ?_
    refine q_asg (ev_op (ev_op (ev_var rfl) ev_c (rv_ixT (st_of (e1 _ _ hr2)) (atI_nat (j := 0) rfl))) (ev_op (ev_var rfl) ev_c (rv_ixT (st_of (e1 _ _ hp)) (atI_nat (j := 1) rfl))) (rv_I (wide_mul h3 h2 (by decide) (by decide) (by decide)))) fun H2 e2 => ?_
    refine q_when (et_test (ev_op (ev_var rfl) (ev_var rfl) rv_I0)) (fun hb H3 e3 => ?_) (fun hb H3 e3 => ?_)
    · have hb := of_decide_eq_true hb
      refine s_ret ev_c fun H4 e4 => ?_
      have := q H4 (((e1.trans e2).trans e3).trans e4)
      rw [show Kc.sooner a b c d = 2 from if_pos hb] at this
      exact this
    · have hb := of_decide_eq_false hb
      refine q_when (et_test (ev_op (ev_var rfl) (ev_var rfl) (rv_eq rfl))) (fun hc H4 e4 => ?_) (fun hc H4 e4 => ?_)
      · rw [dec_int] at hc
        have hc := beq_iff_eq.mp hc
        refine s_ret ev_c fun H5 e5 => ?_
        have := q H5 ((((e1.trans e2).trans e3).trans e4).trans e5)
        rw [show Kc.sooner a b c d = 1 from (if_neg hb).trans (if_pos hc)] at this
        exact this
      · rw [dec_int] at hc
        have hc := beq_eq_false_iff_ne.mp hc
        refine s_ret ev_c fun H5 e5 => ?_
        have := q H5 ((((e1.trans e2).trans e3).trans e4).trans e5)
        rw [show Kc.sooner a b c d = 0 from (if_neg hb).trans (if_neg hc)] at this
        exact this
/-! ### richer -/
abbrev s_richer : Stmt := (top 35)
abbrev n_richer : List Str := ["one", "other", "n"]
abbrev p_richer : List Str := ["one", "other", "n"]
theorem sc_richer : FnScope n_richer p_richer (defScope s_richer) := ⟨rfl, rfl, rfl, by decide +kernel, rfl, by decide +kernel, by decide +kernel⟩
def spRicher (K : PySem.W.Frag) : Sp := fun vs H Q _ => ∃ (a b : Addr) (xs ys : List Nat) (n : Nat), vs = [.ref a, .ref b, .int (n : Int)] ∧ IL K H a (zs xs) ∧ IL K H b (zs ys) ∧ Smp xs ∧ Smp ys ∧ n ≤ 400 ∧ RetV (.int (Kc.richerM xs ys n)) H Q
theorem sv_richer {a b : Addr} {xs ys : List Nat} {n : Nat} (hx : IL K H a (zs xs)) (hy : IL K H b (zs ys)) (sx : Smp xs) (sy : Smp ys) (hn : n ≤ 400) : SpV (spRicher K) [.ref a, .ref b, .int (n : Int)] H (.int (Kc.richerM xs ys n)) := fun H1 e Q q E => ⟨a, b, xs, ys, n, rfl, ex_l e hx, ex_l e hy, sx, sy, hn, q⟩
theorem sv_msT {p r : Addr} {xs ys : List Nat} {n : Nat} (sx : Smp xs) (sy : Smp ys) (hp : H p = some (msT xs n)) (hr : H r = some (msT ys n)) : SpV (spSooner K) [.ref p, .ref r] H (.int (Kc.richerM xs ys n)) :=
  sv_sooner hp hr (met_small sx n) (up_bound (whole_small sx n) (by decide)) (met_small sy n) (up_bound (whole_small sy n) (by decide))
theorem ok_richer (c_met_sums : Callee P w K mg base CX0 2 "met_sums" p_met_sums (spMets K)) (c_sooner : Callee P w K mg base CX0 1 "sooner" p_sooner (spSooner K)) (D : DefIn K mg "richer" "richer" s_richer p_richer) :
    Callee P w K mg base CX0 3 "richer" p_richer (spRicher K) := by
  refine callee D sc_richer (fun vs H Q E h => ?_) (fun f cdv A outer s H vs Q E hr h => ⟨_, (pss_one (ps_ret (pe_callC c_sooner (hr.mono (by decide)) (by rfl) pass0 (pa_cons (pe_ix (r := rIxL K) ix_list (pe_callC c_met_sums (hr.mono (by decide)) (by rfl) pass0 (pa_cons (pv 0) (pa_cons (pv 2) pa_nil))) (pv 2) (fun _ _ => rfl)) (pa_cons (pe_ix (r := rIxL K) ix_list (pe_callC c_met_sums (hr.mono (by decide)) (by rfl) pass0 (pa_cons (pv 1) (pa_cons (pv 2) pa_nil))) (pv 2) (fun _ _ => rfl)) pa_nil))))), ?_⟩)
  · obtain ⟨a, b, xs, ys, n, rfl, _⟩ := h
    rfl
  · obtain ⟨a, b, xs, ys, n, rfl, hx, hy, sx, sy, hn, q⟩ := h
    refine eb_call (σ := [some (.ref a), some (.ref b), some (.int (n : Int))]) (ea_cons (ev_var (i := 0) rfl) (ea_cons (ev_var (i := 2) rfl) ea_nil)) (sb_mets hx sx hn) H (Ex.refl H) _ fun D1 H1 qs1 hD1 e1 h1 o1 => ?_
    obtain ⟨p, hp, _, cp⟩ := o1.lt (i := n) (by omega)
    refine ⟨.int (n : Int), rfl, D1, _, _, _, rfl, rfl, sq_of h1, atI_nat (refs_at hp), ?_⟩
    refine eb_call (σ := [some (.ref a), some (.ref b), some (.int (n : Int))]) (ea_cons (ev_var (i := 1) rfl) (ea_cons (ev_var (i := 2) rfl) ea_nil)) (sb_mets (ex_l e1 hy) sy hn) H1 (Ex.refl H1) _ fun D2 H2 qs2 hD2 e2 h2 o2 => ?_
    obtain ⟨r, hr, _, cr⟩ := o2.lt (i := n) (by omega)
    refine ⟨.int (n : Int), rfl, D2, _, _, _, rfl, rfl, sq_of h2, atI_nat (refs_at hr), ?_⟩
    exact sv_msT (K := K) sx sy (e2 _ _ cp) cr H2 (Ex.refl H2) _ (fun H3 e3 => q H3 ((e1.trans e2).trans e3)) E0
/-! ### turns -/
abbrev s_turns : Stmt := (top 37)
abbrev n_turns : List Str := ["one", "other", "most", "mine", "theirs", "told", "n"]
abbrev p_turns : List Str := ["one", "other"]
theorem sc_turns : FnScope n_turns p_turns (defScope s_turns) := ⟨rfl, rfl, rfl, by decide +kernel, rfl, by decide +kernel, by decide +kernel⟩
def spTurns (K : PySem.W.Frag) : Sp := fun vs H Q _ => ∃ (a b : Addr) (xs ys : List Nat), vs = [.ref a, .ref b] ∧ IL K H a (zs xs) ∧ IL K H b (zs ys) ∧ Smp xs ∧ Smp ys ∧ RetL ((Kc.turnsM xs ys).map V.int) H Q
theorem sl_turns {a b : Addr} {xs ys : List Nat} (hx : IL K H a (zs xs)) (hy : IL K H b (zs ys)) (sx : Smp xs) (sy : Smp ys) : SpL (spTurns K) [.ref a, .ref b] H ((Kc.turnsM xs ys).map V.int) := fun H1 e Q q E => ⟨a, b, xs, ys, rfl, ex_l e hx, ex_l e hy, sx, sy, q⟩
theorem from_two (p : Nat → Bool) (m : Nat) : ((List.range (m + 1)).filter fun n => decide (2 ≤ n) && p n) = ((List.range (m + 1 - 2)).map fun i => 2 + i).filter p := by
  by_cases h : m = 0
  · subst h; rfl
  · have e : List.range (m + 1) = List.range 2 ++ (List.range (m + 1 - 2)).map fun i => 2 + i := by
      rw [← List.range_add]
      congr 1
      omega
    rw [e, List.filter_append]
    have e1 : (List.range 2).filter (fun n => decide (2 ≤ n) && p n) = [] := rfl
    rw [e1, List.nil_append]
    refine List.filter_congr fun x hx => ?_
    obtain ⟨i, _, rfl⟩ := List.mem_map.mp hx
    rw [decide_eq_true (show 2 ≤ 2 + i by omega), Bool.true_and]
theorem ok_turns (T : Bl mg) (c_size : Callee P w K mg base CX0 1 "size" p_size (spSize K)) (c_met_sums : Callee P w K mg base CX0 2 "met_sums" p_met_sums (spMets K)) (c_sooner : Callee P w K mg base CX0 1 "sooner" p_sooner (spSooner K)) (D : DefIn K mg "turns" "turns" s_turns p_turns) :
    Callee P w K mg base CX0 3 "turns" p_turns (spTurns K) := by
  refine callee D sc_turns (fun vs H Q E h => ?_) (fun f cdv A outer s H vs Q E hr h => ⟨_, (pss_cons (ps_set (i := 2) sc_turns.nd rfl (Or.inl rfl) (pe_callB (call_min2 rfl) (by rfl) T.b_min (by decide +kernel) (pa_cons (pe_callC c_size (hr.mono (by decide)) (by rfl) pass0 (pa_cons (pv 0) pa_nil)) (pa_cons (pe_callC c_size (hr.mono (by decide)) (by rfl) pass0 (pa_cons (pv 1) pa_nil)) pa_nil))))
      (pss_cons (ps_set (i := 3) sc_turns.nd rfl (Or.inr rfl) (pe_callC c_met_sums (hr.mono (by decide)) (by rfl) pass0 (pa_cons (pv 0) (pa_cons (pv 2) pa_nil))))
      (pss_cons (ps_set (i := 4) sc_turns.nd rfl (Or.inr rfl) (pe_callC c_met_sums (hr.mono (by decide)) (by rfl) pass0 (pa_cons (pv 1) (pa_cons (pv 2) pa_nil))))
      (pss_cons (ps_set (i := 5) sc_turns.nd rfl (Or.inr rfl) (pe_lc (own := [("n", 6)]) (g := gName 6) (tt := tYes) rfl sc_turns.nd (pi_range1 rfl T.b_range (pa_cons (pe_op op_add (pv 2) pe_int) pa_nil)) (blkOk_by (N := n_turns) (sc := defScope s_turns) (by decide +kernel)) (fun _ _ _ _ _ => (pg_name (i := 6) sc_turns.nd rfl (Or.inl rfl))) (fun _ _ _ _ _ => pts_nil) (fun _ _ _ _ _ => (pe_callC c_sooner (hr.mono (by decide)) (by rfl) pass0 (pa_cons (pe_ix (r := rIxL K) ix_list (pv 3) (pv 6) (fun _ _ => rfl)) (pa_cons (pe_ix (r := rIxL K) ix_list (pv 4) (pv 6) (fun _ _ => rfl)) pa_nil))))))
      (pss_one (ps_ret (pe_lc (own := [("n", 6)]) (g := gName 6) rfl sc_turns.nd (pi_range2 rfl T.b_range (pa_cons pe_int (pa_cons (pe_op op_add (pv 2) pe_int) pa_nil))) (blkOk_by (N := n_turns) (sc := defScope s_turns) (by decide +kernel)) (fun _ _ _ _ _ => (pg_name (i := 6) sc_turns.nd rfl (Or.inl rfl))) (fun _ _ _ _ _ => (pts_one (pt_cmpR op_ne (pe_ix (r := rIxL K) ix_list (pv 5) (pv 6) (fun _ _ => rfl)) (pe_ix (r := rIxL K) ix_list (pv 5) (pe_op op_sub (pv 6) pe_int) (fun _ _ => rfl)) (nomark _)))) (fun _ _ _ _ _ => (pv 6))))))))), ?_⟩)
  · obtain ⟨a, b, xs, ys, rfl, _⟩ := h
    rfl
  · obtain ⟨a, b, xs, ys, rfl, hx, hy, sx, sy, q⟩ := h
    have b1 := sx.sum
    have b2 := sy.sum
    obtain ⟨m, hm⟩ : ∃ m, m = min xs.sum ys.sum := ⟨_, rfl⟩
    have mn : (if ((ys.sum : Nat) : Int) < (xs.sum : Nat) then ((ys.sum : Nat) : Int) else (xs.sum : Nat)) = ((m : Nat) : Int) := by
      subst hm
      split <;> omega
    have g0 := ev_min2 (ev_call (E := E0) (σ := [some (.ref a), some (.ref b), none, none, none, none, none]) (ea_cons (ev_var (i := 0) rfl) ea_nil) (sv_size hx)) (ev_call (E := E0) (ea_cons (ev_var (i := 1) rfl) ea_nil) (sv_size hy))
    rw [mn] at g0
    refine q_asg g0 fun H1 e1 => ?_
    refine q_asgB (eb_call (ea_cons (ev_var rfl) (ea_cons (ev_var rfl) ea_nil)) (sb_mets (m := m) (ex_l e1 hx) sx (by omega))) fun D1 H2 qs1 hD1 e2 h1 o1 => ?_
    refine q_asgB (eb_call (ea_cons (ev_var rfl) (ea_cons (ev_var rfl) ea_nil)) (sb_mets (m := m) (ex_l (e1.trans e2) hy) sy (by omega))) fun D2 H3 qs2 hD2 e3 h2 o2 => ?_
    have g := fun te' (he : ∀ (i : Nat) H4, Ex H3 H4 → (i : Int) < (m : Int) + 1 → Ev te' ([some (.ref a), some (.ref b), some (.int (m : Int)), some (.ref D1), some (.ref D2), none, some (.int (i : Int))]) H4 (.int (Kc.richerM xs ys i))) => el_mapR1 (te := te') (σ := [some (.ref a), some (.ref b), some (.int (m : Int)), some (.ref D1), some (.ref D2), none, none]) (H := H3) (j := 6) (vs := [6]) (ta := tCons (tOp (rI0 fun i j => .int (i + j)) (tVar 2) (tC (.int 1))) tNil) (n := (m : Int) + 1) (fun i => V.int (Kc.richerM xs ys i))
      (ea_cons (ev_op (ev_var rfl) ev_c rv_I0) ea_nil) (by omega) (fun _ => rfl) he
    rw [show ((m : Int) + 1).toNat = m + 1 by omega] at g
    refine q_asgL (g _ (fun i H4 e4 hi => ?_)) fun p H4 hp e4 h4 => ?_
    · intro H5 e5 Q5 q5
      obtain ⟨p, hp, _, cp⟩ := o1.lt (i := i) (by omega)
      obtain ⟨r, hr, _, cr⟩ := o2.lt (i := i) (by omega)
      have e35 := e4.trans e5
      refine ⟨_, rfl, .int (i : Int), rfl, D1, _, _, _, rfl, rfl, sq_of (e35 _ _ (e3 _ _ h1)), atI_nat (refs_at hp), ?_⟩
      refine ⟨_, rfl, .int (i : Int), rfl, D2, _, _, _, rfl, rfl, sq_of (e35 _ _ h2), atI_nat (refs_at hr), ?_⟩
      exact sv_msT (K := K) sx sy (e35 _ _ (e3 _ _ cp)) (e35 _ _ cr) H5 (Ex.refl H5) _ (fun H6 e6 => q5 H6 e6) E0
    · have at_ : ∀ {k : Nat}, k ≤ m → ((List.range (m + 1)).map fun i => V.int (Kc.richerM xs ys i))[k]? = some (V.int (Kc.richerM xs ys k)) := fun {k} hk => by
        rw [List.getElem?_map, List.getElem?_range (by omega)]; rfl
      have g2 := fun tt' te' (ht : ∀ (i : Nat) H5, Ex H4 H5 → (2 : Int) + (i : Int) < (m : Int) + 1 → EvT tt' ([some (.ref a), some (.ref b), some (.int (m : Int)), some (.ref D1), some (.ref D2), some (.ref p), some (.int (2 + (i : Int)))]) H5 (decide (Kc.richerM xs ys (2 + i) ≠ Kc.richerM xs ys (2 + i - 1)))) (he : ∀ (i : Nat) H5, Ex H4 H5 → (2 : Int) + (i : Int) < (m : Int) + 1 → Ev te' ([some (.ref a), some (.ref b), some (.int (m : Int)), some (.ref D1), some (.ref D2), some (.ref p), some (.int (2 + (i : Int)))]) H5 (.int ((2 + i : Nat) : Int))) =>
        el_lcR2 (t := tt') (te := te') (σ := [some (.ref a), some (.ref b), some (.int (m : Int)), some (.ref D1), some (.ref D2), some (.ref p), none]) (H := H4) (j := 6) (vs := [6]) (lo := 2) (n := (m : Int) + 1) (ta := tCons (tC (.int 2)) (tCons (tOp (rI0 fun i j => .int (i + j)) (tVar 2) (tC (.int 1))) tNil)) (fun i => decide (Kc.richerM xs ys (2 + i) ≠ Kc.richerM xs ys (2 + i - 1))) (fun i => V.int ((2 + i : Nat) : Int))
        (ea_cons ev_c (ea_cons (ev_op (ev_var rfl) ev_c rv_I0) ea_nil)) (by omega) (fun _ => rfl) ht (fun i H5 e5 hi _ => he i H5 e5 hi)
      have res : given ((m : Int) + 1 - 2).toNat (fun i => decide (Kc.richerM xs ys (2 + i) ≠ Kc.richerM xs ys (2 + i - 1))) (fun i => V.int ((2 + i : Nat) : Int)) = (Kc.turnsM xs ys).map V.int := by
        unfold Kc.turnsM given
        rw [← hm, from_two, List.filter_map, List.map_map, List.map_map, show ((m : Int) + 1 - 2).toNat = m + 1 - 2 by omega]; rfl
      rw [res] at g2
      refine s_retL (g2 _ _ (fun i H5 e5 hi => ?_) (fun i H5 e5 hi => ev_is (ev_var rfl) (by show V.int (2 + (i : Int)) = V.int ((2 + i : Nat) : Int); rw [Int.natCast_add]; rfl))) fun r H5 hr e5 h5 => q.go (((e1.trans e2).trans e3).trans e4) hr e5 h5
      refine et_is (et_test (ev_op (ev_op (ev_var rfl) (ev_var rfl) (rv_ixL (sq_of (e5 _ _ h4)) (at_of (j := 2 + i) (by omega) (at_ (by omega))))) (ev_op (ev_var rfl) (ev_op (ev_var rfl) ev_c rv_I0) (rv_ixL (sq_of (e5 _ _ h4)) (at_of (j := 2 + i - 1) (by omega) (at_ (by omega))))) (rv_ne rfl))) ?_
      rw [dec_int]
      by_cases c : Kc.richerM xs ys (2 + i) = Kc.richerM xs ys (2 + i - 1)
      · rw [c]; simp
      · rw [show (Kc.richerM xs ys (2 + i) == Kc.richerM xs ys (2 + i - 1)) = false from beq_eq_false_iff_ne.mpr c, decide_eq_true c]; rfl
/-! ### shared -/
abbrev s_shared : Stmt := (top 38)
abbrev n_shared : List Str := ["one", "other", "n", "m", "mine", "theirs", "found", "left", "right"]
abbrev p_shared : List Str := ["one", "other", "n", "m"]
theorem sc_shared : FnScope n_shared p_shared (defScope s_shared) := ⟨rfl, rfl, rfl, by decide +kernel, rfl, by decide +kernel, by decide +kernel⟩
def spShared (K : PySem.W.Frag) : Sp := fun vs H Q _ => ∃ (a b : Addr) (xs ys : List Nat) (n m : Nat), vs = [.ref a, .ref b, .int (n : Int), .int (m : Int)] ∧ IL K H a (zs xs) ∧ IL K H b (zs ys) ∧ Smp xs ∧ Smp ys ∧ xs.length = ys.length ∧ n ≤ xs.sum ∧ m ≤ ys.sum ∧ RetL ((Kc.sharedM xs ys n m).map V.int) H Q
theorem sl_shared {a b : Addr} {xs ys : List Nat} {n m : Nat} (hx : IL K H a (zs xs)) (hy : IL K H b (zs ys)) (sx : Smp xs) (sy : Smp ys) (hl : xs.length = ys.length) (hn : n ≤ xs.sum) (hm : m ≤ ys.sum) : SpL (spShared K) [.ref a, .ref b, .int (n : Int), .int (m : Int)] H ((Kc.sharedM xs ys n m).map V.int) :=
  fun H1 e Q q E => ⟨a, b, xs, ys, n, m, rfl, ex_l e hx, ex_l e hy, sx, sy, hl, hn, hm, q⟩
theorem wo_at {xs : List Nat} {n k : Nat} (hk : k < xs.length) : (xs.map fun c => V.int (woI xs n c))[k]? = some (V.int (woI xs n (xs.getD k 0))) := by
  rw [List.getElem?_map, List.getD_eq_getElem?_getD]
  simp [hk]
theorem ok_shared (T : Bl mg) (c_size : Callee P w K mg base CX0 1 "size" p_size (spSize K)) (c_choices : Callee P w K mg base CX0 2 "choices" p_choices spChoices) (c_without_row : Callee P w K mg base CX0 3 "without_row" p_without_row (spWithout K))
    (c_lowest : Callee P w K mg base CX0 2 "lowest" p_lowest spLowest) (D : DefIn K mg "shared" "shared" s_shared p_shared) : Callee P w K mg base CX0 4 "shared" p_shared (spShared K) := by
  refine callee D sc_shared (fun vs H Q E h => ?_) (fun f cdv A outer s H vs Q E hr h => ⟨_, (pss_cons (ps_set (i := 4) sc_shared.nd rfl (Or.inl rfl) (pe_callC c_choices (hr.mono (by decide)) (by rfl) pass0 (pa_cons (pe_callC c_size (hr.mono (by decide)) (by rfl) pass0 (pa_cons (pv 0) pa_nil)) (pa_cons (pv 2) pa_nil))))
      (pss_cons (ps_set (i := 5) sc_shared.nd rfl (Or.inl rfl) (pe_callC c_choices (hr.mono (by decide)) (by rfl) pass0 (pa_cons (pe_callC c_size (hr.mono (by decide)) (by rfl) pass0 (pa_cons (pv 1) pa_nil)) (pa_cons (pv 3) pa_nil))))
      (pss_cons (ps_set (i := 6) sc_shared.nd rfl (Or.inl rfl) pe_int)
      (pss_cons (ps_for PassesOwn.never rfl (pi_zip (by rfl) T.b_zip (pa_cons (pe_callC c_without_row (hr.mono (by decide)) (by rfl) pass0 (pa_cons (pv 0) (pa_cons (pv 2) pa_nil))) (pa_cons (pe_callC c_without_row (hr.mono (by decide)) (by rfl) pass0 (pa_cons (pv 1) (pa_cons (pv 3) pa_nil))) pa_nil))) (pg_tup rfl (pgs_cons (pg_name (i := 7) sc_shared.nd rfl (Or.inl rfl)) (pgs_cons (pg_name (i := 8) sc_shared.nd rfl (Or.inl rfl)) pgs_nil))) (pss_one (ps_aug (i := 6) sc_shared.nd rfl (Or.inl rfl) (pe_op op_mulW (pe_op op_sub (pv 4) (pv 7)) (pe_op op_sub (pv 5) (pv 8))) ip_add)))
      (pss_one (ps_ret (pe_callC c_lowest (hr.mono (by decide)) (by rfl) pass0 (pa_cons (pv 6) (pa_cons (pe_op op_mulW (pv 4) (pv 5)) pa_nil))))))))), ?_⟩)
  · obtain ⟨a, b, xs, ys, n, m, rfl, _⟩ := h
    rfl
  · obtain ⟨a, b, xs, ys, n, m, rfl, hx, hy, sx, sy, hl, hn, hm, q⟩ := h
    have b1 := sx.sum
    have b2 := sy.sum
    have w1 := whole_small sx n
    have w2 := whole_small sy m
    refine q_asg (ev_call (ea_cons (ev_call (ea_cons (ev_var rfl) ea_nil) (sv_size hx)) (ea_cons (ev_var rfl) ea_nil)) (sv_choices (by omega) (by omega))) fun H1 e1 => ?_
    refine q_asg (ev_call (ea_cons (ev_call (ea_cons (ev_var rfl) ea_nil) (sv_size (ex_l e1 hy))) (ea_cons (ev_var rfl) ea_nil)) (sv_choices (by omega) (by omega))) fun H2 e2 => ?_
    refine q_asg ev_c fun H3 e3 => ?_
    have e13 := (e1.trans e2).trans e3
    refine el_call (σ := [some (.ref a), some (.ref b), some (.int (n : Int)), some (.int (m : Int)), some (.int (Kc.C xs.sum n : Nat)), some (.int (Kc.C ys.sum m : Nat)), some (.int 0), none, none]) (ea_cons (ev_var (i := 0) rfl) (ea_cons (ev_var (i := 2) rfl) ea_nil)) (sl_without (ex_l e13 hx) sx (show n ≤ 400 by omega)) H3 (Ex.refl H3) _ fun p H4 hp e4 h4 => ?_
    refine el_call (σ := [some (.ref a), some (.ref b), some (.int (n : Int)), some (.int (m : Int)), some (.int (Kc.C xs.sum n : Nat)), some (.int (Kc.C ys.sum m : Nat)), some (.int 0), none, none]) (ea_cons (ev_var (i := 1) rfl) (ea_cons (ev_var (i := 3) rfl) ea_nil)) (sl_without (ex_l (e13.trans e4) hy) sy (show m ≤ 400 by omega)) H4 (Ex.refl H4) _ fun r H5 hr5 e5 h5 => ?_
    have hn' : xs.length = min (xs.map fun c => V.int (woI xs n c)).length (ys.map fun c => V.int (woI ys m c)).length := by rw [List.length_map, List.length_map]; omega
    refine forZ_at (K := K) (sq_of (e5 _ _ h4)) (sq_of h5) hn' (fun k σ' H' => ∃ z1 z2 : Option V, σ' = [some (.ref a), some (.ref b), some (.int (n : Int)), some (.int (m : Int)), some (.int (Kc.C xs.sum n : Nat)), some (.int (Kc.C ys.sum m : Nat)), some (.int (Kc.S (fun i => ((Kc.C xs.sum n : Int) - Kc.C (xs.sum - xs.getD i 0) n) * ((Kc.C ys.sum m : Int) - Kc.C (ys.sum - ys.getD i 0) m)) k)), z1, z2] ∧ Ex H5 H') ⟨none, none, rfl, Ex.refl H5⟩ (fun k σ' H' hk pv => ?_) ?_ ?_
    · obtain ⟨_, _, _, e⟩ := pv
      exact ⟨sq_of (e _ _ (e5 _ _ h4)), sq_of (e _ _ h5)⟩
    · rintro k x y σ' H0 H' hkx hky ⟨z1, z2, rfl, e⟩ e6
      have k1 := (List.getElem?_eq_some_iff.mp hkx).1
      rw [List.length_map] at k1
      rw [wo_at k1] at hkx
      rw [wo_at (by omega)] at hky
      have ex : x = .int (woI xs n (xs.getD k 0)) := (Option.some.inj hkx).symm
      have ey : y = .int (woI ys m (ys.getD k 0)) := (Option.some.inj hky).symm
      subst ex ey
      refine s_aug rfl (ev_op (ev_op (ev_var rfl) (ev_var rfl) rv_I0) (ev_op (ev_var rfl) (ev_var rfl) rv_I0) (rv_I (wide_mul (sub_bound w1 (wo_small sx n _)) (sub_bound w2 (wo_small sy m _)) (by decide) (by decide) (by decide)))) fun H7 e7 => ?_
      exact ⟨_, _, rfl, (e.trans e6).trans e7⟩
    · rintro σ' H' ⟨z1, z2, rfl, e⟩
      refine s_retL (el_call (ea_cons (ev_var rfl) (ea_cons (ev_op (ev_var rfl) (ev_var rfl) (rv_I (wide_mul w1 w2 (by decide) (by decide) (by decide)))) ea_nil)) (sl_lowest (Int.mul_pos (Kc.C_posI hn) (Kc.C_posI hm)) (up_bound (wide_lt w1 w2) (by decide)))) fun p2 H6 hp2 e6 h6 => q.go (((e13.trans e4).trans e5).trans e) hp2 e6 h6
end
end Kw


/-! refusals.py, and the checks of holding.py -/
namespace Kw
open PySem PySem.Spec PyProof.Rows L2 Evl
/-- the call ends by Refused with the code k; what was tracked stands -/
def RaiseC (CF : Addr) (k : Int) (H : Hp) (E : XK) : Prop := ∀ H' d, Ex H H' → H' d = some (.xd [(("code" : Str), .int k)]) → E (.ref CF) (some d) H'
theorem RaiseC.on {CF : Addr} {k : Int} {H H1 : Hp} {E : XK} (r : RaiseC CF k H E) (e : Ex H H1) : RaiseC CF k H1 E := fun H' d e1 h => r H' d (e.trans e1) h
/-- the class Refused -/
structure Ref (K : PySem.W.Frag) (mg : Str → Option Value) (CF : Addr) : Prop where
  oex : OexC K CF
  noC : PySem.W.findIn K (.ref CF) "code" = some none
  gR : mg "Refused" = some (.ref CF)
  xf : XfC K CF
  te : PySem.W.exmOne K (.ref CF) (.ref CF) = some true
def spRefI (CF : Addr) : Sp := fun vs H Q _ => ∃ (a : Addr) (k : Int), vs = [.ref a, .int k] ∧ H a = some (exo a CF none) ∧ ∀ dx, H dx = none → dx ≠ a → Q .non (upd (upd H dx (exd dx [(("code" : Str), .int k)])) a (exo a CF (some dx)))
def XCallee (P : Program) (w : World) (K : PySem.W.Frag) (mg : Str → Option Value) (base : Heap) (CF : Addr) (k : Nat) (ps : List Str) : Prop :=
  ∃ f fd, FnOk P w K mg base CX0 k f fd ps (spRefI CF) ∧ PySem.W.findIn K (.ref CF) "__init__" = some (some (.ref f)) ∧ PySem.W.typeIn K (.ref f) = some (.type "function") ∧ Binds K fd ps []
theorem pmk_oexC {X : Cx} {CF : Addr} {k : Nat} {ps : List Str} {p pos : Pos} {e : Expr} {es : List Expr} {t : TA} (R : Ref X.K X.mg CF) (c : XCallee X.prog X.w X.K X.mg X.base CF k ps) (hr : Room (k + 1) X.A) (ha : PA X (e :: es) t) (hg : Gl X "Refused" := by rfl)
    (he : starEach (e :: es) X.env = (false, eval e X.env) :: starEach es X.env := by rfl) (hpl : (backTo pos (starEach es X.env)).any (·.1) = false := by rfl) :
    PMk X (.Call (.Name "Refused" p) (e :: es) [] pos) (tMkO CF (spRefI CF) [] t) := by
  obtain ⟨f, fd, F, iC, tI, b⟩ := c
  exact pmk_oex R.oex iC tI F hr b .nil pass0 hg R.gR ha (by decide) he hpl
/-- a check: nothing, or the refusal k -/
def SpC (CF : Addr) (sp : Sp) (vs : List V) (H : Hp) (b : Bool) (k : Int) : Prop := ∀ H1, Ex H H1 → ∀ (Q : VK) (E : XK), (b = true → RetV .non H1 Q) → (b = false → RaiseC CF k H1 E) → sp vs H1 Q E
section
variable {CF : Addr} {σ : L2.St} {H : Hp} {D : Ends} {tz : TS} {ta : TA} {sp : Sp} {vs : List V} {b : Bool} {k : Int} {E : XK} {te tb tc : TE}
theorem s_chk (h : EvA ta σ H vs) (hs : SpC CF sp (vs ++ []) H b k) (ok : b = true → ∀ H1, Ex H H1 → D.nx σ H1) (bad : b = false → RaiseC CF k H E) : tDrop (tCall sp [] E ta) D σ H :=
  h H (Ex.refl H) _ fun H1 e1 => hs H1 e1 _ _ (fun hb H2 e2 => ok hb H2 (e1.trans e2)) (fun hb => (bad hb).on e1)
theorem q_chk (h : EvA ta σ H vs) (hs : SpC CF sp (vs ++ []) H b k) (ok : b = true → ∀ H1, Ex H H1 → tz D σ H1) (bad : b = false → RaiseC CF k H E) : tSeq (tDrop (tCall sp [] E ta)) tz D σ H := s_chk (D := { D with nx := tz D }) h hs ok bad
theorem ev_chain {x y z : Int} (h1 : Ev te σ H (.int x)) (h2 : Ev tb σ H (.int y)) (h3 : Ev tc σ H (.int z)) :
    Ev (tChain (rI0 fun i j => .bl (decide (i ≤ j))) (rI0 fun i j => .bl (decide (i ≤ j))) te tb tc) σ H (.bl (decide (x ≤ y) && decide (y ≤ z))) := fun H1 e Q q =>
  h1 H1 e _ fun H2 e2 => h2 H2 (e.trans e2) _ fun H3 e3 => ⟨x, y, rfl, rfl, _, rfl, by
    by_cases c : x ≤ y
    · rw [if_pos (decide_eq_true c)]
      refine h3 H3 ((e.trans e2).trans e3) _ fun H4 e4 => ⟨y, z, rfl, rfl, ?_⟩
      have := q H4 ((e2.trans e3).trans e4)
      rw [decide_eq_true c, Bool.true_and] at this
      exact this
    · rw [if_neg (by rw [decide_eq_false c]; decide)]
      have := q H3 (e2.trans e3)
      rw [decide_eq_false c, Bool.false_and] at this
      exact this⟩
end
section
variable {P : Program} {w : World} {K : PySem.W.Frag} {mg : Str → Option Value} {base : Heap} {H : Hp} {CF : Addr}
/-! ### Refused.__init__ -/
abbrev s_Refused___init__ : Stmt := (inClass (top 45) 0)
abbrev n_Refused___init__ : List Str := ["self", "code"]
abbrev p_Refused___init__ : List Str := ["self", "code"]
theorem sc_Refused___init__ : FnScope n_Refused___init__ p_Refused___init__ (defScope s_Refused___init__) := ⟨rfl, rfl, rfl, by decide +kernel, rfl, by decide +kernel, by decide +kernel⟩
theorem ok_refI {f : Addr} {fd : FuncData} (F : Fun K "__init__" "Refused.__init__" s_Refused___init__ f fd) (R : Ref K mg CF) (i : PySem.W.findIn K (.ref CF) "__init__" = some (some (.ref f))) (t : PySem.W.typeIn K (.ref f) = some (.type "function")) (b : Binds K fd p_Refused___init__ []) :
    XCallee P w K mg base CF 1 p_Refused___init__ := by
  refine ⟨f, fd, F.ok sc_Refused___init__ (fun vs H Q E h => ?_) (fun cdv A outer s H vs Q E hr h => ⟨_, (pss_one (ps_ost (pv 0) (pv 1))), ?_⟩), i, t, b⟩
  · obtain ⟨a, k, rfl, _⟩ := h
    rfl
  · obtain ⟨a, k, rfl, ha, q⟩ := h
    exact ⟨.int k, rfl, .ref a, rfl, a, CF, rfl, R.oex, R.noC, Or.inl ⟨ha, fun dx h1 h2 => q dx h1 h2⟩⟩
/-! ### need -/
abbrev s_need : Stmt := (top 46)
abbrev n_need : List Str := ["holds", "code"]
abbrev p_need : List Str := ["holds", "code"]
theorem sc_need : FnScope n_need p_need (defScope s_need) := ⟨rfl, rfl, rfl, by decide +kernel, rfl, by decide +kernel, by decide +kernel⟩
def spNeed (CF : Addr) : Sp := fun vs H Q E => ∃ (b : Bool) (k : Int), vs = [.bl b, .int k] ∧ (b = true → RetV .non H Q) ∧ (b = false → RaiseC CF k H E)
theorem sc_need' {b : Bool} {k : Int} : SpC CF (spNeed CF) [.bl b, .int k] H b k := fun H1 e Q E q1 q2 => ⟨b, k, rfl, q1, q2⟩
theorem ok_need (R : Ref K mg CF) (x_Refused : XCallee P w K mg base CF 1 p_Refused___init__) (D : DefIn K mg "need" "need" s_need p_need) : Callee P w K mg base (L2.CX P w) 3 "need" p_need (spNeed CF) := by
  refine calleeX D sc_need (fun vs H Q E h => ?_) (fun f cdv A outer s H vs Q E hr h => ⟨_, (pss_one (ps_if (pt_not (pt_val (pv 0))) (pss_one (ps_raise rfl (takes_of rfl rfl rfl rfl) (pmk_oexC R x_Refused (hr.mono (by decide)) (pa_cons (pv 1) pa_nil)))) pss_nil)), ?_⟩)
  · obtain ⟨a, k, rfl, _⟩ := h
    rfl
  · obtain ⟨b, k, rfl, q1, q2⟩ := h
    refine ⟨.bl b, rfl, b, rfl, ?_⟩
    cases b with
    | true => exact q1 rfl H (Ex.refl H)
    | false =>
      refine ⟨.int k, rfl, (by show 1 ≤ 1000; omega), fun a ha => ⟨a, k, rfl, upd_same, fun dx h1 h2 => ⟨rfl, dx, _, upd_same, by rw [upd_ne h2, upd_same], ?_, ?_⟩⟩⟩
      · rw [upd_ne h2] at h1
        exact h1
      · rw [upd_ne h2] at h1
        refine q2 rfl _ dx (fun c o hc => ?_) upd_same
        have c1 : c ≠ a := ne_of_none hc ha
        have c2 : c ≠ dx := ne_of_none hc h1
        rw [upd_ne c2, del_ne c1, upd_ne c1, upd_ne c2, upd_ne c1]
        exact hc
/-! ### need_within -/
abbrev s_need_within : Stmt := (top 47)
abbrev n_need_within : List Str := ["number", "least", "most"]
abbrev p_need_within : List Str := ["number", "least", "most"]
theorem sc_need_within : FnScope n_need_within p_need_within (defScope s_need_within) := ⟨rfl, rfl, rfl, by decide +kernel, rfl, by decide +kernel, by decide +kernel⟩
def spWithin (CF : Addr) : Sp := fun vs H Q E => ∃ n lo hi : Int, vs = [.int n, .int lo, .int hi] ∧ (Vbecal.within n lo hi = true → RetV .non H Q) ∧ (Vbecal.within n lo hi = false → RaiseC CF (-1) H E)
theorem sc_within {n lo hi : Int} : SpC CF (spWithin CF) [.int n, .int lo, .int hi] H (Vbecal.within n lo hi) (-1) := fun H1 e Q E q1 q2 => ⟨n, lo, hi, rfl, q1, q2⟩
theorem ok_within (T : Bl mg) (c_need : Callee P w K mg base (L2.CX P w) 3 "need" p_need (spNeed CF)) (D : DefIn K mg "need_within" "need_within" s_need_within p_need_within) : Callee P w K mg base (L2.CX P w) 4 "need_within" p_need_within (spWithin CF) := by
  refine calleeX D sc_need_within (fun vs H Q E h => ?_) (fun f cdv A outer s H vs Q E hr h => ⟨_, (pss_one (ps_expr (pe_callC c_need (hr.mono (by decide)) (by rfl) (passes_call (takes_of rfl rfl rfl rfl) (fun _ _ _ _ h => h)) (pa_cons (pe_chain op_le op_le (pv 1) (pv 0) (pv 2)) (pa_cons (pe_glob (v := .int (-1)) rfl T.g_OUT_OF_RANGE ⟨_, rfl⟩) pa_nil))))), ?_⟩)
  · obtain ⟨n, lo, hi, rfl, _⟩ := h
    rfl
  · obtain ⟨n, lo, hi, rfl, q1, q2⟩ := h
    exact s_chk (ea_cons (ev_chain (ev_var rfl) (ev_var rfl) (ev_var rfl)) (ea_cons ev_c ea_nil)) sc_need' (fun hb H1 e1 => q1 hb H1 e1) q2
/-! ### need_list -/
abbrev s_need_list : Stmt := (top 56)
abbrev n_need_list : List Str := ["some", "many", "most", "number"]
abbrev p_need_list : List Str := ["some", "many", "most"]
theorem sc_need_list : FnScope n_need_list p_need_list (defScope s_need_list) := ⟨rfl, rfl, rfl, by decide +kernel, rfl, by decide +kernel, by decide +kernel⟩
def listOk (ns : List Int) (many most : Int) : Bool := (decide (1 ≤ (ns.length : Int)) && decide ((ns.length : Int) ≤ many)) && ns.all fun c => decide (0 ≤ c) && decide (c ≤ most)
def spList (K : PySem.W.Frag) (CF : Addr) : Sp := fun vs H Q E => ∃ (a : Addr) (ns : List Int) (many most : Int), vs = [.ref a, .int many, .int most] ∧ IL K H a ns ∧ ns.length ≤ 20000 ∧ (listOk ns many most = true → RetV .non H Q) ∧ (listOk ns many most = false → RaiseC CF (-1) H E)
theorem sc_list {a : Addr} {ns : List Int} {many most : Int} (h : IL K H a ns) (hl : ns.length ≤ 20000) : SpC CF (spList K CF) [.ref a, .int many, .int most] H (listOk ns many most) (-1) := fun H1 e Q E q1 q2 => ⟨a, ns, many, most, rfl, ex_l e h, hl, q1, q2⟩
theorem ok_list (T : Bl mg) (c_need : Callee P w K mg base (L2.CX P w) 3 "need" p_need (spNeed CF)) (D : DefIn K mg "need_list" "need_list" s_need_list p_need_list) : Callee P w K mg base (L2.CX P w) 4 "need_list" p_need_list (spList K CF) := by
  refine calleeX D sc_need_list (fun vs H Q E h => ?_) (fun f cdv A outer s H vs Q E hr h => ⟨_, (pss_cons (ps_expr (pe_callC c_need (hr.mono (by decide)) (by rfl) (passes_call (takes_of rfl rfl rfl rfl) (fun _ _ _ _ h => h)) (pa_cons (pe_chain op_le op_le pe_int (pe_callB call_len_seq (by rfl) T.b_len PySem.boot_len (pa_cons (pv 0) pa_nil)) (pv 1)) (pa_cons (pe_glob (v := .int (-1)) rfl T.g_OUT_OF_RANGE ⟨_, rfl⟩) pa_nil))))
      (pss_one (ps_expr (pe_callC c_need (hr.mono (by decide)) (by rfl) (passes_call (takes_of rfl rfl rfl rfl) (fun _ _ _ _ h => h)) (pa_cons (pe_callB (r := rAll K) (cr_all rfl) (by rfl) T.b_all (by decide +kernel) (pa_cons (pe_lc (own := [("number", 3)]) (g := gName 3) (tt := tYes) rfl sc_need_list.nd (pi_list (pv 0)) (blkOk_by (N := n_need_list) (sc := defScope s_need_list) (by decide +kernel)) (fun _ _ _ _ _ => (pg_name (i := 3) sc_need_list.nd rfl (Or.inl rfl))) (fun _ _ _ _ _ => pts_nil) (fun _ _ _ _ _ => (pe_chain op_le op_le pe_int (pv 3) (pv 2)))) pa_nil)) (pa_cons (pe_glob (v := .int (-1)) rfl T.g_OUT_OF_RANGE ⟨_, rfl⟩) pa_nil)))))), ?_⟩)
  · obtain ⟨n, lo, hi, _, rfl, _⟩ := h
    rfl
  · obtain ⟨a, ns, many, most, rfl, hx, hl, q1, q2⟩ := h
    have ln := ev_len (K := K) (σ := [some (.ref a), some (.int many), some (.int most), none]) (ev_var (i := 0) rfl) hx
    rw [List.length_map] at ln
    refine q_chk (ea_cons (ev_chain ev_c ln (ev_var rfl)) (ea_cons ev_c ea_nil)) sc_need' (fun hb H1 e1 => ?_) (fun hb => q2 ?_)
    · refine s_chk (ea_cons (ev_allM (K := K) (fun c => decide (0 ≤ c) && decide (c ≤ most)) (el_mapL (fun c => V.bl (decide (0 ≤ c) && decide (c ≤ most))) (ev_var rfl) (ex_l e1 hx) (by omega) (fun _ => rfl) (fun n hn H2 e2 => ev_chain ev_c (ev_var rfl) (ev_var rfl)))) (ea_cons ev_c ea_nil)) sc_need' (fun hb2 H2 e2 => q1 ?_ H2 (e1.trans e2)) (fun hb2 => (q2 ?_).on e1)
      · unfold listOk
        rw [hb, hb2]; rfl
      · unfold listOk
        rw [hb2, Bool.and_false]
    · unfold listOk
      rw [hb]; rfl
/-! ### need_alike -/
abbrev s_need_alike : Stmt := (top 57)
abbrev n_need_alike : List Str := ["one", "other"]
abbrev p_need_alike : List Str := ["one", "other"]
theorem sc_need_alike : FnScope n_need_alike p_need_alike (defScope s_need_alike) := ⟨rfl, rfl, rfl, by decide +kernel, rfl, by decide +kernel, by decide +kernel⟩
def spAlikeN (K : PySem.W.Frag) (CF : Addr) : Sp := fun vs H Q E => ∃ (a b : Addr) (xs ys : List Nat), vs = [.ref a, .ref b] ∧ IL K H a (zs xs) ∧ IL K H b (zs ys) ∧ (decide (xs.length = ys.length) = true → RetV .non H Q) ∧ (decide (xs.length = ys.length) = false → RaiseC CF (-3) H E)
theorem sc_alike' {a b : Addr} {xs ys : List Nat} (hx : IL K H a (zs xs)) (hy : IL K H b (zs ys)) : SpC CF (spAlikeN K CF) [.ref a, .ref b] H (decide (xs.length = ys.length)) (-3) := fun H1 e Q E q1 q2 => ⟨a, b, xs, ys, rfl, ex_l e hx, ex_l e hy, q1, q2⟩
theorem ok_alikeN (T : Bl mg) (c_need : Callee P w K mg base (L2.CX P w) 3 "need" p_need (spNeed CF)) (D : DefIn K mg "need_alike" "need_alike" s_need_alike p_need_alike) : Callee P w K mg base (L2.CX P w) 4 "need_alike" p_need_alike (spAlikeN K CF) := by
  refine calleeX D sc_need_alike (fun vs H Q E h => ?_) (fun f cdv A outer s H vs Q E hr h => ⟨_, (pss_one (ps_expr (pe_callC c_need (hr.mono (by decide)) (by rfl) (passes_call (takes_of rfl rfl rfl rfl) (fun _ _ _ _ h => h)) (pa_cons (pe_cmpR op_eq (pe_callB call_len_seq (by rfl) T.b_len PySem.boot_len (pa_cons (pv 0) pa_nil)) (pe_callB call_len_seq (by rfl) T.b_len PySem.boot_len (pa_cons (pv 1) pa_nil)) (nomark _)) (pa_cons (pe_glob (v := .int (-3)) rfl T.g_UNLIKE_COUNTS ⟨_, rfl⟩) pa_nil))))), ?_⟩)
  · obtain ⟨n, lo, hi, _, rfl, _⟩ := h
    rfl
  · obtain ⟨a, b, xs, ys, rfl, hx, hy, q1, q2⟩ := h
    have l1 := ev_len (K := K) (σ := [some (.ref a), some (.ref b)]) (ev_var (i := 0) rfl) hx
    have l2 := ev_len (K := K) (σ := [some (.ref a), some (.ref b)]) (ev_var (i := 1) rfl) hy
    rw [List.length_map, zs_len] at l1 l2
    have e : (((xs.length : Nat) : Int) == (ys.length : Nat)) = decide (xs.length = ys.length) := by
      by_cases c : xs.length = ys.length
      · rw [c]; simp
      · have : ¬ ((xs.length : Nat) : Int) = (ys.length : Nat) := by omega
        rw [beq_eq_false_iff_ne.mpr this, decide_eq_false c]
    have ev := ev_op (r := rEq) l1 l2 (rv_eq rfl)
    rw [dec_int, e] at ev
    exact s_chk (ea_cons ev (ea_cons ev_c ea_nil)) sc_need' (fun hb H1 e1 => q1 hb H1 e1) q2
end
end Kw


/-! holding.py: the object, its places -/
namespace Kw
open PySem PySem.Spec PyProof.Rows L2 Evl
/-! ### what a call does: refused, or a state and an answer -/
def run (st : Vbecal.State) (d : Vbecal.Call) : Except Int (Vbecal.State × List Int) :=
  if Vbecal.inRange st d = false then .error (-1) else match d with
  | .alike p => if Vbecal.all (st.sample p) < 2 then .error (-2) else .ok (Vbecal.act st (.alike p))
  | .shared p q n m => if (st.sample p).length ≠ (st.sample q).length then .error (-3) else .ok (Vbecal.act st (.shared p q n m))
  | .pool p q r => if (st.sample p).length ≠ (st.sample q).length then .error (-3) else
      if ((List.range (st.sample p).length).map fun i => (st.sample p).getD i 0 + (st.sample q).getD i 0).any (fun c => decide (40 < c)) = true then .error (-4) else .ok (Vbecal.act st (.pool p q r))
  | d => .ok (Vbecal.act st d)
def outc (st : Vbecal.State) : Except Int (Vbecal.State × List Int) → Vbecal.State × List Int
  | .error k => (st, [k])
  | .ok r => r
theorem run_bad {st : Vbecal.State} {d : Vbecal.Call} (h : Vbecal.inRange st d = false) : run st d = .error (-1) := if_pos h
theorem run_is (st : Vbecal.State) (d : Vbecal.Call) : outc st (run st d) = if Vbecal.inRange st d = false then (st, [-1]) else Vbecal.act st d := by
  unfold run
  by_cases h : Vbecal.inRange st d = false
  · rw [if_pos h, if_pos h]; rfl
  · rw [if_neg h, if_neg h]
    cases d with
    | alike p =>
      show outc st (if Vbecal.all (st.sample p) < 2 then _ else _) = if Vbecal.all (st.sample p) < 2 then _ else _
      by_cases c : Vbecal.all (st.sample p) < 2
      · rw [if_pos c, if_pos c]; rfl
      · rw [if_neg c, if_neg c]
        show (if Vbecal.all (st.sample p) < 2 then _ else _) = _
        rw [if_neg c]
    | shared p q n m =>
      show outc st (if (st.sample p).length ≠ (st.sample q).length then _ else _) = if (st.sample p).length ≠ (st.sample q).length then _ else _
      by_cases c : (st.sample p).length ≠ (st.sample q).length
      · rw [if_pos c, if_pos c]; rfl
      · rw [if_neg c, if_neg c]
        show (if (st.sample p).length ≠ (st.sample q).length then _ else _) = _
        rw [if_neg c]
    | pool p q r =>
      show outc st (if (st.sample p).length ≠ (st.sample q).length then _ else _) = if (st.sample p).length ≠ (st.sample q).length then _ else _
      by_cases c : (st.sample p).length ≠ (st.sample q).length
      · rw [if_pos c, if_pos c]; rfl
      · rw [if_neg c, if_neg c]
        try dsimp only
        by_cases c2 : ((List.range (st.sample p).length).map fun i => (st.sample p).getD i 0 + (st.sample q).getD i 0).any (fun c => decide (40 < c)) = true
        · rw [if_pos c2, if_pos c2]; rfl
        · rw [if_neg c2, if_neg c2]
          show (if (st.sample p).length ≠ (st.sample q).length then _ else _) = _
          rw [if_neg c]
          try dsimp only
          rw [if_neg c2]
    | _ => rfl
/-! ### how the object lies in the heap -/
structure CatsAt (C : Addr) (H : Hp) (c s : Addr) (st : Vbecal.State) : Prop where
  ins : ∃ dx t, H c = some (.ins C dx [(("samples" : Str), .ref s), (("sets" : Str), .ref t)]) ∧ t ≠ s ∧ H t = some (.lst ((zs st.plots).map V.int))
  tab : ∃ as : List Addr, H s = some (.lst (as.map V.ref)) ∧ as.length = 4 ∧ ∀ (i : Nat) a, as[i]? = some a → a ≠ s ∧ ∃ xs, st.samples[i]? = some xs ∧ H a = some (.lst ((zs xs).map V.int)) ∧ Smp xs ∧ 0 < xs.sum
  four : st.samples.length = 4
  plots : 1 ≤ st.plots.length ∧ st.plots.length ≤ 30
theorem CatsAt.on {C c s : Addr} {H H' : Hp} {st : Vbecal.State} (h : CatsAt C H c s st) (e : Ex H H') : CatsAt C H' c s st := by
  obtain ⟨⟨dx, t, h1, h2, h3⟩, ⟨as, g1, g2, g3⟩, f, p⟩ := h
  refine ⟨⟨dx, t, e _ _ h1, h2, e _ _ h3⟩, ⟨as, e _ _ g1, g2, fun i a ha => ?_⟩, f, p⟩
  obtain ⟨n, xs, k1, k2, k3⟩ := g3 i a ha
  exact ⟨n, xs, k1, e _ _ k2, k3⟩
/-- the object's own lists: its plots, the samples -/
def Own (C : Addr) (H : Hp) (c s b : Addr) : Prop := (∃ dx fs, H c = some (.ins C dx fs) ∧ List.lookup ("sets" : Str) fs = some (.ref b)) ∨ ∃ xs, H s = some (.lst xs) ∧ V.ref b ∈ xs
/-- what stood and was none of its lists is none behind it -/
def NoNew (C : Addr) (H H' : Hp) (c s : Addr) : Prop := ∀ f o, H f = some o → ¬ Own C H c s f → ¬ Own C H' c s f
theorem Own.back {C c s b : Addr} {H H' : Hp} {st : Vbecal.State} (hc : CatsAt C H c s st) (e : Ex H H') (o : Own C H' c s b) : Own C H c s b := by
  obtain ⟨dx0, t0, i1, _, _⟩ := hc.ins
  obtain ⟨as0, g1, _⟩ := hc.tab
  rcases o with ⟨dx, fs, h1, h2⟩ | ⟨xs, h1, h2⟩
  · have j := e _ _ i1
    rw [h1] at j
    rw [← Option.some.inj j] at i1
    exact .inl ⟨dx, fs, i1, h2⟩
  · have j := e _ _ g1
    rw [h1] at j
    rw [← Option.some.inj j] at g1
    exact .inr ⟨xs, g1, h2⟩
theorem NoNew.of {C c s : Addr} {H H' : Hp} {st : Vbecal.State} (hc : CatsAt C H c s st) (e : Ex H H') : NoNew C H H' c s := fun _ _ _ hn ho => hn (ho.back hc e)
/-- it ends by a list xs, the object behind it in the state st' -/
def Done (C c s : Addr) (st' : Vbecal.State) (xs : List Int) (H : Hp) (Q : VK) : Prop := ∀ p H', H' p = some (.lst (xs.map V.int)) → CatsAt C H' c s st' → (∀ b o, H b = some o → b ≠ c → b ≠ s → H' b = some o) → NoNew C H H' c s → Q (.ref p) H'
def Outc (C CF c s : Addr) (r : Except Int (Vbecal.State × List Int)) (H : Hp) (Q : VK) (E : XK) : Prop := match r with
  | .error k => RaiseC CF k H E
  | .ok r => Done C c s r.1 r.2 H Q
section
variable {C CF c s : Addr} {st : Vbecal.State} {d : Vbecal.Call} {H H' : Hp} {Q : VK} {E : XK} {k : Int} {xs : List Int} {p : Addr}
theorem Outc.bad (o : Outc C CF c s (run st d) H Q E) (h : run st d = .error k) : RaiseC CF k H E := by
  rw [h] at o
  exact o
theorem Outc.range (o : Outc C CF c s (run st d) H Q E) (h : Vbecal.inRange st d = false) : RaiseC CF (-1) H E := o.bad (run_bad h)
theorem Outc.good (o : Outc C CF c s (run st d) H Q E) (h : run st d = .ok (st, xs)) (hc : CatsAt C H c s st) (e : Ex H H') (hp : H' p = some (.lst (xs.map V.int))) : Q (.ref p) H' := by
  rw [h] at o
  exact o p H' hp (hc.on e) (fun b o hb _ _ => e b o hb) (.of hc e)
end
theorem not_false {b : Bool} (h : b = true) : ¬ b = false := by rw [h]; decide
def wordsV : List V := [.str "put", .str "told", .str "size", .str "expected", .str "variance", .str "ways", .str "times", .str "powers", .str "alike", .str "evener", .str "richer", .str "turns", .str "shared", .str "pool", .str "plots", .str "over plots"]
def plainV : List V := [.int 1, .int 1, .int 1, .int 2, .int 2, .int 2, .int 3, .int 2, .int 1, .int 2, .int 3, .int 2, .int 4, .int 3, .int 0, .int 1]
def withV : List V := [.str "put", .str "plots"]
/-- what the top has written of the classes -/
structure Txt (K : PySem.W.Frag) (mg : Str → Option Value) (C CC CF : Addr) extends Bl mg where
  cl : Cls K C
  nS : NoAttr K C "samples"
  nT : NoAttr K C "sets"
  clc : Cls K CC
  nW : NoAttr K CC "word"
  nN : NoAttr K CC "numbers"
  nO : NoAttr K CC "some"
  nE : NoAttr K CC "end"
  ref : Ref K mg CF
  a_WORDS : Addr
  g_WORDS : mg "WORDS" = some (.ref a_WORDS)
  s_WORDS : ∀ H : Hp, SqT K H a_WORDS wordsV
  a_PLAIN : Addr
  g_PLAIN : mg "PLAIN" = some (.ref a_PLAIN)
  s_PLAIN : ∀ H : Hp, SqT K H a_PLAIN plainV
  a_WITH_LIST : Addr
  g_WITH_LIST : mg "WITH_LIST" = some (.ref a_WITH_LIST)
  s_WITH_LIST : ∀ H : Hp, SqT K H a_WITH_LIST withV
section
variable {K : PySem.W.Frag} {σ : L2.St} {H : Hp} {ta tb te : TE} {C c dx a : Addr} {fs : List (Str × V)} {f : Str} {v : V} {t : TA} {s CF : Addr} {st : Vbecal.State} {Q : VK} {E : XK}
theorem ev_fld (h : Ev ta σ H (.ref a)) (ho : H a = some (.ins C dx fs)) (hc : Cls K C) (hn : NoAttr K C f) (hl : fs.lookup f = some v) : Ev (tFld K ta f) σ H v := fun H1 e _ q =>
  h H1 e _ fun H2 e2 => ⟨a, C, dx, fs, v, rfl, e2 _ _ (e _ _ ho), hc, hn, hl, q H2 e2⟩
theorem lk_here {k : Str} {v : V} {r : List (Str × V)} : List.lookup k ((k, v) :: r) = some v := by
  have e : (k == k) = true := beq_self_eq_true k
  simp only [List.lookup, e]
theorem lk_past {k g : Str} {v : V} {r : List (Str × V)} (h : (k == g) = false) : List.lookup k ((g, v) :: r) = List.lookup k r := by
  simp only [List.lookup, h]
theorem lk_none {m : Str} {x y : V} (h1 : (m == ("samples" : Str)) = false) (h2 : (m == ("sets" : Str)) = false) : List.lookup m [(("samples" : Str), x), (("sets" : Str), y)] = none := (lk_past h1).trans ((lk_past h2).trans rfl)
theorem lk_sets {x y : V} : List.lookup ("sets" : Str) [(("samples" : Str), x), (("sets" : Str), y)] = some y := (lk_past (by decide +kernel)).trans lk_here
theorem sample_of {p : Int} {xs : List Nat} (h : st.samples[p.toNat]? = some xs) : st.sample p = xs := by
  unfold Vbecal.State.sample
  rw [List.getD_eq_getElem?_getD, h]; rfl
theorem within_iff {n lo hi : Int} : Vbecal.within n lo hi = true ↔ lo ≤ n ∧ n ≤ hi := by
  unfold Vbecal.within
  rw [Bool.and_eq_true, decide_eq_true_iff, decide_eq_true_iff]
/-- the sample at a place -/
def spAt (C CF : Addr) : Sp := fun vs H Q E => ∃ (c s : Addr) (st : Vbecal.State) (p : Int), vs = [.ref c, .int p] ∧ CatsAt C H c s st ∧
  (Vbecal.isPlace p = true → ∀ a xs H', Ex H H' → st.samples[p.toNat]? = some xs → H' a = some (.lst ((zs xs).map V.int)) → Smp xs → 0 < xs.sum → Q (.ref a) H') ∧ (Vbecal.isPlace p = false → RaiseC CF (-1) H E)
def spAtW (C CF : Addr) : Sp := fun vs H Q E => ∃ (c s : Addr) (st : Vbecal.State) (p n : Int), vs = [.ref c, .int p, .int n] ∧ CatsAt C H c s st ∧
  (Vbecal.part st p n = true → ∀ a xs H', Ex H H' → st.samples[p.toNat]? = some xs → H' a = some (.lst ((zs xs).map V.int)) → Smp xs → 0 < xs.sum → 0 ≤ n → n ≤ (xs.sum : Int) → Q (.ref a) H') ∧ (Vbecal.part st p n = false → RaiseC CF (-1) H E)
theorem m_at {p : Int} (hc : CatsAt C H c s st) (h0 : σ[0]? = some (some (.ref c))) (ht : EvA t σ H [.int p])
    (ok : Vbecal.isPlace p = true → ∀ a xs H', Ex H H' → st.samples[p.toNat]? = some xs → H' a = some (.lst ((zs xs).map V.int)) → Smp xs → 0 < xs.sum → Q (.ref a) H') (bad : Vbecal.isPlace p = false → RaiseC CF (-1) H E) :
    tMeth C "at" (spAt C CF) [] E (tVar 0) t σ H Q := by
  obtain ⟨dx, t', h1, h2, h3⟩ := hc.ins
  exact ⟨.ref c, h0, c, dx, _, rfl, h1, lk_none (by decide +kernel) (by decide +kernel), ht H (Ex.refl H) _ fun H1 e1 => ⟨c, s, st, p, rfl, hc.on e1, fun hp a xs H' e => ok hp a xs H' (e1.trans e), fun hp => (bad hp).on e1⟩⟩
theorem m_atw {p n : Int} (hc : CatsAt C H c s st) (h0 : σ[0]? = some (some (.ref c))) (ht : EvA t σ H [.int p, .int n])
    (ok : Vbecal.part st p n = true → ∀ a xs H', Ex H H' → st.samples[p.toNat]? = some xs → H' a = some (.lst ((zs xs).map V.int)) → Smp xs → 0 < xs.sum → 0 ≤ n → n ≤ (xs.sum : Int) → Q (.ref a) H') (bad : Vbecal.part st p n = false → RaiseC CF (-1) H E) :
    tMeth C "at_with" (spAtW C CF) [] E (tVar 0) t σ H Q := by
  obtain ⟨dx, t', h1, h2, h3⟩ := hc.ins
  exact ⟨.ref c, h0, c, dx, _, rfl, h1, lk_none (by decide +kernel) (by decide +kernel), ht H (Ex.refl H) _ fun H1 e1 => ⟨c, s, st, p, n, rfl, hc.on e1, fun hp a xs H' e => ok hp a xs H' (e1.trans e), fun hp => (bad hp).on e1⟩⟩
end
section
variable {P : Program} {w : World} {K : PySem.W.Frag} {mg : Str → Option Value} {base : Heap} {H : Hp} {C CC CF : Addr}
/-! ### at -/
abbrev s_Catches_at : Stmt := (inClass (top 58) 1)
abbrev n_Catches_at : List Str := ["self", "place"]
abbrev p_Catches_at : List Str := ["self", "place"]
theorem sc_Catches_at : FnScope n_Catches_at p_Catches_at (defScope s_Catches_at) := ⟨rfl, rfl, rfl, by decide +kernel, rfl, by decide +kernel, by decide +kernel⟩
theorem ok_at (T : Txt K mg C CC CF) (c_need_within : Callee P w K mg base (L2.CX P w) 4 "need_within" p_need_within (spWithin CF)) (D : MDefIn K C "at" "Catches.at" s_Catches_at p_Catches_at) :
    MCallee P w K mg base (L2.CX P w) C 5 "at" p_Catches_at (spAt C CF) := by
  refine mcallee D sc_Catches_at (fun vs H Q E h => ?_) (fun f cdv A outer s H vs Q E hr h => ⟨_, (pss_cons (ps_expr (pe_callC c_need_within (hr.mono (by decide)) (by rfl) (passes_call (takes_of rfl rfl rfl rfl) (fun _ _ _ _ h => h)) (pa_cons (pv 1) (pa_cons pe_int (pa_cons (pe_op op_sub (pe_glob (v := .int (4)) rfl T.g_PLACES ⟨_, rfl⟩) pe_int) pa_nil)))))
      (pss_one (ps_ret (pe_ix (r := rIxL K) ix_list (pe_fld (pv 0) rfl) (pv 1) (fun _ _ => rfl))))), ?_⟩)
  · obtain ⟨n, lo, hi, _, rfl, _⟩ := h
    rfl
  · obtain ⟨c, s, st, p, rfl, hc, ok, bad⟩ := h
    refine q_chk (ea_cons (ev_var rfl) (ea_cons ev_c (ea_cons (ev_op ev_c ev_c rv_I0) ea_nil))) sc_within (fun hb H1 e1 => ?_) bad
    have hc1 := hc.on e1
    obtain ⟨dx, t, h1, h2, h3⟩ := hc1.ins
    obtain ⟨as, g1, g2, g3⟩ := hc1.tab
    obtain ⟨p0, p3⟩ := within_iff.mp hb
    have p3 : p ≤ 3 := p3
    have hl : p.toNat < as.length := by omega
    obtain ⟨a, ha⟩ : ∃ a, as[p.toNat]? = some a := ⟨as[p.toNat], by simp [hl]⟩
    obtain ⟨na, xs, k1, k2, k3, k4⟩ := g3 _ _ ha
    refine s_ret (ev_op (ev_fld (ev_var rfl) h1 T.cl T.nS lk_here) (ev_var rfl) (rv_ixL (sq_of g1) (at_of (j := p.toNat) (by omega) (refs_at ha)))) fun H2 e2 => ?_
    exact ok hb a xs H2 (e1.trans e2) k1 (e2 _ _ k2) k3 k4
/-! ### at_with -/
abbrev s_Catches_at_with : Stmt := (inClass (top 58) 2)
abbrev n_Catches_at_with : List Str := ["self", "place", "n", "sample"]
abbrev p_Catches_at_with : List Str := ["self", "place", "n"]
theorem sc_Catches_at_with : FnScope n_Catches_at_with p_Catches_at_with (defScope s_Catches_at_with) := ⟨rfl, rfl, rfl, by decide +kernel, rfl, by decide +kernel, by decide +kernel⟩
theorem ok_atw (T : Txt K mg C CC CF) (c_size : Callee P w K mg base CX0 1 "size" p_size (spSize K)) (c_need_within : Callee P w K mg base (L2.CX P w) 4 "need_within" p_need_within (spWithin CF)) (m_at : MCallee P w K mg base (L2.CX P w) C 5 "at" p_Catches_at (spAt C CF))
    (D : MDefIn K C "at_with" "Catches.at_with" s_Catches_at_with p_Catches_at_with) : MCallee P w K mg base (L2.CX P w) C 6 "at_with" p_Catches_at_with (spAtW C CF) := by
  refine mcallee D sc_Catches_at_with (fun vs H Q E h => ?_) (fun f cdv A outer s H vs Q E hr h => ⟨_, (pss_cons (ps_set (i := 3) sc_Catches_at_with.nd rfl (Or.inl rfl) (pe_methC T.cl m_at (pv 0) (hr.mono (by decide)) (passes_call (takes_of rfl rfl rfl rfl) (fun _ _ _ _ h => h)) (pa_cons (pv 1) pa_nil)))
      (pss_cons (ps_expr (pe_callC c_need_within (hr.mono (by decide)) (by rfl) (passes_call (takes_of rfl rfl rfl rfl) (fun _ _ _ _ h => h)) (pa_cons (pv 2) (pa_cons pe_int (pa_cons (pe_callC c_size (hr.mono (by decide)) (by rfl) pass0 (pa_cons (pv 3) pa_nil)) pa_nil)))))
      (pss_one (ps_ret (pv 3))))), ?_⟩)
  · obtain ⟨n, lo, hi, _, _, rfl, _⟩ := h
    rfl
  · obtain ⟨c, s, st, p, n, rfl, hc, ok, bad⟩ := h
    refine Kw.m_at hc rfl (ea_cons (ev_var rfl) ea_nil) (fun hp a xs H1 e1 k1 k2 k3 k4 => ?_) (fun hp => bad (by unfold Vbecal.part; rw [hp]; rfl))
    have pt : Vbecal.part st p n = Vbecal.within n 0 (xs.sum : Nat) := by
      unfold Vbecal.part
      rw [hp, sample_of k1, Kc.all_eq]; rfl
    refine q_chk (ea_cons (ev_var rfl) (ea_cons ev_c (ea_cons (ev_call (ea_cons (ev_var rfl) ea_nil) (sv_size (sq_of k2))) ea_nil))) sc_within (fun hb H2 e2 => ?_) (fun hb => (bad (pt.trans hb)).on e1)
    obtain ⟨n0, n1⟩ := within_iff.mp hb
    exact s_ret (ev_var rfl) fun H3 e3 => ok (pt.trans hb) a xs H3 ((e1.trans e2).trans e3) k1 (e3 _ _ (e2 _ _ k2)) k3 k4 n0 n1
end
end Kw


/-! holding.py: the calls that change nothing -/
namespace Kw
open PySem PySem.Spec PyProof.Rows L2 Evl
def sp1 (C CF : Addr) (f : Int → Vbecal.Call) : Sp := fun vs H Q E => ∃ (c s : Addr) (st : Vbecal.State) (p : Int), vs = [.ref c, .int p] ∧ CatsAt C H c s st ∧ Outc C CF c s (run st (f p)) H Q E
def sp2 (C CF : Addr) (f : Int → Int → Vbecal.Call) : Sp := fun vs H Q E => ∃ (c s : Addr) (st : Vbecal.State) (p q : Int), vs = [.ref c, .int p, .int q] ∧ CatsAt C H c s st ∧ Outc C CF c s (run st (f p q)) H Q E
def sp3 (C CF : Addr) (f : Int → Int → Int → Vbecal.Call) : Sp := fun vs H Q E => ∃ (c s : Addr) (st : Vbecal.State) (p q r : Int), vs = [.ref c, .int p, .int q, .int r] ∧ CatsAt C H c s st ∧ Outc C CF c s (run st (f p q r)) H Q E
def spSh (K : PySem.W.Frag) (C CF : Addr) : Sp := fun vs H Q E => ∃ (c s l : Addr) (st : Vbecal.State) (p q n m : Int), vs = [.ref c, .ref l] ∧ IL K H l [p, q, n, m] ∧ CatsAt C H c s st ∧ Outc C CF c s (run st (.shared p q n m)) H Q E
theorem part_place {st : Vbecal.State} {p n : Int} (h : Vbecal.part st p n = true) : Vbecal.isPlace p = true := (Bool.and_eq_true_iff.mp h).1
theorem nat_of {n : Int} (h : 0 ≤ n) : ∃ k : Nat, n = (k : Int) := ⟨n.toNat, (Int.toNat_of_nonneg h).symm⟩
theorem il_of {H : Hp} {K : PySem.W.Frag} {a : Addr} {xs : List Nat} (h : H a = some (.lst ((zs xs).map V.int))) : IL K H a (zs xs) := sq_of h
theorem ev_intB {σ : L2.St} {H : Hp} {ta : TE} {b : Bool} (h : Ev ta σ H (.bl b)) : Ev (tCB (fun xs H Q => (∃ i, xs = [.int i] ∧ Q (.int i) H) ∨ ∃ k, xs = [.bl k] ∧ Q (.int (if k then 1 else 0)) H) (tCons ta tNil)) σ H (.int (if b then 1 else 0)) := fun H1 e Q q =>
  h H1 e _ fun H2 e2 => Or.inr ⟨b, rfl, q H2 e2⟩
section
variable {P : Program} {w : World} {K : PySem.W.Frag} {mg : Str → Option Value} {base : Heap} {H : Hp} {C CC CF : Addr}
/-! ### told -/
abbrev s_Catches_told : Stmt := (inClass (top 58) 4)
abbrev n_Catches_told : List Str := ["self", "place", "sample"]
abbrev p_Catches_told : List Str := ["self", "place"]
theorem sc_Catches_told : FnScope n_Catches_told p_Catches_told (defScope s_Catches_told) := ⟨rfl, rfl, rfl, by decide +kernel, rfl, by decide +kernel, by decide +kernel⟩
theorem ok_mtold (T : Txt K mg C CC CF) (m_at : MCallee P w K mg base (L2.CX P w) C 5 "at" p_Catches_at (spAt C CF)) (D : MDefIn K C "told" "Catches.told" s_Catches_told p_Catches_told) :
    MCallee P w K mg base (L2.CX P w) C 7 "told" p_Catches_told (sp1 C CF .told) := by
  refine mcallee D sc_Catches_told (fun vs H Q E h => ?_) (fun f cdv A outer s H vs Q E hr h => ⟨_, (pss_cons (ps_set (i := 2) sc_Catches_told.nd rfl (Or.inl rfl) (pe_methC T.cl m_at (pv 0) (hr.mono (by decide)) (passes_call (takes_of rfl rfl rfl rfl) (fun _ _ _ _ h => h)) (pa_cons (pv 1) pa_nil)))
      (pss_one (ps_ret (pe_op op_cat (pe_lst (pa_cons (pe_callB call_len_seq (by rfl) T.b_len PySem.boot_len (pa_cons (pv 2) pa_nil)) pa_nil)) (pv 2))))), ?_⟩)
  · obtain ⟨_, _, _, _, rfl, _⟩ := h
    rfl
  · obtain ⟨c, s, st, p, rfl, hc, o⟩ := h
    refine Kw.m_at hc rfl (ea_cons (ev_var rfl) ea_nil) (fun hp a xs H1 e1 k1 k2 k3 k4 => ?_) (fun hp => o.range hp)
    have r : run st (.told p) = .ok (st, Vbecal.counted xs) := (if_neg (not_false hp)).trans (by rw [← sample_of k1]; rfl)
    have h8 := k3.len
    refine s_retL (el_cat2 (el_lst (ea_cons (ev_len (K := K) (ev_var rfl) (sq_of k2)) ea_nil) (by show 1 ≤ 100000; omega)) (ev_var rfl) k2 (by rw [List.length_map, zs_len]; show 1 + xs.length ≤ 100000; omega)) fun q H2 hq e2 h2 => o.good r hc (e1.trans e2) ?_
    rw [h2, List.length_map, zs_len]; rfl
/-! ### size -/
abbrev s_Catches_size_told : Stmt := (inClass (top 58) 5)
abbrev n_Catches_size_told : List Str := ["self", "place", "sample"]
abbrev p_Catches_size_told : List Str := ["self", "place"]
theorem sc_Catches_size_told : FnScope n_Catches_size_told p_Catches_size_told (defScope s_Catches_size_told) := ⟨rfl, rfl, rfl, by decide +kernel, rfl, by decide +kernel, by decide +kernel⟩
theorem ok_msize (T : Txt K mg C CC CF) (c_size : Callee P w K mg base CX0 1 "size" p_size (spSize K)) (c_kinds_there : Callee P w K mg base CX0 1 "kinds_there" p_kinds_there (spKinds K)) (m_at : MCallee P w K mg base (L2.CX P w) C 5 "at" p_Catches_at (spAt C CF))
    (D : MDefIn K C "size_told" "Catches.size_told" s_Catches_size_told p_Catches_size_told) : MCallee P w K mg base (L2.CX P w) C 7 "size_told" p_Catches_size_told (sp1 C CF .size) := by
  refine mcallee D sc_Catches_size_told (fun vs H Q E h => ?_) (fun f cdv A outer s H vs Q E hr h => ⟨_, (pss_cons (ps_set (i := 2) sc_Catches_size_told.nd rfl (Or.inl rfl) (pe_methC T.cl m_at (pv 0) (hr.mono (by decide)) (passes_call (takes_of rfl rfl rfl rfl) (fun _ _ _ _ h => h)) (pa_cons (pv 1) pa_nil)))
      (pss_one (ps_ret (pe_lst (pa_cons (pe_callC c_size (hr.mono (by decide)) (by rfl) pass0 (pa_cons (pv 2) pa_nil)) (pa_cons (pe_callC c_kinds_there (hr.mono (by decide)) (by rfl) pass0 (pa_cons (pv 2) pa_nil)) pa_nil)))))), ?_⟩)
  · obtain ⟨_, _, _, _, rfl, _⟩ := h
    rfl
  · obtain ⟨c, s, st, p, rfl, hc, o⟩ := h
    refine Kw.m_at hc rfl (ea_cons (ev_var rfl) ea_nil) (fun hp a xs H1 e1 k1 k2 k3 k4 => ?_) (fun hp => o.range hp)
    have r : run st (.size p) = .ok (st, [(xs.sum : Int), (Vbecal.kinds xs : Int)]) := (if_neg (not_false hp)).trans (by rw [← sample_of k1, ← Kc.all_eq]; rfl)
    exact s_retL (el_lst (ea_cons (ev_call (ea_cons (ev_var rfl) ea_nil) (sv_size (il_of k2))) (ea_cons (ev_call (ea_cons (ev_var rfl) ea_nil) (sv_kinds (il_of k2) k3.len)) ea_nil)) (by show 2 ≤ 100000; omega)) fun q H2 hq e2 h2 => o.good r hc (e1.trans e2) h2
/-! ### expected -/
abbrev s_Catches_expected : Stmt := (inClass (top 58) 6)
abbrev n_Catches_expected : List Str := ["self", "place", "n"]
abbrev p_Catches_expected : List Str := ["self", "place", "n"]
theorem sc_Catches_expected : FnScope n_Catches_expected p_Catches_expected (defScope s_Catches_expected) := ⟨rfl, rfl, rfl, by decide +kernel, rfl, by decide +kernel, by decide +kernel⟩
theorem ok_mexpected (T : Txt K mg C CC CF) (c_expected_parts : Callee P w K mg base CX0 5 "expected_parts" p_expected (spExpected K)) (m_at_with : MCallee P w K mg base (L2.CX P w) C 6 "at_with" p_Catches_at_with (spAtW C CF))
    (D : MDefIn K C "expected" "Catches.expected" s_Catches_expected p_Catches_expected) : MCallee P w K mg base (L2.CX P w) C 7 "expected" p_Catches_expected (sp2 C CF .expected) := by
  refine mcallee D sc_Catches_expected (fun vs H Q E h => ?_) (fun f cdv A outer s H vs Q E hr h => ⟨_, (pss_one (ps_ret (pe_callC c_expected_parts (hr.mono (by decide)) (by rfl) pass0 (pa_cons (pe_methC T.cl m_at_with (pv 0) (hr.mono (by decide)) (passes_call (takes_of rfl rfl rfl rfl) (fun _ _ _ _ h => h)) (pa_cons (pv 1) (pa_cons (pv 2) pa_nil))) (pa_cons (pv 2) pa_nil))))), ?_⟩)
  · obtain ⟨_, _, _, _, _, rfl, _⟩ := h
    rfl
  · obtain ⟨c, s, st, p, n, rfl, hc, o⟩ := h
    refine Kw.m_atw hc rfl (ea_cons (ev_var rfl) (ea_cons (ev_var rfl) ea_nil)) (fun hp a xs H1 e1 k1 k2 k3 k4 n0 n1 => ?_) (fun hp => o.range hp)
    obtain ⟨n, rfl⟩ := nat_of n0
    have r : run st (.expected p n) = .ok (st, Kc.expectedM xs n) := (if_neg (not_false hp)).trans (by rw [← Kc.expected_is (by omega), ← sample_of k1]; rfl)
    exact ⟨_, rfl, sl_expected (K := K) (il_of k2) k3 (show n ≤ xs.sum by omega) H1 (Ex.refl H1) _ (fun q H2 hq e2 h2 => o.good r hc (e1.trans e2) h2) E0⟩
/-! ### variance -/
abbrev s_Catches_variance : Stmt := (inClass (top 58) 7)
abbrev n_Catches_variance : List Str := ["self", "place", "n"]
abbrev p_Catches_variance : List Str := ["self", "place", "n"]
theorem sc_Catches_variance : FnScope n_Catches_variance p_Catches_variance (defScope s_Catches_variance) := ⟨rfl, rfl, rfl, by decide +kernel, rfl, by decide +kernel, by decide +kernel⟩
theorem ok_mvariance (T : Txt K mg C CC CF) (c_variance_parts : Callee P w K mg base CX0 5 "variance_parts" p_variance (spVariance K)) (m_at_with : MCallee P w K mg base (L2.CX P w) C 6 "at_with" p_Catches_at_with (spAtW C CF))
    (D : MDefIn K C "variance" "Catches.variance" s_Catches_variance p_Catches_variance) : MCallee P w K mg base (L2.CX P w) C 7 "variance" p_Catches_variance (sp2 C CF .variance) := by
  refine mcallee D sc_Catches_variance (fun vs H Q E h => ?_) (fun f cdv A outer s H vs Q E hr h => ⟨_, (pss_one (ps_ret (pe_callC c_variance_parts (hr.mono (by decide)) (by rfl) pass0 (pa_cons (pe_methC T.cl m_at_with (pv 0) (hr.mono (by decide)) (passes_call (takes_of rfl rfl rfl rfl) (fun _ _ _ _ h => h)) (pa_cons (pv 1) (pa_cons (pv 2) pa_nil))) (pa_cons (pv 2) pa_nil))))), ?_⟩)
  · obtain ⟨_, _, _, _, _, rfl, _⟩ := h
    rfl
  · obtain ⟨c, s, st, p, n, rfl, hc, o⟩ := h
    refine Kw.m_atw hc rfl (ea_cons (ev_var rfl) (ea_cons (ev_var rfl) ea_nil)) (fun hp a xs H1 e1 k1 k2 k3 k4 n0 n1 => ?_) (fun hp => o.range hp)
    obtain ⟨n, rfl⟩ := nat_of n0
    have r : run st (.variance p n) = .ok (st, Kc.varianceM xs n) := (if_neg (not_false hp)).trans (by rw [← Kc.variance_is (by omega), ← sample_of k1]; rfl)
    exact ⟨_, rfl, sl_variance (K := K) (il_of k2) k3 (show n ≤ xs.sum by omega) H1 (Ex.refl H1) _ (fun q H2 hq e2 h2 => o.good r hc (e1.trans e2) h2) E0⟩
/-! ### ways -/
abbrev s_Catches_ways_told : Stmt := (inClass (top 58) 8)
abbrev n_Catches_ways_told : List Str := ["self", "place", "n", "sample"]
abbrev p_Catches_ways_told : List Str := ["self", "place", "n"]
theorem sc_Catches_ways_told : FnScope n_Catches_ways_told p_Catches_ways_told (defScope s_Catches_ways_told) := ⟨rfl, rfl, rfl, by decide +kernel, rfl, by decide +kernel, by decide +kernel⟩
theorem ok_mways (T : Txt K mg C CC CF) (c_ways : Callee P w K mg base CX0 3 "ways" p_ways (spWays K)) (c_need_within : Callee P w K mg base (L2.CX P w) 4 "need_within" p_need_within (spWithin CF)) (m_at_with : MCallee P w K mg base (L2.CX P w) C 6 "at_with" p_Catches_at_with (spAtW C CF))
    (D : MDefIn K C "ways_told" "Catches.ways_told" s_Catches_ways_told p_Catches_ways_told) : MCallee P w K mg base (L2.CX P w) C 7 "ways_told" p_Catches_ways_told (sp2 C CF .ways) := by
  refine mcallee D sc_Catches_ways_told (fun vs H Q E h => ?_) (fun f cdv A outer s H vs Q E hr h => ⟨_, (pss_cons (ps_set (i := 3) sc_Catches_ways_told.nd rfl (Or.inl rfl) (pe_methC T.cl m_at_with (pv 0) (hr.mono (by decide)) (passes_call (takes_of rfl rfl rfl rfl) (fun _ _ _ _ h => h)) (pa_cons (pv 1) (pa_cons (pv 2) pa_nil))))
      (pss_cons (ps_expr (pe_callC c_need_within (hr.mono (by decide)) (by rfl) (passes_call (takes_of rfl rfl rfl rfl) (fun _ _ _ _ h => h)) (pa_cons (pv 2) (pa_cons pe_int (pa_cons (pe_glob (v := .int (60)) rfl T.g_MOST_WAYS ⟨_, rfl⟩) pa_nil)))))
      (pss_one (ps_ret (pe_op op_cat (pe_lst (pa_cons (pe_op op_add (pe_callB call_len_seq (by rfl) T.b_len PySem.boot_len (pa_cons (pv 3) pa_nil)) pe_int) pa_nil)) (pe_callC c_ways (hr.mono (by decide)) (by rfl) pass0 (pa_cons (pv 3) (pa_cons (pv 2) pa_nil)))))))), ?_⟩)
  · obtain ⟨_, _, _, _, _, rfl, _⟩ := h
    rfl
  · obtain ⟨c, s, st, p, n, rfl, hc, o⟩ := h
    have rg : Vbecal.inRange st (.ways p n) = (Vbecal.part st p n && Vbecal.within n 0 60) := rfl
    refine Kw.m_atw hc rfl (ea_cons (ev_var rfl) (ea_cons (ev_var rfl) ea_nil)) (fun hp a xs H1 e1 k1 k2 k3 k4 n0 n1 => ?_) (fun hp => o.range (by rw [rg, hp]; rfl))
    refine q_chk (ea_cons (ev_var rfl) (ea_cons ev_c (ea_cons ev_c ea_nil))) sc_within (fun hb H2 e2 => ?_) (fun hb => (o.range (by rw [rg, hp, hb]; rfl)).on e1)
    obtain ⟨n, rfl⟩ := nat_of n0
    have hw : Kc.waysM xs n = Vbecal.ints (Vbecal.ways xs n) := (Kc.ways_is xs n).symm
    have hl : (Vbecal.ways xs n).length = xs.length + 1 := by
      have := Kc.ways_len xs n
      rw [hw] at this
      exact (List.length_map ..).symm.trans this
    have r : run st (.ways p n) = .ok (st, ((xs.length + 1 : Nat) : Int) :: Kc.waysM xs n) := (if_neg (not_false (by rw [rg, hp, hb]; rfl))).trans (by
      rw [hw, ← hl, ← sample_of k1]; rfl)
    have h8 := k3.len
    have k2' := e2 _ _ k2
    have ln := ev_len (K := K) (σ := [some (.ref c), some (.int p), some (.int (n : Int)), some (.ref a)]) (ev_var (i := 3) rfl) (sq_of k2')
    rw [List.length_map, zs_len] at ln
    refine s_retL (el_cat3 (el_lst (ea_cons (ev_op ln ev_c rv_I0) ea_nil) (by show 1 ≤ 100000; omega)) (el_call (ea_cons (ev_var rfl) (ea_cons (ev_var rfl) ea_nil)) (sl_ways (il_of k2') k3 (by have := k3.sum; omega))) (by rw [List.length_map, Kc.ways_len]; show 1 + (xs.length + 1) ≤ 100000; omega)) fun q H3 hq e3 h3 => o.good r hc ((e1.trans e2).trans e3) ?_
    rw [h3, Int.natCast_add]; rfl
/-! ### times -/
abbrev s_Catches_times : Stmt := (inClass (top 58) 9)
abbrev n_Catches_times : List Str := ["self", "place", "n", "j", "sample"]
abbrev p_Catches_times : List Str := ["self", "place", "n", "j"]
theorem sc_Catches_times : FnScope n_Catches_times p_Catches_times (defScope s_Catches_times) := ⟨rfl, rfl, rfl, by decide +kernel, rfl, by decide +kernel, by decide +kernel⟩
theorem ok_mtimes (T : Txt K mg C CC CF) (c_times_parts : Callee P w K mg base CX0 3 "times_parts" p_times (spTimes K)) (c_need_within : Callee P w K mg base (L2.CX P w) 4 "need_within" p_need_within (spWithin CF)) (m_at_with : MCallee P w K mg base (L2.CX P w) C 6 "at_with" p_Catches_at_with (spAtW C CF))
    (D : MDefIn K C "times" "Catches.times" s_Catches_times p_Catches_times) : MCallee P w K mg base (L2.CX P w) C 7 "times" p_Catches_times (sp3 C CF .metTimes) := by
  refine mcallee D sc_Catches_times (fun vs H Q E h => ?_) (fun f cdv A outer s H vs Q E hr h => ⟨_, (pss_cons (ps_set (i := 4) sc_Catches_times.nd rfl (Or.inl rfl) (pe_methC T.cl m_at_with (pv 0) (hr.mono (by decide)) (passes_call (takes_of rfl rfl rfl rfl) (fun _ _ _ _ h => h)) (pa_cons (pv 1) (pa_cons (pv 2) pa_nil))))
      (pss_cons (ps_expr (pe_callC c_need_within (hr.mono (by decide)) (by rfl) (passes_call (takes_of rfl rfl rfl rfl) (fun _ _ _ _ h => h)) (pa_cons (pv 3) (pa_cons pe_int (pa_cons (pv 2) pa_nil)))))
      (pss_one (ps_ret (pe_callC c_times_parts (hr.mono (by decide)) (by rfl) pass0 (pa_cons (pv 4) (pa_cons (pv 2) (pa_cons (pv 3) pa_nil)))))))), ?_⟩)
  · obtain ⟨_, _, _, _, _, _, rfl, _⟩ := h
    rfl
  · obtain ⟨c, s, st, p, n, j, rfl, hc, o⟩ := h
    have rg : Vbecal.inRange st (.metTimes p n j) = (Vbecal.part st p n && Vbecal.within j 0 n) := rfl
    refine Kw.m_atw hc rfl (ea_cons (ev_var rfl) (ea_cons (ev_var rfl) ea_nil)) (fun hp a xs H1 e1 k1 k2 k3 k4 n0 n1 => ?_) (fun hp => o.range (by rw [rg, hp]; rfl))
    refine q_chk (ea_cons (ev_var rfl) (ea_cons ev_c (ea_cons (ev_var rfl) ea_nil))) sc_within (fun hb H2 e2 => ?_) (fun hb => (o.range (by rw [rg, hp, hb]; rfl)).on e1)
    obtain ⟨j0, j1⟩ := within_iff.mp hb
    obtain ⟨n, rfl⟩ := nat_of n0
    obtain ⟨j, rfl⟩ := nat_of j0
    have r : run st (.metTimes p n j) = .ok (st, Kc.timesM xs n j) := (if_neg (not_false (by rw [rg, hp, hb]; rfl))).trans (by rw [← Kc.times_is (by omega) (by omega), ← sample_of k1]; rfl)
    exact s_retL (el_call (ea_cons (ev_var rfl) (ea_cons (ev_var rfl) (ea_cons (ev_var rfl) ea_nil))) (sl_times (K := K) (il_of (e2 _ _ k2)) k3 (show n ≤ xs.sum by omega) (by omega))) (fun q H3 hq e3 h3 => o.good r hc ((e1.trans e2).trans e3) h3)
/-! ### powers -/
abbrev s_Catches_powers : Stmt := (inClass (top 58) 10)
abbrev n_Catches_powers : List Str := ["self", "place", "q", "sample"]
abbrev p_Catches_powers : List Str := ["self", "place", "q"]
theorem sc_Catches_powers : FnScope n_Catches_powers p_Catches_powers (defScope s_Catches_powers) := ⟨rfl, rfl, rfl, by decide +kernel, rfl, by decide +kernel, by decide +kernel⟩
theorem ok_mpowers (T : Txt K mg C CC CF) (c_powers_parts : Callee P w K mg base CX0 3 "powers_parts" p_powers (spPowers K)) (c_need_within : Callee P w K mg base (L2.CX P w) 4 "need_within" p_need_within (spWithin CF)) (m_at : MCallee P w K mg base (L2.CX P w) C 5 "at" p_Catches_at (spAt C CF))
    (D : MDefIn K C "powers" "Catches.powers" s_Catches_powers p_Catches_powers) : MCallee P w K mg base (L2.CX P w) C 7 "powers" p_Catches_powers (sp2 C CF .powers) := by
  refine mcallee D sc_Catches_powers (fun vs H Q E h => ?_) (fun f cdv A outer s H vs Q E hr h => ⟨_, (pss_cons (ps_set (i := 3) sc_Catches_powers.nd rfl (Or.inl rfl) (pe_methC T.cl m_at (pv 0) (hr.mono (by decide)) (passes_call (takes_of rfl rfl rfl rfl) (fun _ _ _ _ h => h)) (pa_cons (pv 1) pa_nil)))
      (pss_cons (ps_expr (pe_callC c_need_within (hr.mono (by decide)) (by rfl) (passes_call (takes_of rfl rfl rfl rfl) (fun _ _ _ _ h => h)) (pa_cons (pv 2) (pa_cons pe_int (pa_cons (pe_glob (v := .int (8)) rfl T.g_MOST_POWER ⟨_, rfl⟩) pa_nil)))))
      (pss_one (ps_ret (pe_callC c_powers_parts (hr.mono (by decide)) (by rfl) pass0 (pa_cons (pv 3) (pa_cons (pv 2) pa_nil))))))), ?_⟩)
  · obtain ⟨_, _, _, _, _, rfl, _⟩ := h
    rfl
  · obtain ⟨c, s, st, p, n, rfl, hc, o⟩ := h
    have rg : Vbecal.inRange st (.powers p n) = (Vbecal.isPlace p && Vbecal.within n 0 8) := rfl
    refine Kw.m_at hc rfl (ea_cons (ev_var rfl) ea_nil) (fun hp a xs H1 e1 k1 k2 k3 k4 => ?_) (fun hp => o.range (by rw [rg, hp]; rfl))
    refine q_chk (ea_cons (ev_var rfl) (ea_cons ev_c (ea_cons ev_c ea_nil))) sc_within (fun hb H2 e2 => ?_) (fun hb => (o.range (by rw [rg, hp, hb]; rfl)).on e1)
    obtain ⟨n0, n1⟩ := within_iff.mp hb
    obtain ⟨n, rfl⟩ := nat_of n0
    have r : run st (.powers p n) = .ok (st, Kc.powersM xs n) := (if_neg (not_false (by rw [rg, hp, hb]; rfl))).trans (by rw [← Kc.powers_is k4, ← sample_of k1]; rfl)
    exact s_retL (el_call (ea_cons (ev_var rfl) (ea_cons (ev_var rfl) ea_nil)) (sl_powers (K := K) (il_of (e2 _ _ k2)) k3 k4 (by omega))) (fun q H3 hq e3 h3 => o.good r hc ((e1.trans e2).trans e3) h3)
/-! ### alike -/
abbrev s_Catches_alike : Stmt := (inClass (top 58) 11)
abbrev n_Catches_alike : List Str := ["self", "place", "sample"]
abbrev p_Catches_alike : List Str := ["self", "place"]
theorem sc_Catches_alike : FnScope n_Catches_alike p_Catches_alike (defScope s_Catches_alike) := ⟨rfl, rfl, rfl, by decide +kernel, rfl, by decide +kernel, by decide +kernel⟩
theorem ok_malike (T : Txt K mg C CC CF) (c_size : Callee P w K mg base CX0 1 "size" p_size (spSize K)) (c_alike_parts : Callee P w K mg base CX0 3 "alike_parts" p_alike (spAlike K)) (c_need : Callee P w K mg base (L2.CX P w) 3 "need" p_need (spNeed CF)) (m_at : MCallee P w K mg base (L2.CX P w) C 5 "at" p_Catches_at (spAt C CF))
    (D : MDefIn K C "alike" "Catches.alike" s_Catches_alike p_Catches_alike) : MCallee P w K mg base (L2.CX P w) C 7 "alike" p_Catches_alike (sp1 C CF .alike) := by
  refine mcallee D sc_Catches_alike (fun vs H Q E h => ?_) (fun f cdv A outer s H vs Q E hr h => ⟨_, (pss_cons (ps_set (i := 2) sc_Catches_alike.nd rfl (Or.inl rfl) (pe_methC T.cl m_at (pv 0) (hr.mono (by decide)) (passes_call (takes_of rfl rfl rfl rfl) (fun _ _ _ _ h => h)) (pa_cons (pv 1) pa_nil)))
      (pss_cons (ps_expr (pe_callC c_need (hr.mono (by decide)) (by rfl) (passes_call (takes_of rfl rfl rfl rfl) (fun _ _ _ _ h => h)) (pa_cons (pe_cmpR op_gt (pe_callC c_size (hr.mono (by decide)) (by rfl) pass0 (pa_cons (pv 2) pa_nil)) pe_int (nomark _)) (pa_cons (pe_glob (v := .int (-2)) rfl T.g_ONE_ANIMAL ⟨_, rfl⟩) pa_nil))))
      (pss_one (ps_ret (pe_callC c_alike_parts (hr.mono (by decide)) (by rfl) pass0 (pa_cons (pv 2) pa_nil)))))), ?_⟩)
  · obtain ⟨_, _, _, _, rfl, _⟩ := h
    rfl
  · obtain ⟨c, s, st, p, rfl, hc, o⟩ := h
    refine Kw.m_at hc rfl (ea_cons (ev_var rfl) ea_nil) (fun hp a xs H1 e1 k1 k2 k3 k4 => ?_) (fun hp => o.range hp)
    have sm := sample_of k1
    refine q_chk (ea_cons (ev_op (ev_call (ea_cons (ev_var rfl) ea_nil) (sv_size (il_of k2))) ev_c rv_I0) (ea_cons ev_c ea_nil)) sc_need' (fun hb H2 e2 => ?_) (fun hb => (o.bad ?_).on e1)
    · have hb := of_decide_eq_true hb
      have h1 : 1 < xs.sum := by omega
      have r : run st (.alike p) = .ok (st, Kc.alikeM xs) := (if_neg (not_false hp)).trans ((if_neg (by rw [sm, Kc.all_eq]; omega)).trans (by
        show Except.ok (if Vbecal.all (st.sample p) < 2 then _ else _) = _
        rw [if_neg (by rw [sm, Kc.all_eq]; omega), ← Kc.alike_is h1, sm]))
      exact s_retL (el_call (ea_cons (ev_var rfl) ea_nil) (sl_alike (K := K) (il_of (e2 _ _ k2)) k3 h1)) (fun q H3 hq e3 h3 => o.good r hc ((e1.trans e2).trans e3) h3)
    · have hb := of_decide_eq_false hb
      exact (if_neg (not_false hp)).trans (if_pos (by rw [sm, Kc.all_eq]; omega))
/-! ### evener -/
abbrev s_Catches_evener : Stmt := (inClass (top 58) 12)
abbrev n_Catches_evener : List Str := ["self", "p", "q", "one", "other"]
abbrev p_Catches_evener : List Str := ["self", "p", "q"]
theorem sc_Catches_evener : FnScope n_Catches_evener p_Catches_evener (defScope s_Catches_evener) := ⟨rfl, rfl, rfl, by decide +kernel, rfl, by decide +kernel, by decide +kernel⟩
theorem ok_mevener (T : Txt K mg C CC CF) (c_is_as_even : Callee P w K mg base CX0 2 "is_as_even" p_is_as_even (spEven K)) (m_at : MCallee P w K mg base (L2.CX P w) C 5 "at" p_Catches_at (spAt C CF))
    (D : MDefIn K C "evener" "Catches.evener" s_Catches_evener p_Catches_evener) : MCallee P w K mg base (L2.CX P w) C 7 "evener" p_Catches_evener (sp2 C CF .evener) := by
  refine mcallee D sc_Catches_evener (fun vs H Q E h => ?_) (fun f cdv A outer s H vs Q E hr h => ⟨_, (pss_cons (ps_par (i := 3) (j := 4) (by rfl) sc_Catches_evener.nd rfl rfl (by decide) rfl rfl (pa_cons (pe_methC T.cl m_at (pv 0) (hr.mono (by decide)) (passes_call (takes_of rfl rfl rfl rfl) (fun _ _ _ _ h => h)) (pa_cons (pv 1) pa_nil)) (pa_cons (pe_methC T.cl m_at (pv 0) (hr.mono (by decide)) (passes_call (takes_of rfl rfl rfl rfl) (fun _ _ _ _ h => h)) (pa_cons (pv 2) pa_nil)) pa_nil)) (by rfl))
      (pss_one (ps_ret (pe_lst (pa_cons (pe_callTy call_int1 (by rfl) T.b_int (by decide +kernel) (pa_cons (pe_callC c_is_as_even (hr.mono (by decide)) (by rfl) pass0 (pa_cons (pv 3) (pa_cons (pv 4) pa_nil))) pa_nil)) (pa_cons (pe_callTy call_int1 (by rfl) T.b_int (by decide +kernel) (pa_cons (pe_callC c_is_as_even (hr.mono (by decide)) (by rfl) pass0 (pa_cons (pv 4) (pa_cons (pv 3) pa_nil))) pa_nil)) pa_nil)))))), ?_⟩)
  · obtain ⟨_, _, _, _, _, rfl, _⟩ := h
    rfl
  · obtain ⟨c, s, st, p, q, rfl, hc, o⟩ := h
    have rg : Vbecal.inRange st (.evener p q) = (Vbecal.isPlace p && Vbecal.isPlace q) := rfl
    refine Kw.m_at hc rfl (ea_cons (ev_var rfl) ea_nil) (fun hp a xs H1 e1 k1 k2 k3 k4 => ?_) (fun hp => o.range (by rw [rg, hp]; rfl))
    refine Kw.m_at (hc.on e1) rfl (ea_cons (ev_var rfl) ea_nil) (fun hq b ys H2 e2 j1 j2 j3 j4 => ?_) (fun hq => (o.range (by rw [rg, hp, hq]; rfl)).on e1)
    have hx := il_of (K := K) (e2 _ _ k2)
    have hy := il_of (K := K) j2
    have r : run st (.evener p q) = .ok (st, [if Kc.evenM xs ys = true then 1 else 0, if Kc.evenM ys xs = true then 1 else 0]) := (if_neg (not_false (by rw [rg, hp, hq]; rfl))).trans (by rw [← Kc.even_is, ← Kc.even_is, ← sample_of k1, ← sample_of j1]; rfl)
    refine ⟨_, _, rfl, ?_⟩
    exact s_retL (el_lst (ea_cons (ev_intB (ev_call (ea_cons (ev_var rfl) (ea_cons (ev_var rfl) ea_nil)) (sv_even hx hy k3 j3))) (ea_cons (ev_intB (ev_call (ea_cons (ev_var rfl) (ea_cons (ev_var rfl) ea_nil)) (sv_even hy hx j3 k3))) ea_nil)) (by show 2 ≤ 100000; omega)) (fun q H3 hq e3 h3 => o.good r hc ((e1.trans e2).trans e3) h3)
/-! ### richer -/
abbrev s_Catches_richer : Stmt := (inClass (top 58) 13)
abbrev n_Catches_richer : List Str := ["self", "p", "q", "n", "one", "other"]
abbrev p_Catches_richer : List Str := ["self", "p", "q", "n"]
theorem sc_Catches_richer : FnScope n_Catches_richer p_Catches_richer (defScope s_Catches_richer) := ⟨rfl, rfl, rfl, by decide +kernel, rfl, by decide +kernel, by decide +kernel⟩
theorem ok_mricher (T : Txt K mg C CC CF) (c_size : Callee P w K mg base CX0 1 "size" p_size (spSize K)) (c_richer_comparing : Callee P w K mg base CX0 3 "richer_comparing" p_richer (spRicher K)) (c_need_within : Callee P w K mg base (L2.CX P w) 4 "need_within" p_need_within (spWithin CF)) (m_at : MCallee P w K mg base (L2.CX P w) C 5 "at" p_Catches_at (spAt C CF))
    (D : MDefIn K C "richer" "Catches.richer" s_Catches_richer p_Catches_richer) : MCallee P w K mg base (L2.CX P w) C 7 "richer" p_Catches_richer (sp3 C CF .richer) := by
  refine mcallee D sc_Catches_richer (fun vs H Q E h => ?_) (fun f cdv A outer s H vs Q E hr h => ⟨_, (pss_cons (ps_par (i := 4) (j := 5) (by rfl) sc_Catches_richer.nd rfl rfl (by decide) rfl rfl (pa_cons (pe_methC T.cl m_at (pv 0) (hr.mono (by decide)) (passes_call (takes_of rfl rfl rfl rfl) (fun _ _ _ _ h => h)) (pa_cons (pv 1) pa_nil)) (pa_cons (pe_methC T.cl m_at (pv 0) (hr.mono (by decide)) (passes_call (takes_of rfl rfl rfl rfl) (fun _ _ _ _ h => h)) (pa_cons (pv 2) pa_nil)) pa_nil)) (by rfl))
      (pss_cons (ps_expr (pe_callC c_need_within (hr.mono (by decide)) (by rfl) (passes_call (takes_of rfl rfl rfl rfl) (fun _ _ _ _ h => h)) (pa_cons (pv 3) (pa_cons pe_int (pa_cons (pe_callB (call_min2 rfl) (by rfl) T.b_min (by decide +kernel) (pa_cons (pe_callC c_size (hr.mono (by decide)) (by rfl) pass0 (pa_cons (pv 4) pa_nil)) (pa_cons (pe_callC c_size (hr.mono (by decide)) (by rfl) pass0 (pa_cons (pv 5) pa_nil)) pa_nil))) pa_nil)))))
      (pss_one (ps_ret (pe_lst (pa_cons (pe_callC c_richer_comparing (hr.mono (by decide)) (by rfl) pass0 (pa_cons (pv 4) (pa_cons (pv 5) (pa_cons (pv 3) pa_nil)))) pa_nil)))))), ?_⟩)
  · obtain ⟨_, _, _, _, _, _, rfl, _⟩ := h
    rfl
  · obtain ⟨c, s, st, p, q, n, rfl, hc, o⟩ := h
    have rg : Vbecal.inRange st (.richer p q n) = ((Vbecal.isPlace p && Vbecal.within n 0 (Vbecal.all (st.sample p) : Int)) && (Vbecal.isPlace q && Vbecal.within n 0 (Vbecal.all (st.sample q) : Int))) := rfl
    refine Kw.m_at hc rfl (ea_cons (ev_var rfl) ea_nil) (fun hp a xs H1 e1 k1 k2 k3 k4 => ?_) (fun hp => o.range (by rw [rg, hp]; rfl))
    refine Kw.m_at (hc.on e1) rfl (ea_cons (ev_var rfl) ea_nil) (fun hq b ys H2 e2 j1 j2 j3 j4 => ?_) (fun hq => (o.range (by rw [rg, hq, Bool.false_and, Bool.and_false])).on e1)
    have hx := il_of (K := K) (e2 _ _ k2)
    have hy := il_of (K := K) j2
    have b1 := k3.sum
    refine ⟨_, _, rfl, ?_⟩
    have mn := ev_min2 (ev_call (E := E0) (σ := [some (.ref c), some (.int p), some (.int q), some (.int n), some (.ref a), some (.ref b)]) (ea_cons (ev_var (i := 4) rfl) ea_nil) (sv_size hx)) (ev_call (E := E0) (ea_cons (ev_var (i := 5) rfl) ea_nil) (sv_size hy))
    have iff : Vbecal.within n 0 (if ((ys.sum : Nat) : Int) < (xs.sum : Nat) then ((ys.sum : Nat) : Int) else (xs.sum : Nat)) = Vbecal.inRange st (.richer p q n) := by
      rw [rg, hp, hq, sample_of k1, sample_of j1, Kc.all_eq, Kc.all_eq, Bool.true_and, Bool.true_and, Bool.eq_iff_iff, Bool.and_eq_true, within_iff, within_iff, within_iff]
      split <;> omega
    refine q_chk (ea_cons (ev_var rfl) (ea_cons ev_c (ea_cons mn ea_nil))) sc_within (fun hb H3 e3 => ?_) (fun hb => ((o.range (iff.symm.trans hb)).on e1).on e2)
    have hr' := iff.symm.trans hb
    have hb' := within_iff.mp hb
    have n0 := hb'.1
    obtain ⟨n, rfl⟩ := nat_of n0
    have l1 : n ≤ xs.sum ∧ n ≤ ys.sum := by
      have := hb'.2
      split at this <;> omega
    have r : run st (.richer p q n) = .ok (st, [Kc.richerM xs ys n]) := (if_neg (not_false hr')).trans (by rw [← Kc.richer_is l1.1 l1.2, ← sample_of k1, ← sample_of j1]; rfl)
    exact s_retL (el_lst (ea_cons (ev_call (ea_cons (ev_var rfl) (ea_cons (ev_var rfl) (ea_cons (ev_var rfl) ea_nil))) (sv_richer (ex_l e3 hx) (ex_l e3 hy) k3 j3 (by omega))) ea_nil) (by show 1 ≤ 100000; omega)) (fun q H4 hq e4 h4 => o.good r hc (((e1.trans e2).trans e3).trans e4) h4)
/-! ### turns -/
abbrev s_Catches_turns_told : Stmt := (inClass (top 58) 14)
abbrev n_Catches_turns_told : List Str := ["self", "p", "q", "found"]
abbrev p_Catches_turns_told : List Str := ["self", "p", "q"]
theorem sc_Catches_turns_told : FnScope n_Catches_turns_told p_Catches_turns_told (defScope s_Catches_turns_told) := ⟨rfl, rfl, rfl, by decide +kernel, rfl, by decide +kernel, by decide +kernel⟩
theorem turns_len (xs ys : List Nat) : (Kc.turnsM xs ys).length ≤ xs.sum + 1 := by
  unfold Kc.turnsM
  rw [List.length_map]
  have := List.length_filter_le (fun n => decide (2 ≤ n) && decide (Kc.richerM xs ys n ≠ Kc.richerM xs ys (n - 1))) (List.range (min xs.sum ys.sum + 1))
  rw [List.length_range] at this
  omega
theorem ok_mturns (T : Txt K mg C CC CF) (c_turns : Callee P w K mg base CX0 3 "turns" p_turns (spTurns K)) (m_at : MCallee P w K mg base (L2.CX P w) C 5 "at" p_Catches_at (spAt C CF))
    (D : MDefIn K C "turns_told" "Catches.turns_told" s_Catches_turns_told p_Catches_turns_told) : MCallee P w K mg base (L2.CX P w) C 7 "turns_told" p_Catches_turns_told (sp2 C CF .turns) := by
  refine mcallee D sc_Catches_turns_told (fun vs H Q E h => ?_) (fun f cdv A outer s H vs Q E hr h => ⟨_, (pss_cons (ps_set (i := 3) sc_Catches_turns_told.nd rfl (Or.inl rfl) (pe_callC c_turns (hr.mono (by decide)) (by rfl) pass0 (pa_cons (pe_methC T.cl m_at (pv 0) (hr.mono (by decide)) (passes_call (takes_of rfl rfl rfl rfl) (fun _ _ _ _ h => h)) (pa_cons (pv 1) pa_nil)) (pa_cons (pe_methC T.cl m_at (pv 0) (hr.mono (by decide)) (passes_call (takes_of rfl rfl rfl rfl) (fun _ _ _ _ h => h)) (pa_cons (pv 2) pa_nil)) pa_nil))))
      (pss_one (ps_ret (pe_op op_cat (pe_lst (pa_cons (pe_callB call_len_seq (by rfl) T.b_len PySem.boot_len (pa_cons (pv 3) pa_nil)) pa_nil)) (pv 3))))), ?_⟩)
  · obtain ⟨_, _, _, _, _, rfl, _⟩ := h
    rfl
  · obtain ⟨c, s, st, p, q, rfl, hc, o⟩ := h
    have rg : Vbecal.inRange st (.turns p q) = (Vbecal.isPlace p && Vbecal.isPlace q) := rfl
    refine Kw.m_at hc rfl (ea_cons (ev_var rfl) ea_nil) (fun hp a xs H1 e1 k1 k2 k3 k4 => ?_) (fun hp => o.range (by rw [rg, hp]; rfl))
    refine Kw.m_at (hc.on e1) rfl (ea_cons (ev_var rfl) ea_nil) (fun hq b ys H2 e2 j1 j2 j3 j4 => ?_) (fun hq => (o.range (by rw [rg, hp, hq]; rfl)).on e1)
    have hx := il_of (K := K) (e2 _ _ k2)
    have hy := il_of (K := K) j2
    have b1 := k3.sum
    have tl := turns_len xs ys
    have r : run st (.turns p q) = .ok (st, ((Kc.turnsM xs ys).length : Int) :: Kc.turnsM xs ys) := (if_neg (not_false (by rw [rg, hp, hq]; rfl))).trans (by
      rw [← Kc.turns_is]
      show Except.ok (st, Vbecal.counted (Vbecal.turns (st.sample p) (st.sample q))) = _
      rw [sample_of k1, sample_of j1]
      unfold Vbecal.counted Vbecal.ints
      rw [List.length_map])
    refine sl_turns (K := K) hx hy k3 j3 H2 (Ex.refl H2) _ (fun f H3 hf e3 h3 => ?_) E0
    have ln := ev_len (K := K) (σ := [some (.ref c), some (.int p), some (.int q), some (.ref f)]) (ev_var (i := 3) rfl) (sq_of h3)
    rw [List.length_map] at ln
    exact s_retL (el_cat2 (el_lst (ea_cons ln ea_nil) (by show 1 ≤ 100000; omega)) (ev_var rfl) h3 (by rw [List.length_map]; show 1 + _ ≤ 100000; omega)) fun q H4 hq e4 h4 => o.good r hc (((e1.trans e2).trans e3).trans e4) h4
/-! ### shared -/
abbrev s_Catches_shared : Stmt := (inClass (top 58) 15)
abbrev n_Catches_shared : List Str := ["self", "numbers", "p", "q", "n", "m", "one", "other"]
abbrev p_Catches_shared : List Str := ["self", "numbers"]
theorem sc_Catches_shared : FnScope n_Catches_shared p_Catches_shared (defScope s_Catches_shared) := ⟨rfl, rfl, rfl, by decide +kernel, rfl, by decide +kernel, by decide +kernel⟩
theorem ok_mshared (T : Txt K mg C CC CF) (c_size : Callee P w K mg base CX0 1 "size" p_size (spSize K)) (c_shared_comparing : Callee P w K mg base CX0 4 "shared_comparing" p_shared (spShared K)) (c_need_within : Callee P w K mg base (L2.CX P w) 4 "need_within" p_need_within (spWithin CF))
    (c_need_alike : Callee P w K mg base (L2.CX P w) 4 "need_alike" p_need_alike (spAlikeN K CF)) (m_at : MCallee P w K mg base (L2.CX P w) C 5 "at" p_Catches_at (spAt C CF))
    (D : MDefIn K C "shared" "Catches.shared" s_Catches_shared p_Catches_shared) : MCallee P w K mg base (L2.CX P w) C 7 "shared" p_Catches_shared (spSh K C CF) := by
  refine mcallee D sc_Catches_shared (fun vs H Q E h => ?_) (fun f cdv A outer s H vs Q E hr h => ⟨_, (pss_cons (ps_asg (pv 1) (pg_unl rfl (pgs_cons (pg_name (i := 2) sc_Catches_shared.nd rfl (Or.inl rfl)) (pgs_cons (pg_name (i := 3) sc_Catches_shared.nd rfl (Or.inl rfl)) (pgs_cons (pg_name (i := 4) sc_Catches_shared.nd rfl (Or.inl rfl)) (pgs_cons (pg_name (i := 5) sc_Catches_shared.nd rfl (Or.inl rfl)) pgs_nil))))))
      (pss_cons (ps_par (i := 6) (j := 7) (by rfl) sc_Catches_shared.nd rfl rfl (by decide) rfl rfl (pa_cons (pe_methC T.cl m_at (pv 0) (hr.mono (by decide)) (passes_call (takes_of rfl rfl rfl rfl) (fun _ _ _ _ h => h)) (pa_cons (pv 2) pa_nil)) (pa_cons (pe_methC T.cl m_at (pv 0) (hr.mono (by decide)) (passes_call (takes_of rfl rfl rfl rfl) (fun _ _ _ _ h => h)) (pa_cons (pv 3) pa_nil)) pa_nil)) (by rfl))
      (pss_cons (ps_expr (pe_callC c_need_within (hr.mono (by decide)) (by rfl) (passes_call (takes_of rfl rfl rfl rfl) (fun _ _ _ _ h => h)) (pa_cons (pv 4) (pa_cons pe_int (pa_cons (pe_callC c_size (hr.mono (by decide)) (by rfl) pass0 (pa_cons (pv 6) pa_nil)) pa_nil)))))
      (pss_cons (ps_expr (pe_callC c_need_within (hr.mono (by decide)) (by rfl) (passes_call (takes_of rfl rfl rfl rfl) (fun _ _ _ _ h => h)) (pa_cons (pv 5) (pa_cons pe_int (pa_cons (pe_callC c_size (hr.mono (by decide)) (by rfl) pass0 (pa_cons (pv 7) pa_nil)) pa_nil)))))
      (pss_cons (ps_expr (pe_callC c_need_alike (hr.mono (by decide)) (by rfl) (passes_call (takes_of rfl rfl rfl rfl) (fun _ _ _ _ h => h)) (pa_cons (pv 6) (pa_cons (pv 7) pa_nil))))
      (pss_one (ps_ret (pe_callC c_shared_comparing (hr.mono (by decide)) (by rfl) pass0 (pa_cons (pv 6) (pa_cons (pv 7) (pa_cons (pv 4) (pa_cons (pv 5) pa_nil)))))))))))), ?_⟩)
  · obtain ⟨_, _, _, _, _, _, _, _, rfl, _⟩ := h
    rfl
  · obtain ⟨c, s, l, st, p, q, n, m, rfl, hl, hc, o⟩ := h
    have rg : Vbecal.inRange st (.shared p q n m) = ((Vbecal.isPlace p && Vbecal.within n 0 (Vbecal.all (st.sample p) : Int)) && (Vbecal.isPlace q && Vbecal.within m 0 (Vbecal.all (st.sample q) : Int))) := rfl
    refine ⟨_, rfl, l, _, rfl, hl, rfl, _, _, rfl, _, _, rfl, _, _, rfl, _, _, rfl, rfl, ?_⟩
    refine Kw.m_at hc rfl (ea_cons (ev_var rfl) ea_nil) (fun hp a xs H1 e1 k1 k2 k3 k4 => ?_) (fun hp => o.range (by rw [rg, hp]; rfl))
    refine Kw.m_at (hc.on e1) rfl (ea_cons (ev_var rfl) ea_nil) (fun hq b ys H2 e2 j1 j2 j3 j4 => ?_) (fun hq => (o.range (by rw [rg, hq, Bool.false_and, Bool.and_false])).on e1)
    have hx := il_of (K := K) (e2 _ _ k2)
    have hy := il_of (K := K) j2
    rw [hp, hq, sample_of k1, sample_of j1, Kc.all_eq, Kc.all_eq, Bool.true_and, Bool.true_and] at rg
    refine ⟨_, _, rfl, ?_⟩
    refine q_chk (ea_cons (ev_var rfl) (ea_cons ev_c (ea_cons (ev_call (ea_cons (ev_var rfl) ea_nil) (sv_size hx)) ea_nil))) sc_within (fun hb H3 e3 => ?_) (fun hb => ((o.range (by rw [rg, hb]; rfl)).on e1).on e2)
    refine q_chk (ea_cons (ev_var rfl) (ea_cons ev_c (ea_cons (ev_call (ea_cons (ev_var rfl) ea_nil) (sv_size (ex_l e3 hy))) ea_nil))) sc_within (fun hd H4 e4 => ?_) (fun hd => (((o.range (by rw [rg, hb, hd]; rfl)).on e1).on e2).on e3)
    have e12 := e1.trans e2
    have e34 := e3.trans e4
    have nf := not_false (rg.trans (by rw [hb, hd]; rfl))
    refine q_chk (ea_cons (ev_var rfl) (ea_cons (ev_var rfl) ea_nil)) (sc_alike' (ex_l e34 hx) (ex_l e34 hy)) (fun hg H5 e5 => ?_) (fun hg => (o.bad ?_).on (e12.trans e34))
    · have hg := of_decide_eq_true hg
      obtain ⟨n0, n1⟩ := within_iff.mp hb
      obtain ⟨m0, m1⟩ := within_iff.mp hd
      obtain ⟨n, rfl⟩ := nat_of n0
      obtain ⟨m, rfl⟩ := nat_of m0
      have ne : ¬ (st.sample p).length ≠ (st.sample q).length := by rw [sample_of k1, sample_of j1]; exact fun h => h hg
      have r : run st (.shared p q n m) = .ok (st, Kc.sharedM xs ys n m) := (if_neg nf).trans ((if_neg ne).trans (by
        show Except.ok (if (st.sample p).length ≠ (st.sample q).length then _ else _) = _
        rw [if_neg ne, ← Kc.shared_is (by omega) (by omega), ← sample_of k1, ← sample_of j1]; rfl))
      exact s_retL (el_call (ea_cons (ev_var rfl) (ea_cons (ev_var rfl) (ea_cons (ev_var rfl) (ea_cons (ev_var rfl) ea_nil)))) (sl_shared (K := K) (ex_l (e34.trans e5) hx) (ex_l (e34.trans e5) hy) k3 j3 hg (by omega) (by omega))) (fun q H6 hq e6 h6 => o.good r hc (((e12.trans e34).trans e5).trans e6) h6)
    · have hg := of_decide_eq_false hg
      exact (if_neg nf).trans (if_pos (by rw [sample_of k1, sample_of j1]; exact hg))
/-! ### over plots -/
abbrev s_Catches_over_plots : Stmt := (inClass (top 58) 18)
abbrev n_Catches_over_plots : List Str := ["self", "h"]
abbrev p_Catches_over_plots : List Str := ["self", "h"]
theorem sc_Catches_over_plots : FnScope n_Catches_over_plots p_Catches_over_plots (defScope s_Catches_over_plots) := ⟨rfl, rfl, rfl, by decide +kernel, rfl, by decide +kernel, by decide +kernel⟩
theorem ok_mover (T : Txt K mg C CC CF) (c_over_plots_parts : Callee P w K mg base CX0 3 "over_plots_parts" p_over_plots (spOver K)) (c_need_within : Callee P w K mg base (L2.CX P w) 4 "need_within" p_need_within (spWithin CF))
    (D : MDefIn K C "over_plots" "Catches.over_plots" s_Catches_over_plots p_Catches_over_plots) : MCallee P w K mg base (L2.CX P w) C 7 "over_plots" p_Catches_over_plots (sp1 C CF .overPlots) := by
  refine mcallee D sc_Catches_over_plots (fun vs H Q E h => ?_) (fun f cdv A outer s H vs Q E hr h => ⟨_, (pss_cons (ps_expr (pe_callC c_need_within (hr.mono (by decide)) (by rfl) (passes_call (takes_of rfl rfl rfl rfl) (fun _ _ _ _ h => h)) (pa_cons (pv 1) (pa_cons pe_int (pa_cons (pe_callB call_len_seq (by rfl) T.b_len PySem.boot_len (pa_cons (pe_fld (pv 0) rfl) pa_nil)) pa_nil)))))
      (pss_one (ps_ret (pe_callC c_over_plots_parts (hr.mono (by decide)) (by rfl) pass0 (pa_cons (pe_fld (pv 0) rfl) (pa_cons (pv 1) pa_nil)))))), ?_⟩)
  · obtain ⟨_, _, _, _, rfl, _⟩ := h
    rfl
  · obtain ⟨c, s, st, h, rfl, hc, o⟩ := h
    obtain ⟨dx, t, h1, h2, h3⟩ := hc.ins
    have pl := hc.plots
    have rg : Vbecal.inRange st (.overPlots h) = Vbecal.within h 0 (st.plots.length : Int) := rfl
    have fl : ∀ {H' : Hp}, Ex H H' → Ev (tFld K (tVar 0) "sets") [some (.ref c), some (.int h)] H' (.ref t) := fun {H'} e => ev_fld (ev_var rfl) (e _ _ h1) T.cl T.nT lk_sets
    have ln := ev_len (K := K) (fl (Ex.refl H)) (sq_of h3)
    rw [List.length_map, zs_len] at ln
    refine q_chk (ea_cons (ev_var rfl) (ea_cons ev_c (ea_cons ln ea_nil))) sc_within (fun hb H2 e2 => ?_) (fun hb => o.range (rg.trans hb))
    obtain ⟨n0, n1⟩ := within_iff.mp hb
    obtain ⟨h, rfl⟩ := nat_of n0
    have r : run st (.overPlots h) = .ok (st, Kc.overPlotsM st.plots h) := (if_neg (not_false (rg.trans hb))).trans (by rw [← Kc.overPlots_is (by omega)]; rfl)
    exact s_retL (el_call (ea_cons (fl e2) (ea_cons (ev_var rfl) ea_nil)) (sl_over (K := K) (il_of (e2 _ _ h3)) (by omega) (by omega))) (fun q H3 hq e3 h3 => o.good r hc (e2.trans e3) h3)
end
end Kw


/-! holding.py: __init__, and the calls that change the object -/
namespace Kw
open PySem PySem.Spec PyProof.Rows L2 Evl
def spPut (K : PySem.W.Frag) (C CF : Addr) : Sp := fun vs H Q E => ∃ (c s l : Addr) (st : Vbecal.State) (p : Int) (ns : List Int), vs = [.ref c, .int p, .ref l] ∧ IL K H l ns ∧ ns.length ≤ 20000 ∧ CatsAt C H c s st ∧ Outc C CF c s (run st (.put p ns)) H Q E
def spPlots (K : PySem.W.Frag) (C CF : Addr) : Sp := fun vs H Q E => ∃ (c s l : Addr) (st : Vbecal.State) (ns : List Int), vs = [.ref c, .ref l] ∧ IL K H l ns ∧ ns.length ≤ 20000 ∧ CatsAt C H c s st ∧ Outc C CF c s (run st (.plots ns)) H Q E
def spInit (C : Addr) : Sp := fun vs H Q _ => ∃ (x dx : Addr), vs = [.ref x] ∧ H x = some (.ins C dx []) ∧ ∀ H' s, H s = none → CatsAt C H' x s Vbecal.start → (∀ b o, H b = some o → b ≠ x → H' b = some o) → Q .non H'
theorem nats_back {ns : List Int} (h : ∀ n ∈ ns, 0 ≤ n) : zs (Vbecal.nats ns) = ns := by
  unfold zs Vbecal.nats
  rw [List.map_map]
  have : ns.map ((fun (n : Nat) => (n : Int)) ∘ Int.toNat) = ns.map id := List.map_congr_left fun n hn => by
    have := h n hn
    show ((n.toNat : Nat) : Int) = n
    omega
  rw [this, List.map_id]
theorem nats_len (ns : List Int) : (Vbecal.nats ns).length = ns.length := List.length_map ..
theorem nats_mem {ns : List Int} {a : Nat} (h : a ∈ Vbecal.nats ns) : ∃ n, n ∈ ns ∧ a = n.toNat := by
  obtain ⟨n, h1, h2⟩ := List.mem_map.mp h
  exact ⟨n, h1, h2.symm⟩
theorem listOk_iff {ns : List Int} {many most : Int} : listOk ns many most = true ↔ (1 ≤ (ns.length : Int) ∧ (ns.length : Int) ≤ many) ∧ ∀ n ∈ ns, 0 ≤ n ∧ n ≤ most := by
  unfold listOk
  rw [Bool.and_eq_true, Bool.and_eq_true, decide_eq_true_iff, decide_eq_true_iff, List.all_eq_true]
  constructor
  · rintro ⟨h1, h2⟩
    refine ⟨h1, fun n hn => ?_⟩
    have := h2 n hn
    rw [Bool.and_eq_true, decide_eq_true_iff, decide_eq_true_iff] at this
    exact this
  · rintro ⟨h1, h2⟩
    refine ⟨h1, fun n hn => ?_⟩
    rw [Bool.and_eq_true, decide_eq_true_iff, decide_eq_true_iff]
    exact h2 n hn
theorem any_pos : ∀ {ns : List Int}, (∀ n ∈ ns, 0 ≤ n) → ((ns.any fun c => decide (0 < c)) = decide (0 < ns.sum))
  | [], _ => rfl
  | n :: ns, h => by
    have h1 := h n (List.mem_cons_self ..)
    have ih := any_pos (ns := ns) fun m hm => h m (List.mem_cons_of_mem _ hm)
    have hs : ∀ {l : List Int}, (∀ n ∈ l, 0 ≤ n) → 0 ≤ l.sum := fun {l} => by
      induction l with
      | nil => intro _; exact Int.le_refl 0
      | cons a l ih2 =>
        intro hl
        have a1 := hl a (List.mem_cons_self ..)
        have a2 := ih2 fun m hm => hl m (List.mem_cons_of_mem _ hm)
        rw [List.sum_cons]; omega
    have h2 := hs (l := ns) fun m hm => h m (List.mem_cons_of_mem _ hm)
    rw [List.any_cons, ih, List.sum_cons, Bool.eq_iff_iff, Bool.or_eq_true, decide_eq_true_iff, decide_eq_true_iff, decide_eq_true_iff]
    omega
section
variable {K : PySem.W.Frag} {σ : L2.St} {H : Hp} {D : Ends} {tz : TS} {ta tb te : TE} {f : Str}
theorem q_setN {l : Addr} {xs ys : List V} {j : Nat} (hl : H l = some (.lst xs)) (h : EvL te σ H ys) (ho : Ev ta σ H (.ref l)) (hi : Ev tb σ H (.int (j : Int))) (hj : j < xs.length) (k : ∀ p H1, H p = none → Ex H H1 → H1 p = some (.lst ys) → tz D σ (upd H1 l (.lst (xs.set j (.ref p))))) :
    tSeq (tAsg te (gSub ta tb rSetL)) tz D σ H := s_setN (D := { D with nx := tz D }) hl h ho hi hj k
/-- self.f = a new list, self at a -/
theorem q_fldB {n : Nat} {F : Nat → HO} (h : EvB te σ H n F) (k : ∀ p H1 qs, H p = none → Ex H H1 → H1 p = some (.lst (qs.map V.ref)) → Obs F n H H1 qs → sFld K ta (tC (.ref p)) f { D with nx := tz D } σ H1) : tSeq (sFld K ta te f) tz D σ H :=
  h H (Ex.refl H) _ fun p H1 qs hp e h1 ho => k p H1 qs hp e h1 ho
theorem q_fldL {ys : List V} (h : EvL te σ H ys) (k : ∀ p H1, H p = none → Ex H H1 → H1 p = some (.lst ys) → sFld K ta (tC (.ref p)) f { D with nx := tz D } σ H1) : tSeq (sFld K ta te f) tz D σ H :=
  h H (Ex.refl H) _ fun p H1 hp e h1 => k p H1 hp e h1
end
section
variable {C c s : Addr} {st : Vbecal.State} {H : Hp}
/-- a place holds another sample, a new list at a -/
theorem CatsAt.place (h : CatsAt C H c s st) {p : Int} {a : Addr} {xs : List Nat} (hp : Vbecal.isPlace p = true) (ha : H a = some (.lst ((zs xs).map V.int))) (hs : a ≠ s) (h1 : Smp xs) (h2 : 0 < xs.sum) :
    ∃ as : List Addr, H s = some (.lst (as.map V.ref)) ∧ p.toNat < as.length ∧ CatsAt C (upd H s (.lst ((as.map V.ref).set p.toNat (.ref a)))) c s { st with samples := st.samples.set p.toNat xs } := by
  obtain ⟨⟨dx, t, i1, i2, i3⟩, ⟨as, g1, g2, g3⟩, f, pl⟩ := h
  obtain ⟨p0, p3⟩ := within_iff.mp hp
  have hcs : c ≠ s := ne_of i1 g1 (by intro z; cases z)
  refine ⟨as, g1, by omega, ⟨dx, t, by rw [upd_ne hcs]; exact i1, i2, by rw [upd_ne i2]; exact i3⟩, ⟨as.set p.toNat a, by rw [upd_same, List.map_set], by rw [List.length_set]; exact g2, fun i b hb => ?_⟩, by show (st.samples.set p.toNat xs).length = 4; rw [List.length_set]; exact f, pl⟩
  by_cases hi : i = p.toNat
  · subst hi
    rw [List.getElem?_set_self (by omega)] at hb
    have eb : a = b := Option.some.inj hb
    subst eb
    exact ⟨hs, xs, by show (st.samples.set p.toNat xs)[p.toNat]? = _; rw [List.getElem?_set_self (by omega)], by rw [upd_ne hs]; exact ha, h1, h2⟩
  · rw [List.getElem?_set_ne (fun z => hi z.symm)] at hb
    obtain ⟨n, ys, k1, k2, k3⟩ := g3 i b hb
    exact ⟨n, ys, by show (st.samples.set p.toNat xs)[i]? = _; rw [List.getElem?_set_ne (fun z => hi z.symm)]; exact k1, by rw [upd_ne n]; exact k2, k3⟩
/-- a place was given a new list -/
theorem noNew_place (hc : CatsAt C H c s st) {H4 H6 : Hp} {xs : List V} {i : Nat} {a : Addr} (e : Ex H H4) (g : H4 s = some (.lst xs)) (ha : H a = none) (e6 : Ex (upd H4 s (.lst (xs.set i (.ref a)))) H6) : NoNew C H H6 c s := fun f o hf hn ho => by
  obtain ⟨dx0, t0, i1, _, _⟩ := hc.ins
  obtain ⟨as0, g1, _⟩ := hc.tab
  have hcs : c ≠ s := ne_of i1 g1 (by intro z; cases z)
  rcases ho with ⟨dx, fs, h1, h2⟩ | ⟨ys, h1, h2⟩
  · have j := e6 _ _ (show (upd H4 s (.lst (xs.set i (.ref a)))) c = _ by rw [upd_ne hcs]; exact e _ _ i1)
    rw [h1] at j
    rw [← Option.some.inj j] at i1
    exact hn (.inl ⟨dx, fs, i1, h2⟩)
  · have j := e6 s _ upd_same
    rw [h1] at j
    have ey := HO.lst.inj (Option.some.inj j)
    subst ey
    rcases List.mem_or_eq_of_mem_set h2 with h3 | h3
    · have j2 := e _ _ g1
      rw [g] at j2
      rw [← Option.some.inj j2] at g1
      exact hn (.inr ⟨xs, g1, h3⟩)
    · have ef : f = a := V.ref.inj h3
      rw [ef, ha] at hf
      cases hf
end
section
variable {P : Program} {w : World} {K : PySem.W.Frag} {mg : Str → Option Value} {base : Heap} {H : Hp} {C CC CF : Addr}
/-! ### __init__ -/
abbrev s_Catches___init__ : Stmt := (inClass (top 58) 0)
abbrev n_Catches___init__ : List Str := ["self", "place"]
abbrev p_Catches___init__ : List Str := ["self"]
theorem sc_Catches___init__ : FnScope n_Catches___init__ p_Catches___init__ (defScope s_Catches___init__) := ⟨rfl, rfl, rfl, by decide +kernel, rfl, by decide +kernel, by decide +kernel⟩
theorem ok_minit (T : Txt K mg C CC CF) {f : Addr} {fd : FuncData} (F : Fun K "__init__" "Catches.__init__" s_Catches___init__ f fd) (M : Mk K C f) (g : mg "Catches" = some (.ref C)) (b : Binds K fd p_Catches___init__ []) :
    KCallee P w K mg base CX0 C 1 "Catches" p_Catches___init__ (spInit C) := by
  refine ⟨f, fd, F.ok sc_Catches___init__ (fun vs H Q E h => ?_) (fun cdv A outer s H vs Q E hr h => ⟨_, (pss_cons (ps_fld (pv 0) (pe_lc (own := [("place", 1)]) (g := gName 1) (tt := tYes) rfl sc_Catches___init__.nd (pi_range1 rfl T.b_range (pa_cons (pe_glob (v := .int (4)) rfl T.g_PLACES ⟨_, rfl⟩) pa_nil)) (blkOk_by (N := n_Catches___init__) (sc := defScope s_Catches___init__) (by decide +kernel)) (fun _ _ _ _ _ => (pg_name (i := 1) sc_Catches___init__.nd rfl (Or.inl rfl))) (fun _ _ _ _ _ => pts_nil) (fun _ _ _ _ _ => (pe_lst (pa_cons pe_int pa_nil)))) rfl)
      (pss_one (ps_fld (pv 0) (pe_lst (pa_cons pe_int pa_nil)) rfl))), ?_⟩), M, g, b⟩
  · obtain ⟨_, _, rfl, _⟩ := h
    rfl
  · obtain ⟨x, dx, rfl, hx, q⟩ := h
    refine q_fldB (eb_lcR1 (vs := [1]) (j := 1) (σ := [some (.ref x), none]) (H := H) (ta := tCons (tC (.int 4)) tNil) (te := tLst (tCons (tC (.int 1)) tNil)) (n := 4) (fun _ => .lst [.int 1]) (ea_cons ev_c ea_nil) (by omega) (fun _ => rfl) (fun i H1 e hi => EvL.n (el_lst (ea_cons ev_c ea_nil) (by decide)))) fun s1 H1 qs hs e1 h1 ho => ?_
    refine ⟨.ref x, rfl, x, C, dx, _, rfl, e1 _ _ hx, T.cl, T.nS, (by decide), ?_⟩
    refine ⟨by show 1 ≤ sizeLine; decide, fun t ht => ?_⟩
    have hxs : x ≠ s1 := ne_of_none hx hs
    have hx1 : H1 x = some (.ins C dx []) := e1 _ _ hx
    have htx : t ≠ x := fun z => by
      rw [z, upd_same] at ht
      cases ht
    rw [upd_ne htx] at ht
    have hts : t ≠ s1 := fun z => by rw [z, h1] at ht; cases ht
    refine ⟨.ref x, rfl, x, C, dx, _, rfl, by rw [upd_ne htx.symm, upd_same], T.cl, T.nT, (by show 1 < 1000; decide), ?_⟩
    refine q _ s1 hs ?_ (fun b o hb hne => ?_)
    · refine ⟨⟨dx, t, ?_, hts, ?_⟩, ⟨qs, ?_, ho.1, fun i a ha => ?_⟩, rfl, by decide⟩
      · rw [upd_same]
        show some (HO.ins C dx (putF "sets" (.ref t) (putF "samples" (.ref s1) []))) = _
        rw [show putF (("samples" : Str)) (.ref s1) [] = [(("samples" : Str), V.ref s1)] from rfl, show putF (("sets" : Str)) (.ref t) [(("samples" : Str), V.ref s1)] = [(("samples" : Str), V.ref s1), (("sets" : Str), V.ref t)] from if_neg (by decide +kernel)]
      · rw [upd_ne htx, upd_same]; rfl
      · rw [upd_ne hxs.symm, upd_ne hts.symm, upd_ne hxs.symm]
        exact h1
      · obtain ⟨n1, n2⟩ := ho.2 i a ha
        have hi : i < 4 := by
          have := (List.getElem?_eq_some_iff.mp ha).1
          rw [ho.1] at this
          exact this
        have ax : a ≠ x := fun z => by rw [z, hx] at n1; cases n1
        have at' : a ≠ t := ne_of_none n2 ht
        have as1 : a ≠ s1 := fun z => by
          rw [z, h1] at n2
          have z2 := HO.lst.inj (Option.some.inj n2)
          have z3 := congrArg List.length z2
          rw [List.length_map, ho.1] at z3
          exact absurd z3 (by decide)
        refine ⟨as1, [1], ?_, by rw [upd_ne ax, upd_ne at', upd_ne ax]; exact n2, ⟨by decide, by decide⟩, by decide⟩
        show (List.replicate 4 [1])[i]? = some [1]
        rw [List.getElem?_replicate, if_pos hi]
    · rw [upd_ne hne, upd_ne (ne_of_none (e1 _ _ hb) ht), upd_ne hne]
      exact e1 _ _ hb
/-! ### put -/
abbrev s_Catches_put : Stmt := (inClass (top 58) 3)
abbrev n_Catches_put : List Str := ["self", "place", "some"]
abbrev p_Catches_put : List Str := ["self", "place", "some"]
theorem sc_Catches_put : FnScope n_Catches_put p_Catches_put (defScope s_Catches_put) := ⟨rfl, rfl, rfl, by decide +kernel, rfl, by decide +kernel, by decide +kernel⟩
theorem ok_mput (T : Txt K mg C CC CF) (c_size : Callee P w K mg base CX0 1 "size" p_size (spSize K)) (c_need : Callee P w K mg base (L2.CX P w) 3 "need" p_need (spNeed CF)) (c_need_list : Callee P w K mg base (L2.CX P w) 4 "need_list" p_need_list (spList K CF))
    (m_at : MCallee P w K mg base (L2.CX P w) C 5 "at" p_Catches_at (spAt C CF)) (D : MDefIn K C "put" "Catches.put" s_Catches_put p_Catches_put) : MCallee P w K mg base (L2.CX P w) C 7 "put" p_Catches_put (spPut K C CF) := by
  refine mcallee D sc_Catches_put (fun vs H Q E h => ?_) (fun f cdv A outer s H vs Q E hr h => ⟨_, (pss_cons (ps_expr (pe_methC T.cl m_at (pv 0) (hr.mono (by decide)) (passes_call (takes_of rfl rfl rfl rfl) (fun _ _ _ _ h => h)) (pa_cons (pv 1) pa_nil)))
      (pss_cons (ps_expr (pe_callC c_need_list (hr.mono (by decide)) (by rfl) (passes_call (takes_of rfl rfl rfl rfl) (fun _ _ _ _ h => h)) (pa_cons (pv 2) (pa_cons (pe_glob (v := .int (8)) rfl T.g_MOST_KINDS ⟨_, rfl⟩) (pa_cons (pe_glob (v := .int (40)) rfl T.g_MOST_ANIMALS ⟨_, rfl⟩) pa_nil)))))
      (pss_cons (ps_expr (pe_callC c_need (hr.mono (by decide)) (by rfl) (passes_call (takes_of rfl rfl rfl rfl) (fun _ _ _ _ h => h)) (pa_cons (pe_cmpR op_gt (pe_callC c_size (hr.mono (by decide)) (by rfl) pass0 (pa_cons (pv 2) pa_nil)) pe_int (nomark _)) (pa_cons (pe_glob (v := .int (-1)) rfl T.g_OUT_OF_RANGE ⟨_, rfl⟩) pa_nil))))
      (pss_cons (ps_asg (pe_callTy call_list_of (by rfl) T.b_list (by decide +kernel) (pa_cons (pv 2) pa_nil)) (pg_sub (pe_fld (pv 0) rfl) (pv 1) set_list))
      (pss_one (ps_ret (pe_lst (pa_cons pe_int pa_nil)))))))), ?_⟩)
  · obtain ⟨_, _, _, _, _, _, rfl, _⟩ := h
    rfl
  · obtain ⟨c, s, l, st, p, ns, rfl, hl, hz, hc, o⟩ := h
    have rg : Vbecal.inRange st (.put p ns) = (Vbecal.isPlace p && (decide (1 ≤ ns.length ∧ ns.length ≤ 8) && (ns.all (fun c => Vbecal.within c 0 40) && ns.any fun c => decide (0 < c)))) := rfl
    have lk : listOk ns 8 40 = (decide (1 ≤ ns.length ∧ ns.length ≤ 8) && ns.all (fun c => Vbecal.within c 0 40)) := by
      unfold listOk
      congr 1
      rw [Bool.eq_iff_iff, Bool.and_eq_true, decide_eq_true_iff, decide_eq_true_iff, decide_eq_true_iff]
      omega
    refine Kw.m_at hc rfl (ea_cons (ev_var rfl) ea_nil) (fun hp a xs H1 e1 k1 k2 k3 k4 => ?_) (fun hp => o.range (by rw [rg, hp]; rfl))
    refine q_chk (ea_cons (ev_var rfl) (ea_cons ev_c (ea_cons ev_c ea_nil))) (sc_list (ex_l e1 hl) hz) (fun hb H2 e2 => ?_) (fun hb => (o.range (by rw [rg, hp, Bool.true_and, ← Bool.and_assoc, ← lk, hb]; rfl)).on e1)
    obtain ⟨hlen, hall⟩ := listOk_iff.mp hb
    have h0 : ∀ n ∈ ns, 0 ≤ n := fun n hn => (hall n hn).1
    have hany := any_pos h0
    have rg2 : Vbecal.inRange st (.put p ns) = decide (0 < ns.sum) := by rw [rg, hp, Bool.true_and, ← Bool.and_assoc, ← lk, hb, Bool.true_and, hany]
    have e12 := e1.trans e2
    refine q_chk (ea_cons (ev_op (ev_call (ea_cons (ev_var rfl) ea_nil) (sv_sizeI (ex_l e12 hl))) ev_c rv_I0) (ea_cons ev_c ea_nil)) sc_need' (fun hd H3 e3 => ?_) (fun hd => (o.range (rg2.trans hd)).on e12)
    have e13 := e12.trans e3
    have hc3 := hc.on e13
    obtain ⟨dx, t, i1, i2, i3⟩ := hc3.ins
    have hback := nats_back h0
    have smp : Smp (Vbecal.nats ns) := ⟨by rw [nats_len]; omega, fun a ha => by
      obtain ⟨n, hn, rfl⟩ := nats_mem ha
      have := (hall n hn).2
      omega⟩
    have pos : 0 < (Vbecal.nats ns).sum := by
      have := zs_sum (Vbecal.nats ns)
      rw [hback] at this
      have := of_decide_eq_true hd
      omega
    obtain ⟨as, g1, hlt, _⟩ := hc3.place hp (a := a) (xs := xs) (e3 _ _ (e2 _ _ k2)) (by
      obtain ⟨as', g1', _, g3'⟩ := hc3.tab
      intro z
      rw [z] at k2
      have z1 := e3 _ _ (e2 _ _ k2)
      rw [g1'] at z1
      have z2 := HO.lst.inj (Option.some.inj z1)
      cases as' with
      | nil =>
        obtain ⟨_, ⟨as2, q1, q2, _⟩, _, _⟩ := hc3
        rw [g1'] at q1
        have := congrArg List.length (HO.lst.inj (Option.some.inj q1))
        rw [List.length_map, List.length_map, q2] at this
        exact absurd this (by decide)
      | cons b bs =>
        cases xs with
        | nil => cases z2
        | cons x xs => cases z2) k3 k4
    refine q_setN (j := p.toNat) g1 (el_list (ev_var rfl) (ex_l e13 hl)) (ev_fld (ev_var rfl) i1 T.cl T.nS lk_here) (ev_is (ev_var rfl) (by
      obtain ⟨p0, p3⟩ := within_iff.mp hp
      rw [Int.toNat_of_nonneg p0])) (by rw [List.length_map]; exact hlt) fun r H4 hr4 e4 h4 => ?_
    have hc4 := hc3.on e4
    have nrs : r ≠ s := fun z => by rw [z, g1] at hr4; cases hr4
    obtain ⟨as', g1', hlt', hc5⟩ := hc4.place hp (a := r) (xs := Vbecal.nats ns) (by rw [hback]; exact h4) nrs smp pos
    have eas : as'.map V.ref = as.map V.ref := by
      have := e4 _ _ g1
      rw [g1'] at this
      exact HO.lst.inj (Option.some.inj this)
    rw [eas] at hc5
    have rok : run st (.put p ns) = .ok ({ st with samples := st.samples.set p.toNat (Vbecal.nats ns) }, [0]) := if_neg (not_false (rg2.trans hd))
    rw [rok] at o
    refine s_retL (el_lst (ea_cons ev_c ea_nil) (by decide)) fun v H6 hv e6 h6 => o v H6 h6 (hc5.on e6) (fun b ob hb h1 h2 => e6 _ _ (by rw [upd_ne h2]; exact e4 _ _ (e13 _ _ hb))) (noNew_place hc (e13.trans e4) (e4 _ _ g1) (fresh_back e13 hr4) e6)
/-! ### pool -/
abbrev s_Catches_pool : Stmt := (inClass (top 58) 16)
abbrev n_Catches_pool : List Str := ["self", "p", "q", "r", "one", "other", "both", "mine", "theirs"]
abbrev p_Catches_pool : List Str := ["self", "p", "q", "r"]
theorem sc_Catches_pool : FnScope n_Catches_pool p_Catches_pool (defScope s_Catches_pool) := ⟨rfl, rfl, rfl, by decide +kernel, rfl, by decide +kernel, by decide +kernel⟩
def both (xs ys : List Nat) : List Nat := (List.range xs.length).map fun i => xs.getD i 0 + ys.getD i 0
theorem both_len (xs ys : List Nat) : (both xs ys).length = xs.length := by simp [both]
theorem both_sum {xs ys : List Nat} (h : xs.length = ys.length) : (both xs ys).sum = xs.sum + ys.sum := by
  have h1 : ∀ l : List Nat, l.sum = Kc.N (fun i => l.getD i 0) l.length := fun l => by
    rw [← Kc.N_range]
    congr 1
    have := map_getD l 0 (fun x => x)
    simpa using this.symm
  unfold both
  rw [Kc.N_range, Kc.N_add, h1 xs, h1 ys, h]
theorem both_at {xs ys : List Nat} {i : Nat} (h : i < xs.length) : (both xs ys)[i]? = some (xs.getD i 0 + ys.getD i 0) := by
  unfold both
  rw [List.getElem?_map, List.getElem?_range h]; rfl
theorem el_zip {a b : Addr} {xs ys : List Nat} {i j : Nat} {vs : List Nat} {σ : L2.St} {ta : TA} {te : TE} (h : EvA ta σ H [.ref a, .ref b]) (hx : IL K H a (zs xs)) (hy : IL K H b (zs ys)) (hl : xs.length = ys.length) (hz : xs.length ≤ 40000)
    (hw : ∀ x y, wipe (((wipe σ vs).set i (some x)).set j (some y)) vs = wipe σ vs) (he : ∀ (k : Nat) H1, Ex H H1 → k < xs.length → Ev te (((wipe σ vs).set i (some (.int (xs.getD k 0 : Nat)))).set j (some (.int (ys.getD k 0 : Nat)))) H1 (.int ((xs.getD k 0 + ys.getD k 0 : Nat) : Int))) :
    EvL (tLc (iZip K ta) (gTup K 2 (gCons (gName i) (gCons (gName j) gNil))) tYes te vs) σ H ((zs (both xs ys)).map V.int) := fun H0 e Q q => h H0 e _ fun H1 e1 => ⟨a, b, _, _, rfl, ex_l (e.trans e1) hx, ex_l (e.trans e1) hy, fun Dl hD => by
  have hn : xs.length = min ((zs xs).map V.int).length ((zs ys).map V.int).length := by rw [List.length_map, List.length_map, zs_len, zs_len]; omega
  refine lc_it (walk_zip hn) (fun k H' => H1 Dl = none ∧ Ex H1 H' ∧ H' Dl = some (.lst (((zs (both xs ys)).map V.int).take k))) ⟨hD, Ex.new hD, upd_same⟩ (fun k H' _ p => ⟨ex_l ((e.trans e1).trans p.2.1) hx, ex_l ((e.trans e1).trans p.2.1) hy⟩) (fun k v H2 H3 hk p y => ?_) (fun H' p => ?_)
  · obtain ⟨T, x, z, rfl, hT, rfl, e2, e3⟩ := y
    obtain ⟨p1, p2, p3⟩ := p
    have e2 : ((zs xs).map V.int)[k]? = some x := e2
    have e3 : ((zs ys).map V.int)[k]? = some z := e3
    rw [zs_at hk] at e2
    rw [zs_at (by omega)] at e3
    have ex := (Option.some.inj e2).symm
    have ez := (Option.some.inj e3).symm
    subst ex ez
    refine ⟨T, _, rfl, st_of upd_same, rfl, _, _, rfl, _, _, rfl, rfl, hw _ _, ?_⟩
    show te _ (upd H2 T _) _
    have eT : Ex H2 (upd H2 T (.tup [.int (xs.getD k 0 : Nat), .int (ys.getD k 0 : Nat)])) := Ex.new hT
    refine he k _ ((e.trans e1).trans (p2.trans eT)) hk _ (Ex.refl _) _ fun H4 e4 => ⟨_, e4 _ _ (eT _ _ p3), sz_lt (by rw [List.length_take, List.length_map, zs_len, both_len]; omega), p1, ((p2.trans eT).trans e4).mut p1, ?_⟩
    rw [upd_same]
    congr 2
    have hb : ((zs (both xs ys)).map V.int)[k]? = some (V.int ((xs.getD k 0 + ys.getD k 0 : Nat) : Int)) := by
      unfold zs
      rw [List.getElem?_map, List.getElem?_map, both_at hk]; rfl
    rw [List.take_add_one, hb]; rfl
  · obtain ⟨p1, p2, p3⟩ := p
    rw [List.take_of_length_le (by rw [List.length_map, zs_len, both_len]; exact Nat.le_refl _)] at p3
    exact q Dl H' (fresh_back e1 p1) (e1.trans p2) p3⟩
theorem ev_maxL {σ : L2.St} {ta : TE} {a : Addr} {xs : List Nat} {b : Nat} (h : Ev ta σ H (.ref a)) (hs : IL K H a (zs xs)) (hz : 0 < xs.length) :
    ∀ H1, Ex H H1 → ∀ Q : VK, (∀ m H2, Ex H1 H2 → (∃ x ∈ xs, m = (x : Int)) → (∀ x ∈ xs, (x : Int) ≤ m) → Q (.int m) H2) → tCB (rMax K) (tCons ta tNil) σ H1 Q := fun H1 e Q q =>
  h H1 e _ fun H2 e2 => ⟨a, zs xs, rfl, ex_l (e.trans e2) hs, by rw [zs_len]; exact hz, fun m hm hle => q m H2 e2 (by
    obtain ⟨x, hx, rfl⟩ := zs_mem hm
    exact ⟨x, hx, rfl⟩) fun x hx => hle _ (List.mem_map.mpr ⟨x, hx, rfl⟩)⟩
theorem ok_mpool (T : Txt K mg C CC CF) (c_size : Callee P w K mg base CX0 1 "size" p_size (spSize K)) (c_need : Callee P w K mg base (L2.CX P w) 3 "need" p_need (spNeed CF)) (c_need_alike : Callee P w K mg base (L2.CX P w) 4 "need_alike" p_need_alike (spAlikeN K CF))
    (m_at : MCallee P w K mg base (L2.CX P w) C 5 "at" p_Catches_at (spAt C CF)) (D : MDefIn K C "pool" "Catches.pool" s_Catches_pool p_Catches_pool) : MCallee P w K mg base (L2.CX P w) C 7 "pool" p_Catches_pool (sp3 C CF .pool) := by
  refine mcallee D sc_Catches_pool (fun vs H Q E h => ?_) (fun f cdv A outer s H vs Q E hr h => ⟨_, (pss_cons (ps_par (i := 4) (j := 5) (by rfl) sc_Catches_pool.nd rfl rfl (by decide) rfl rfl (pa_cons (pe_methC T.cl m_at (pv 0) (hr.mono (by decide)) (passes_call (takes_of rfl rfl rfl rfl) (fun _ _ _ _ h => h)) (pa_cons (pv 1) pa_nil)) (pa_cons (pe_methC T.cl m_at (pv 0) (hr.mono (by decide)) (passes_call (takes_of rfl rfl rfl rfl) (fun _ _ _ _ h => h)) (pa_cons (pv 2) pa_nil)) pa_nil)) (by rfl))
      (pss_cons (ps_expr (pe_methC T.cl m_at (pv 0) (hr.mono (by decide)) (passes_call (takes_of rfl rfl rfl rfl) (fun _ _ _ _ h => h)) (pa_cons (pv 3) pa_nil)))
      (pss_cons (ps_expr (pe_callC c_need_alike (hr.mono (by decide)) (by rfl) (passes_call (takes_of rfl rfl rfl rfl) (fun _ _ _ _ h => h)) (pa_cons (pv 4) (pa_cons (pv 5) pa_nil))))
      (pss_cons (ps_setLc (i := 6) (own := [("mine", 7), ("theirs", 8)]) (g := gTup K 2 (gCons (gName 7) (gCons (gName 8) (gNil)))) (tt := tYes) rfl sc_Catches_pool.nd rfl rfl (sw_true rfl rfl rfl (by decide +kernel)) (pi_zip (by rfl) T.b_zip (pa_cons (pv 4) (pa_cons (pv 5) pa_nil))) (blkOk_by (N := n_Catches_pool) (sc := defScope s_Catches_pool) (by decide +kernel)) (fun _ _ _ _ _ => (pg_tup rfl (pgs_cons (pg_name (i := 7) sc_Catches_pool.nd rfl (Or.inl rfl)) (pgs_cons (pg_name (i := 8) sc_Catches_pool.nd rfl (Or.inl rfl)) pgs_nil)))) (fun _ _ _ _ _ => pts_nil) (fun _ _ _ _ _ => (pe_op op_add (pv 7) (pv 8))))
      (pss_cons (ps_expr (pe_callC c_need (hr.mono (by decide)) (by rfl) (passes_call (takes_of rfl rfl rfl rfl) (fun _ _ _ _ h => h)) (pa_cons (pe_cmpR op_le (pe_callB (cr_max rfl) (by rfl) T.b_max (by decide +kernel) (pa_cons (pv 6) pa_nil)) (pe_glob (v := .int (40)) rfl T.g_MOST_ANIMALS ⟨_, rfl⟩) (nomark _)) (pa_cons (pe_glob (v := .int (-4)) rfl T.g_TOO_MANY ⟨_, rfl⟩) pa_nil))))
      (pss_cons (ps_asg (pv 6) (pg_sub (pe_fld (pv 0) rfl) (pv 3) set_list))
      (pss_one (ps_ret (pe_lst (pa_cons (pe_callC c_size (hr.mono (by decide)) (by rfl) pass0 (pa_cons (pv 6) pa_nil)) pa_nil)))))))))), ?_⟩)
  · obtain ⟨_, _, _, _, _, _, rfl, _⟩ := h
    rfl
  · obtain ⟨c, s, st, p, q, r, rfl, hc, o⟩ := h
    have rg : Vbecal.inRange st (.pool p q r) = (Vbecal.isPlace p && (Vbecal.isPlace q && Vbecal.isPlace r)) := rfl
    refine Kw.m_at hc rfl (ea_cons (ev_var rfl) ea_nil) (fun hp a xs H1 e1 k1 k2 k3 k4 => ?_) (fun hp => o.range (by rw [rg, hp]; rfl))
    refine Kw.m_at (hc.on e1) rfl (ea_cons (ev_var rfl) ea_nil) (fun hq b ys H2 e2 j1 j2 j3 j4 => ?_) (fun hq => (o.range (by rw [rg, hp, hq]; rfl)).on e1)
    refine ⟨_, _, rfl, ?_⟩
    have e12 := e1.trans e2
    refine Kw.m_at (hc.on e12) rfl (ea_cons (ev_var rfl) ea_nil) (fun hr3 d us H3 e3 u1 u2 u3 u4 => ?_) (fun hr3 => (o.range (by rw [rg, hp, hq, hr3]; rfl)).on e12)
    have e13 := e12.trans e3
    have hx := il_of (K := K) (e3 _ _ (e2 _ _ k2))
    have hy := il_of (K := K) (e3 _ _ j2)
    have nf := not_false (rg.trans (by rw [hp, hq, hr3]; rfl))
    have sp := sample_of k1
    have sq := sample_of j1
    refine q_chk (ea_cons (ev_var rfl) (ea_cons (ev_var rfl) ea_nil)) (sc_alike' hx hy) (fun hg H4 e4 => ?_) (fun hg => (o.bad ?_).on e13)
    · have hg := of_decide_eq_true hg
      have ne : ¬ (st.sample p).length ≠ (st.sample q).length := by rw [sp, sq]; exact fun h => h hg
      have l1 : 0 < xs.length := by
        cases xs with
        | nil => exact absurd k4 (by decide)
        | cons x xs => exact Nat.succ_pos _
      refine q_asgL (el_zip (i := 7) (j := 8) (vs := [7, 8]) (ea_cons (ev_var rfl) (ea_cons (ev_var rfl) ea_nil)) (ex_l e4 hx) (ex_l e4 hy) hg (by have := k3.len; omega) (fun _ _ => rfl) (fun k H5 e5 hk => ev_is (ev_op (ev_var rfl) (ev_var rfl) rv_I0) (by rw [Int.natCast_add]))) fun l H5 hl5 e5 h5 => ?_
      have e15 := (e13.trans e4).trans e5
      -- need(max(both) <= 40, -4)
      refine ev_maxL (b := 0) (σ := [some (.ref c), some (.int p), some (.int q), some (.int r), some (.ref a), some (.ref b), some (.ref l), none, none]) (ev_var (i := 6) rfl) (il_of h5) (by rw [both_len]; exact l1) H5 (Ex.refl H5) _ fun m H6 e6 hm1 hm2 => ?_
      have e16 := e15.trans e6
      have hany : ((both xs ys).any fun c => decide (40 < c)) = !decide (m ≤ 40) := by
        rw [Bool.eq_iff_iff, List.any_eq_true, Bool.not_eq_true', decide_eq_false_iff_not]
        constructor
        · rintro ⟨x, hx, h⟩
          have := of_decide_eq_true h
          have := hm2 x hx
          omega
        · intro h
          obtain ⟨x, hx, rfl⟩ := hm1
          exact ⟨x, hx, decide_eq_true (by omega)⟩
      refine ⟨m, 40, rfl, rfl, ?_⟩
      refine sc_need' (H := H6) H6 (Ex.refl H6) _ _ (fun hb H7 e7 => ?_) (fun hb => (o.bad ?_).on e16)
      · have hb' := of_decide_eq_true hb
        have hc7 := hc.on (e16.trans e7)
        have h7 := e7 _ _ (e6 _ _ h5)
        obtain ⟨dx, t, i1, i2, i3⟩ := hc7.ins
        have nls : l ≠ s := fun z => by
          obtain ⟨as', g1', g2', _⟩ := (hc.on (e13.trans e4)).tab
          rw [z, g1'] at hl5
          cases hl5
        have smp : Smp (both xs ys) := ⟨by rw [both_len]; exact k3.len, fun x hx => by
          have := hm2 x hx
          omega⟩
        have pos : 0 < (both xs ys).sum := by rw [both_sum hg]; omega
        obtain ⟨as, g1, hlt, hc8⟩ := hc7.place hr3 (a := l) h7 nls smp pos
        have rok : run st (.pool p q r) = .ok ({ st with samples := st.samples.set r.toNat (both xs ys) }, [((both xs ys).sum : Int)]) := (if_neg nf).trans ((if_neg ne).trans (by
          have nany : ¬ (((List.range (st.sample p).length).map fun i => (st.sample p).getD i 0 + (st.sample q).getD i 0).any fun c => decide (40 < c)) = true := by
            rw [sp, sq]
            show ¬ ((both xs ys).any fun c => decide (40 < c)) = true
            rw [hany, hb]; decide
          refine (if_neg nany).trans ?_
          show Except.ok (if (st.sample p).length ≠ (st.sample q).length then _ else _) = _
          rw [if_neg ne]
          try dsimp only
          rw [if_neg nany, sp, sq, Kc.all_eq]; rfl))
        rw [rok] at o
        refine q_setL (j := r.toNat) g1 (ev_var rfl) (ev_fld (ev_var rfl) i1 T.cl T.nS lk_here) (ev_is (ev_var rfl) (by
          obtain ⟨p0, p3⟩ := within_iff.mp hr3
          rw [Int.toNat_of_nonneg p0])) (by rw [List.length_map]; exact hlt) fun H8 e8 => ?_
        have hc9 : CatsAt C (upd H8 s (.lst ((as.map V.ref).set r.toNat (.ref l)))) c s { st with samples := st.samples.set r.toNat (both xs ys) } := by
          obtain ⟨as', g1', _, hc'⟩ := (hc7.on e8).place hr3 (a := l) (e8 _ _ h7) nls smp pos
          have eas : as'.map V.ref = as.map V.ref := by
            have := e8 _ _ g1
            rw [g1'] at this
            exact HO.lst.inj (Option.some.inj this)
          rw [eas] at hc'
          exact hc'
        refine s_retL (el_lst (ea_cons (ev_call (ea_cons (ev_var rfl) ea_nil) (sv_size (il_of (a := l) (by rw [upd_ne nls]; exact e8 _ _ h7)))) ea_nil) (by show 1 ≤ 100000; omega)) fun v H9 hv e9 h9 => o v H9 h9 (hc9.on e9) (fun b ob hb h1 h2 => e9 _ _ (by rw [upd_ne h2]; exact e8 _ _ ((e16.trans e7) _ _ hb))) (noNew_place hc ((e16.trans e7).trans e8) (e8 _ _ g1) (fresh_back (e13.trans e4) hl5) e9)
      · refine (if_neg nf).trans ((if_neg ne).trans (if_pos ?_))
        rw [sp, sq]
        show ((both xs ys).any fun c => decide (40 < c)) = true
        rw [hany, hb]; rfl
    · have hg := of_decide_eq_false hg
      exact (if_neg nf).trans (if_pos (by rw [sp, sq]; exact hg))
/-! ### plots -/
abbrev s_Catches_plots : Stmt := (inClass (top 58) 17)
abbrev n_Catches_plots : List Str := ["self", "some"]
abbrev p_Catches_plots : List Str := ["self", "some"]
theorem sc_Catches_plots : FnScope n_Catches_plots p_Catches_plots (defScope s_Catches_plots) := ⟨rfl, rfl, rfl, by decide +kernel, rfl, by decide +kernel, by decide +kernel⟩
theorem ok_mplots (T : Txt K mg C CC CF) (c_need_list : Callee P w K mg base (L2.CX P w) 4 "need_list" p_need_list (spList K CF)) (D : MDefIn K C "plots" "Catches.plots" s_Catches_plots p_Catches_plots) :
    MCallee P w K mg base (L2.CX P w) C 7 "plots" p_Catches_plots (spPlots K C CF) := by
  refine mcallee D sc_Catches_plots (fun vs H Q E h => ?_) (fun f cdv A outer s H vs Q E hr h => ⟨_, (pss_cons (ps_expr (pe_callC c_need_list (hr.mono (by decide)) (by rfl) (passes_call (takes_of rfl rfl rfl rfl) (fun _ _ _ _ h => h)) (pa_cons (pv 1) (pa_cons (pe_glob (v := .int (30)) rfl T.g_MOST_PLOTS ⟨_, rfl⟩) (pa_cons (pe_glob (v := .int (255)) rfl T.g_MOST_PLOT ⟨_, rfl⟩) pa_nil)))))
      (pss_cons (ps_fld (pv 0) (pe_callTy call_list_of (by rfl) T.b_list (by decide +kernel) (pa_cons (pv 1) pa_nil)) rfl)
      (pss_one (ps_ret (pe_lst (pa_cons pe_int pa_nil)))))), ?_⟩)
  · obtain ⟨_, _, _, _, _, rfl, _⟩ := h
    rfl
  · obtain ⟨c, s, l, st, ns, rfl, hl, hz, hc, o⟩ := h
    have rg : Vbecal.inRange st (.plots ns) = listOk ns 30 255 := by
      show (decide (1 ≤ ns.length ∧ ns.length ≤ 30) && ns.all fun m => Vbecal.within m 0 255) = _
      unfold listOk
      congr 1
      rw [Bool.eq_iff_iff, Bool.and_eq_true, decide_eq_true_iff, decide_eq_true_iff, decide_eq_true_iff]
      omega
    refine q_chk (ea_cons (ev_var rfl) (ea_cons ev_c (ea_cons ev_c ea_nil))) (sc_list hl hz) (fun hb H2 e2 => ?_) (fun hb => o.range (rg.trans hb))
    obtain ⟨hlen, hall⟩ := listOk_iff.mp hb
    have hback := nats_back (ns := ns) fun n hn => (hall n hn).1
    refine q_fldL (el_list (K := K) (ev_var (i := 1) rfl) (ex_l e2 hl)) fun t H3 ht e3 h3 => ?_
    have hc3 := hc.on (e2.trans e3)
    obtain ⟨⟨dx, t0, i1, i2, i3⟩, ⟨as, g1, g2, g3⟩, f4, pl⟩ := hc3
    have nts : t ≠ s := fun z => by
      obtain ⟨as', g1', _⟩ := (hc.on e2).tab
      rw [z, g1'] at ht
      cases ht
    have ntc : t ≠ c := fun z => by
      obtain ⟨dx', t', i1', _⟩ := (hc.on e2).ins
      rw [z, i1'] at ht
      cases ht
    have hcs : c ≠ s := ne_of i1 g1 (by intro z; cases z)
    refine ⟨.ref c, rfl, c, C, dx, _, rfl, i1, T.cl, T.nT, (by show 2 < 1000; decide), ?_⟩
    have rok : run st (.plots ns) = .ok ({ st with plots := Vbecal.nats ns }, [0]) := if_neg (not_false (rg.trans hb))
    rw [rok] at o
    have hc4 : CatsAt C (upd H3 c (.ins C dx (putF "sets" (.ref t) [(("samples" : Str), .ref s), (("sets" : Str), .ref t0)]))) c s { st with plots := Vbecal.nats ns } := by
      refine ⟨⟨dx, t, ?_, nts, ?_⟩, ⟨as, by rw [upd_ne hcs.symm]; exact g1, g2, fun i a ha => ?_⟩, f4, by show 1 ≤ (Vbecal.nats ns).length ∧ (Vbecal.nats ns).length ≤ 30; rw [nats_len]; omega⟩
      · rw [upd_same]
        congr 2
      · rw [upd_ne ntc, h3]
        show _ = some (HO.lst ((zs (Vbecal.nats ns)).map V.int))
        rw [hback]
      · obtain ⟨n, xs, k1, k2, k3⟩ := g3 i a ha
        have nac : a ≠ c := ne_of k2 i1 (by intro z; cases z)
        exact ⟨n, xs, k1, by rw [upd_ne nac]; exact k2, k3⟩
    refine s_retL (σ := [some (.ref c), some (.ref l)]) (el_lst (ea_cons ev_c ea_nil) (by decide)) fun v H6 hv e6 h6 => o v H6 h6 (hc4.on e6) (fun b ob hb h1 h2 => e6 _ _ (by rw [upd_ne h1]; exact (e2.trans e3) _ _ hb)) (fun f ob hf hn ho => ?_)
    rcases ho with ⟨dx', fs', w1, w2⟩ | ⟨ys, w1, w2⟩
    · have j := e6 c _ upd_same
      rw [w1] at j
      have j2 := (HO.ins.inj (Option.some.inj j)).2.2
      rw [j2, show putF ("sets" : Str) (V.ref t) [(("samples" : Str), V.ref s), (("sets" : Str), V.ref t0)] = [(("samples" : Str), V.ref s), (("sets" : Str), V.ref t)] from rfl, lk_sets] at w2
      have ef : t = f := V.ref.inj (Option.some.inj w2)
      rw [← ef, fresh_back e2 ht] at hf
      cases hf
    · have j := e6 s _ (show (upd H3 c _) s = _ by rw [upd_ne hcs.symm]; exact g1)
      rw [w1] at j
      have hs0 : H s = some (.lst ys) := by
        obtain ⟨as0, k1, _⟩ := hc.tab
        have j3 := (e2.trans e3) _ _ k1
        rw [g1] at j3
        rw [k1, ← Option.some.inj j3, Option.some.inj j]
      exact hn (.inr ⟨ys, hs0, w2⟩)
end
end Kw


/-! catches.py: a call is read -/
namespace Kw
open PySem PySem.Spec PyProof.Rows L2 Evl
/-! ### the flat list, plainly -/
def wordOf (k : Nat) : Str := match k with
  | 0 => "put" | 1 => "told" | 2 => "size" | 3 => "expected" | 4 => "variance" | 5 => "ways" | 6 => "times" | 7 => "powers" | 8 => "alike" | 9 => "evener" | 10 => "richer" | 11 => "turns" | 12 => "shared" | 13 => "pool" | 14 => "plots" | _ => "over plots"
def plainOf (k : Nat) : Nat := match k with
  | 0 => 1 | 1 => 1 | 2 => 1 | 3 => 2 | 4 => 2 | 5 => 2 | 6 => 3 | 7 => 2 | 8 => 1 | 9 => 2 | 10 => 3 | 11 => 2 | 12 => 4 | 13 => 3 | 14 => 0 | _ => 1
def listed (k : Nat) : Bool := k == 0 || k == 14
/-- the words of a call, and what it means -/
inductive CallIs : Str → List Int → List Int → Vbecal.Call → Prop
  | put (p : Int) (r : List Int) : CallIs "put" [p] r (.put p r)
  | told (p : Int) (r : List Int) : CallIs "told" [p] r (.told p)
  | size (p : Int) (r : List Int) : CallIs "size" [p] r (.size p)
  | expected (p n : Int) (r : List Int) : CallIs "expected" [p, n] r (.expected p n)
  | variance (p n : Int) (r : List Int) : CallIs "variance" [p, n] r (.variance p n)
  | ways (p n : Int) (r : List Int) : CallIs "ways" [p, n] r (.ways p n)
  | times (p n j : Int) (r : List Int) : CallIs "times" [p, n, j] r (.metTimes p n j)
  | powers (p q : Int) (r : List Int) : CallIs "powers" [p, q] r (.powers p q)
  | alike (p : Int) (r : List Int) : CallIs "alike" [p] r (.alike p)
  | evener (p q : Int) (r : List Int) : CallIs "evener" [p, q] r (.evener p q)
  | richer (p q n : Int) (r : List Int) : CallIs "richer" [p, q, n] r (.richer p q n)
  | turns (p q : Int) (r : List Int) : CallIs "turns" [p, q] r (.turns p q)
  | shared (p q n m : Int) (r : List Int) : CallIs "shared" [p, q, n, m] r (.shared p q n m)
  | pool (p q r0 : Int) (r : List Int) : CallIs "pool" [p, q, r0] r (.pool p q r0)
  | plots (r : List Int) : CallIs "plots" [] r (.plots r)
  | over (h : Int) (r : List Int) : CallIs "over plots" [h] r (.overPlots h)
/-- a call of the list at a place: its number, its numbers, its row, where the next begins -/
structure Here (ns : List Int) (place : Nat) (k : Nat) (nums row : List Int) (e : Nat) : Prop where
  k16 : k < 16
  at0 : ns[place]? = some (k : Int)
  fit : place + 1 + plainOf k ≤ ns.length
  nums_ : nums = (ns.drop (place + 1)).take (plainOf k)
  no : listed k = false → row = [] ∧ e = place + 1 + plainOf k
  yes : listed k = true → ∃ z : Nat, ns[place + 1 + plainOf k]? = some (z : Int) ∧ place + 1 + plainOf k + 1 + z ≤ ns.length ∧ row = (ns.drop (place + 1 + plainOf k + 1)).take z ∧ e = place + 1 + plainOf k + 1 + z
theorem Here.after {ns : List Int} {place k e : Nat} {nums row : List Int} (h : Here ns place k nums row e) : place < e ∧ e ≤ ns.length := by
  cases c : listed k with
  | false =>
    obtain ⟨_, h2⟩ := h.no c
    have := h.fit
    omega
  | true =>
    obtain ⟨z, h1, h2, h3, h4⟩ := h.yes c
    omega
theorem shape_of {p : Int} {m r : Nat} (h : PyVbecal.shape p = some (m, r)) : ∃ k : Nat, k < 16 ∧ p = (k : Int) ∧ m = plainOf k ∧ r = if listed k then 1 else 0 := by
  unfold PyVbecal.shape at h
  by_cases h0 : p = 0
  · rw [if_pos h0] at h
    obtain ⟨rfl, rfl⟩ := Prod.mk.inj (Option.some.inj h)
    exact ⟨0, by decide, h0, rfl, rfl⟩
  rw [if_neg h0] at h
  by_cases h1 : p = 1
  · rw [if_pos h1] at h
    obtain ⟨rfl, rfl⟩ := Prod.mk.inj (Option.some.inj h)
    exact ⟨1, by decide, h1, rfl, rfl⟩
  rw [if_neg h1] at h
  by_cases h2 : p = 2
  · rw [if_pos h2] at h
    obtain ⟨rfl, rfl⟩ := Prod.mk.inj (Option.some.inj h)
    exact ⟨2, by decide, h2, rfl, rfl⟩
  rw [if_neg h2] at h
  by_cases h3 : p = 3
  · rw [if_pos h3] at h
    obtain ⟨rfl, rfl⟩ := Prod.mk.inj (Option.some.inj h)
    exact ⟨3, by decide, h3, rfl, rfl⟩
  rw [if_neg h3] at h
  by_cases h4 : p = 4
  · rw [if_pos h4] at h
    obtain ⟨rfl, rfl⟩ := Prod.mk.inj (Option.some.inj h)
    exact ⟨4, by decide, h4, rfl, rfl⟩
  rw [if_neg h4] at h
  by_cases h5 : p = 5
  · rw [if_pos h5] at h
    obtain ⟨rfl, rfl⟩ := Prod.mk.inj (Option.some.inj h)
    exact ⟨5, by decide, h5, rfl, rfl⟩
  rw [if_neg h5] at h
  by_cases h6 : p = 6
  · rw [if_pos h6] at h
    obtain ⟨rfl, rfl⟩ := Prod.mk.inj (Option.some.inj h)
    exact ⟨6, by decide, h6, rfl, rfl⟩
  rw [if_neg h6] at h
  by_cases h7 : p = 7
  · rw [if_pos h7] at h
    obtain ⟨rfl, rfl⟩ := Prod.mk.inj (Option.some.inj h)
    exact ⟨7, by decide, h7, rfl, rfl⟩
  rw [if_neg h7] at h
  by_cases h8 : p = 8
  · rw [if_pos h8] at h
    obtain ⟨rfl, rfl⟩ := Prod.mk.inj (Option.some.inj h)
    exact ⟨8, by decide, h8, rfl, rfl⟩
  rw [if_neg h8] at h
  by_cases h9 : p = 9
  · rw [if_pos h9] at h
    obtain ⟨rfl, rfl⟩ := Prod.mk.inj (Option.some.inj h)
    exact ⟨9, by decide, h9, rfl, rfl⟩
  rw [if_neg h9] at h
  by_cases h10 : p = 10
  · rw [if_pos h10] at h
    obtain ⟨rfl, rfl⟩ := Prod.mk.inj (Option.some.inj h)
    exact ⟨10, by decide, h10, rfl, rfl⟩
  rw [if_neg h10] at h
  by_cases h11 : p = 11
  · rw [if_pos h11] at h
    obtain ⟨rfl, rfl⟩ := Prod.mk.inj (Option.some.inj h)
    exact ⟨11, by decide, h11, rfl, rfl⟩
  rw [if_neg h11] at h
  by_cases h12 : p = 12
  · rw [if_pos h12] at h
    obtain ⟨rfl, rfl⟩ := Prod.mk.inj (Option.some.inj h)
    exact ⟨12, by decide, h12, rfl, rfl⟩
  rw [if_neg h12] at h
  by_cases h13 : p = 13
  · rw [if_pos h13] at h
    obtain ⟨rfl, rfl⟩ := Prod.mk.inj (Option.some.inj h)
    exact ⟨13, by decide, h13, rfl, rfl⟩
  rw [if_neg h13] at h
  by_cases h14 : p = 14
  · rw [if_pos h14] at h
    obtain ⟨rfl, rfl⟩ := Prod.mk.inj (Option.some.inj h)
    exact ⟨14, by decide, h14, rfl, rfl⟩
  rw [if_neg h14] at h
  by_cases h15 : p = 15
  · rw [if_pos h15] at h
    obtain ⟨rfl, rfl⟩ := Prod.mk.inj (Option.some.inj h)
    exact ⟨15, by decide, h15, rfl, rfl⟩
  rw [if_neg h15] at h
  cases h
theorem call_here {ns : List Int} {place : Nat} {c : List (List Int)} {t : List Int} (h : PyFlat.call PyVbecal.shape (ns.drop place) = some (c, t)) :
    ∃ k nums row e, Here ns place k nums row e ∧ t = ns.drop e ∧ c = ((k : Int) :: nums) :: (if listed k then [row] else []) ∧ nums.length = plainOf k := by
  cases hd : ns.drop place with
  | nil => rw [hd] at h; cases h
  | cons p r =>
    rw [hd] at h
    have hat : ns[place]? = some p := by
      have := List.getElem?_drop (xs := ns) (i := place) (j := 0)
      rw [hd] at this
      exact this.symm
    have hr : r = ns.drop (place + 1) := by
      have := congrArg List.tail hd
      rw [List.tail_drop] at this
      exact this.symm
    have hp : place < ns.length := (List.getElem?_eq_some_iff.mp hat).1
    have h' : (match PyVbecal.shape p with
      | none => none
      | some (n, k) => if r.length < n then none else match PyFlat.rows k (r.drop n) with
        | none => none
        | some (xs, t) => some ((p :: r.take n) :: xs, t)) = some (c, t) := h
    cases hs : PyVbecal.shape p with
    | none => rw [hs] at h'; cases h'
    | some mr =>
      obtain ⟨m, q⟩ := mr
      obtain ⟨k, hk, rfl, rfl, rfl⟩ := shape_of hs
      rw [hs] at h'
      have h2 : (if r.length < plainOf k then none else match PyFlat.rows (if listed k then 1 else 0) (r.drop (plainOf k)) with
        | none => none
        | some (xs, t) => some (((k : Int) :: r.take (plainOf k)) :: xs, t)) = some (c, t) := h'
      by_cases hl : r.length < plainOf k
      · rw [if_pos hl] at h2; cases h2
      · rw [if_neg hl] at h2
        have rl : r.length = ns.length - (place + 1) := by rw [hr, List.length_drop]
        have fit : place + 1 + plainOf k ≤ ns.length := by omega
        have dr : r.drop (plainOf k) = ns.drop (place + 1 + plainOf k) := by rw [hr, List.drop_drop]
        have nl : (r.take (plainOf k)).length = plainOf k := by rw [List.length_take]; omega
        cases lk : listed k with
        | false =>
          rw [lk] at h2
          have h3 : some (((k : Int) :: r.take (plainOf k)) :: [], r.drop (plainOf k)) = some (c, t) := h2
          obtain ⟨rfl, rfl⟩ := Prod.mk.inj (Option.some.inj h3)
          exact ⟨k, r.take (plainOf k), [], place + 1 + plainOf k, ⟨hk, hat, fit, by rw [hr], fun _ => ⟨rfl, rfl⟩, fun z => (by rw [lk] at z; cases z)⟩, dr, by rw [lk]; rfl, nl⟩
        | true =>
          rw [lk, dr] at h2
          cases hd2 : ns.drop (place + 1 + plainOf k) with
          | nil => rw [hd2] at h2; cases h2
          | cons z r2 =>
            rw [hd2] at h2
            have hat2 : ns[place + 1 + plainOf k]? = some z := by
              have := List.getElem?_drop (xs := ns) (i := place + 1 + plainOf k) (j := 0)
              rw [hd2] at this
              exact this.symm
            have hr2 : r2 = ns.drop (place + 1 + plainOf k + 1) := by
              have := congrArg List.tail hd2
              rw [List.tail_drop] at this
              exact this.symm
            have h3 : (match (match (if 0 ≤ z ∧ z.toNat ≤ r2.length then some (r2.take z.toNat, r2.drop z.toNat) else none) with
                | none => none
                | some (x, s) => some ([x], s)) with
              | none => none
              | some (xs, t) => some (((k : Int) :: r.take (plainOf k)) :: xs, t)) = some (c, t) := by
              have e : PyFlat.rows 1 (z :: r2) = (match (if 0 ≤ z ∧ z.toNat ≤ r2.length then some (r2.take z.toNat, r2.drop z.toNat) else none) with
                | none => none
                | some (x, s) => some ([x], s)) := rfl
              rw [← e]
              exact h2
            by_cases hz : 0 ≤ z ∧ z.toNat ≤ r2.length
            · rw [if_pos hz] at h3
              have h4 : some (((k : Int) :: r.take (plainOf k)) :: [r2.take z.toNat], r2.drop z.toNat) = some (c, t) := h3
              obtain ⟨rfl, rfl⟩ := Prod.mk.inj (Option.some.inj h4)
              have l2 : r2.length = ns.length - (place + 1 + plainOf k + 1) := by rw [hr2, List.length_drop]
              have lt2 := (List.getElem?_eq_some_iff.mp hat2).1
              refine ⟨k, r.take (plainOf k), r2.take z.toNat, place + 1 + plainOf k + 1 + z.toNat, ⟨hk, hat, fit, by rw [hr], fun y => (by rw [lk] at y; cases y), fun _ => ⟨z.toNat, by rw [hat2, Int.toNat_of_nonneg hz.1], by omega, by rw [hr2], rfl⟩⟩, by rw [hr2, List.drop_drop], by rw [lk]; rfl, nl⟩
            · rw [if_neg hz] at h3
              cases h3
/-- what the call means -/
theorem here_is {k : Nat} {nums row : List Int} (hk : k < 16) (hl : nums.length = plainOf k) : ∃ d, CallIs (wordOf k) nums row d ∧ Vbecal.decode (((k : Int) :: nums) :: (if listed k then [row] else [])) = some d := by
  have n0 : nums.length = 0 → nums = [] := fun h => List.length_eq_zero_iff.mp h
  have n1 : nums.length = 1 → ∃ a, nums = [a] := fun h => List.length_eq_one_iff.mp h
  have n2 : nums.length = 2 → ∃ a b, nums = [a, b] := fun h => by
    match nums, h with
    | [a, b], _ => exact ⟨a, b, rfl⟩
  have n3 : nums.length = 3 → ∃ a b c, nums = [a, b, c] := fun h => by
    match nums, h with
    | [a, b, c], _ => exact ⟨a, b, c, rfl⟩
  have n4 : nums.length = 4 → ∃ a b c d, nums = [a, b, c, d] := fun h => by
    match nums, h with
    | [a, b, c, d], _ => exact ⟨a, b, c, d, rfl⟩
  match k, hk with
  | 0, _ => obtain ⟨a, rfl⟩ := n1 hl; exact ⟨_, .put a row, rfl⟩
  | 1, _ => obtain ⟨a, rfl⟩ := n1 hl; exact ⟨_, .told a row, rfl⟩
  | 2, _ => obtain ⟨a, rfl⟩ := n1 hl; exact ⟨_, .size a row, rfl⟩
  | 3, _ => obtain ⟨a, b, rfl⟩ := n2 hl; exact ⟨_, .expected a b row, rfl⟩
  | 4, _ => obtain ⟨a, b, rfl⟩ := n2 hl; exact ⟨_, .variance a b row, rfl⟩
  | 5, _ => obtain ⟨a, b, rfl⟩ := n2 hl; exact ⟨_, .ways a b row, rfl⟩
  | 6, _ => obtain ⟨a, b, c, rfl⟩ := n3 hl; exact ⟨_, .times a b c row, rfl⟩
  | 7, _ => obtain ⟨a, b, rfl⟩ := n2 hl; exact ⟨_, .powers a b row, rfl⟩
  | 8, _ => obtain ⟨a, rfl⟩ := n1 hl; exact ⟨_, .alike a row, rfl⟩
  | 9, _ => obtain ⟨a, b, rfl⟩ := n2 hl; exact ⟨_, .evener a b row, rfl⟩
  | 10, _ => obtain ⟨a, b, c, rfl⟩ := n3 hl; exact ⟨_, .richer a b c row, rfl⟩
  | 11, _ => obtain ⟨a, b, rfl⟩ := n2 hl; exact ⟨_, .turns a b row, rfl⟩
  | 12, _ => obtain ⟨a, b, c, d, rfl⟩ := n4 hl; exact ⟨_, .shared a b c d row, rfl⟩
  | 13, _ => obtain ⟨a, b, c, rfl⟩ := n3 hl; exact ⟨_, .pool a b c row, rfl⟩
  | 14, _ => obtain rfl := n0 hl; exact ⟨_, .plots row, rfl⟩
  | 15, _ => obtain ⟨a, rfl⟩ := n1 hl; exact ⟨_, .over a row, rfl⟩
  | k + 16, h => exact absurd h (by omega)
theorem words_at {k : Nat} (h : k < 16) : wordsV[k]? = some (.str (wordOf k)) := by
  match k, h with
  | 0, _ | 1, _ | 2, _ | 3, _ | 4, _ | 5, _ | 6, _ | 7, _ | 8, _ | 9, _ | 10, _ | 11, _ | 12, _ | 13, _ | 14, _ | 15, _ => rfl
  | k + 16, h => exact absurd h (by omega)
theorem plain_at {k : Nat} (h : k < 16) : plainV[k]? = some (.int (plainOf k : Nat)) := by
  match k, h with
  | 0, _ | 1, _ | 2, _ | 3, _ | 4, _ | 5, _ | 6, _ | 7, _ | 8, _ | 9, _ | 10, _ | 11, _ | 12, _ | 13, _ | 14, _ | 15, _ => rfl
  | k + 16, h => exact absurd h (by omega)
theorem with_in {k : Nat} (h : k < 16) : inV (.str (wordOf k)) withV = listed k := by
  match k, h with
  | 0, _ | 1, _ | 2, _ | 3, _ | 4, _ | 5, _ | 6, _ | 7, _ | 8, _ | 9, _ | 10, _ | 11, _ | 12, _ | 13, _ | 14, _ | 15, _ => decide +kernel
  | k + 16, h => exact absurd h (by omega)
theorem plain_le (k : Nat) : plainOf k ≤ 4 := by
  unfold plainOf
  split <;> decide
theorem cut_mid {xs : List V} {i j : Nat} (h : i ≤ j) (hj : j ≤ xs.length) : cutV xs (some (i : Int)) (some (j : Int)) = (xs.drop i).take (j - i) := by
  unfold cutV
  rw [HT.sIx_nat, HT.sIx_nat, Nat.min_eq_left (a := j) hj, Nat.min_eq_left (a := i) (Nat.le_trans h hj)]
theorem ints_cut {ns : List Int} {i m : Nat} : ((ns.map V.int).drop i).take m = ((ns.drop i).take m).map V.int := by
  rw [List.map_take, List.map_drop]
/-- a call's object -/
def callF (w : Str) (n l : Addr) (e : Int) : List (Str × V) := [(("word" : Str), .str w), (("numbers" : Str), .ref n), (("some" : Str), .ref l), (("end" : Str), .int e)]
section
variable {P : Program} {w : World} {K : PySem.W.Frag} {mg : Str → Option Value} {base : Heap} {H : Hp} {C CC CF : Addr}
/-! ### Call.__init__ -/
abbrev s_Call___init__ : Stmt := (inClass (top 63) 0)
abbrev n_Call___init__ : List Str := ["self", "word", "numbers", "some", "end"]
abbrev p_Call___init__ : List Str := ["self", "word", "numbers", "some", "end"]
theorem sc_Call___init__ : FnScope n_Call___init__ p_Call___init__ (defScope s_Call___init__) := ⟨rfl, rfl, rfl, by decide +kernel, rfl, by decide +kernel, by decide +kernel⟩
def spCallI (CC : Addr) : Sp := fun vs H Q _ => ∃ (x dx : Addr) (w : Str) (n l : Addr) (e : Int), vs = [.ref x, .str w, .ref n, .ref l, .int e] ∧ H x = some (.ins CC dx []) ∧ ∀ H', H' x = some (.ins CC dx (callF w n l e)) → (∀ b o, H b = some o → b ≠ x → H' b = some o) → Q .non H'
theorem put_new {f : Str} {v : V} : ∀ {fs : List (Str × V)} {ks : List Str}, fs.map (·.1) = ks → f ∉ ks → putF f v fs = fs ++ [(f, v)]
  | [], _, _, _ => rfl
  | (g, x) :: r, ks, h, hf => by
    subst h
    have h1 : ¬ g = f := fun z => hf (by rw [← z]; exact List.mem_cons_self ..)
    show (if g = f then (g, v) :: r else (g, x) :: putF f v r) = _
    rw [if_neg h1, put_new rfl fun z => hf (List.mem_cons_of_mem _ z)]; rfl
theorem ok_calli (T : Txt K mg C CC CF) {f : Addr} {fd : FuncData} (F : Fun K "__init__" "Call.__init__" s_Call___init__ f fd) (M : Mk K CC f) (g : mg "Call" = some (.ref CC)) (b : Binds K fd p_Call___init__ []) :
    KCallee P w K mg base CX0 CC 1 "Call" p_Call___init__ (spCallI CC) := by
  refine ⟨f, fd, F.ok sc_Call___init__ (fun vs H Q E h => ?_) (fun cdv A outer s H vs Q E hr h => ⟨_, (pss_cons (ps_fld (pv 0) (pv 1) rfl)
      (pss_cons (ps_fld (pv 0) (pv 2) rfl)
      (pss_cons (ps_fld (pv 0) (pv 3) rfl)
      (pss_one (ps_fld (pv 0) (pv 4) rfl))))), ?_⟩), M, g, b⟩
  · obtain ⟨_, _, _, _, _, _, rfl, _⟩ := h
    rfl
  · obtain ⟨x, dx, w, n, l, e, rfl, hx, q⟩ := h
    have p1 : putF ("word" : Str) (.str w) [] = [(("word" : Str), .str w)] := rfl
    have p2 : putF ("numbers" : Str) (.ref n) [(("word" : Str), .str w)] = [(("word" : Str), .str w), (("numbers" : Str), .ref n)] := put_new (ks := ["word"]) rfl (by decide +kernel)
    have p3 : putF ("some" : Str) (.ref l) [(("word" : Str), .str w), (("numbers" : Str), .ref n)] = [(("word" : Str), .str w), (("numbers" : Str), .ref n), (("some" : Str), .ref l)] := put_new (ks := ["word", "numbers"]) rfl (by decide +kernel)
    have p4 : putF ("end" : Str) (.int e) [(("word" : Str), .str w), (("numbers" : Str), .ref n), (("some" : Str), .ref l)] = callF w n l e := put_new (ks := ["word", "numbers", "some"]) rfl (by decide +kernel)
    refine ⟨_, rfl, .ref x, rfl, x, CC, dx, _, rfl, hx, T.clc, T.nW, (by decide), ?_⟩
    rw [p1]
    refine ⟨_, rfl, .ref x, rfl, x, CC, dx, _, rfl, upd_same, T.clc, T.nN, (by show 1 < 1000; decide), ?_⟩
    rw [p2]
    refine ⟨_, rfl, .ref x, rfl, x, CC, dx, _, rfl, upd_same, T.clc, T.nO, (by show 2 < 1000; decide), ?_⟩
    rw [p3]
    refine ⟨_, rfl, .ref x, rfl, x, CC, dx, _, rfl, upd_same, T.clc, T.nE, (by show 3 < 1000; decide), ?_⟩
    rw [p4]
    exact q _ upd_same (fun b o hb hne => by rw [upd_ne hne, upd_ne hne, upd_ne hne, upd_ne hne]; exact hb)
/-! ### call_at -/
abbrev s_call_at : Stmt := (top 64)
abbrev n_call_at : List Str := ["calls", "place", "word", "last", "numbers", "end"]
abbrev p_call_at : List Str := ["calls", "place"]
theorem sc_call_at : FnScope n_call_at p_call_at (defScope s_call_at) := ⟨rfl, rfl, rfl, by decide +kernel, rfl, by decide +kernel, by decide +kernel⟩
def spCallAt (K : PySem.W.Frag) (CC : Addr) : Sp := fun vs H Q _ => ∃ (a : Addr) (ns : List Int) (place k : Nat) (nums row : List Int) (e : Nat), vs = [.ref a, .int (place : Int)] ∧ IL K H a ns ∧ ns.length ≤ 16000 ∧ Here ns place k nums row e ∧
  ∀ H' x dx n l, Ex H H' → H' x = some (.ins CC dx (callF (wordOf k) n l (e : Nat))) → IL K H' n nums → IL K H' l row → Q (.ref x) H'
theorem ok_callat (T : Txt K mg C CC CF) (m_Call : KCallee P w K mg base CX0 CC 1 "Call" p_Call___init__ (spCallI CC)) (D : DefIn K mg "call_at" "call_at" s_call_at p_call_at) : Callee P w K mg base CX0 3 "call_at" p_call_at (spCallAt K CC) := by
  refine callee D sc_call_at (fun vs H Q E h => ?_) (fun f cdv A outer s H vs Q E hr h => ⟨_, (pss_cons (ps_set (i := 2) sc_call_at.nd rfl (Or.inl rfl) (pe_ix (r := rIxT K) ix_tup (pe_glob (v := .ref T.a_WORDS) rfl T.g_WORDS rfl) (pe_ix (r := rIxL K) ix_list (pv 0) (pv 1) (fun _ _ => rfl)) (fun _ _ => rfl)))
      (pss_cons (ps_set (i := 3) sc_call_at.nd rfl (Or.inl rfl) (pe_op op_add (pe_op op_add (pv 1) pe_int) (pe_ix (r := rIxT K) ix_tup (pe_glob (v := .ref T.a_PLAIN) rfl T.g_PLAIN rfl) (pe_ix (r := rIxL K) ix_list (pv 0) (pv 1) (fun _ _ => rfl)) (fun _ _ => rfl))))
      (pss_cons (ps_set (i := 4) sc_call_at.nd rfl (Or.inl rfl) (pe_slice (r := rSlL K) sl_list (pv 0) (po_some (pe_op op_add (pv 1) pe_int)) (po_some (pv 3))))
      (pss_cons (ps_if (pt_cmpR op_notIn_seq (pv 2) (pe_glob (v := .ref T.a_WITH_LIST) rfl T.g_WITH_LIST rfl) (by rfl)) (pss_one (ps_ret (pe_makeC m_Call (hr.mono (by decide)) (by rfl) pass0 (pa_cons (pv 2) (pa_cons (pv 4) (pa_cons (pe_lst pa_nil) (pa_cons (pv 3) pa_nil))))))) pss_nil)
      (pss_cons (ps_set (i := 5) sc_call_at.nd rfl (Or.inl rfl) (pe_op op_add (pe_op op_add (pv 3) pe_int) (pe_ix (r := rIxL K) ix_list (pv 0) (pv 3) (fun _ _ => rfl))))
      (pss_one (ps_ret (pe_makeC m_Call (hr.mono (by decide)) (by rfl) pass0 (pa_cons (pv 2) (pa_cons (pv 4) (pa_cons (pe_slice (r := rSlL K) sl_list (pv 0) (po_some (pe_op op_add (pv 3) pe_int)) (po_some (pv 5))) (pa_cons (pv 5) pa_nil)))))))))))), ?_⟩)
  · obtain ⟨_, _, _, _, _, _, _, rfl, _⟩ := h
    rfl
  · obtain ⟨a, ns, place, k, nums, row, e, rfl, hx, hz, hh, q⟩ := h
    have fit := hh.fit
    have pl := plain_le k
    have at_ : ∀ {i : Nat} {z : Int}, ns[i]? = some z → (ns.map V.int)[i]? = some (V.int z) := fun {i z} h => by rw [List.getElem?_map, h]; rfl
    have flat : flatV (.str (wordOf k)) = true := rfl
    refine q_asg (ev_op ev_c (ev_op (ev_var rfl) (ev_var rfl) (rv_ixL hx (atI_nat (at_ hh.at0)))) (rv_ixT (T.s_WORDS H) (atI_nat (words_at hh.k16)))) fun H1 e1 => ?_
    refine q_asg (ev_is (ev_op (ev_op (ev_var rfl) ev_c rv_I0) (ev_op ev_c (ev_op (ev_var rfl) (ev_var rfl) (rv_ixL (ex_l e1 hx) (atI_nat (at_ hh.at0)))) (rv_ixT (T.s_PLAIN H1) (atI_nat (plain_at hh.k16)))) rv_I0) (show V.int ((place : Int) + 1 + ((plainOf k : Nat) : Int)) = V.int ((place + 1 + plainOf k : Nat) : Int) from congrArg V.int (by omega))) fun H2 e2 => ?_
    have sl1 : ∀ {σ : L2.St} {H' : Hp}, Ex H H' → σ[0]? = some (some (.ref a)) → σ[1]? = some (some (.int (place : Int))) → σ[3]? = some (some (.int ((place + 1 + plainOf k : Nat) : Int))) → EvL (tSl (rSlL K) (tVar 0) (tPart (tOp (rI0 fun i j => .int (i + j)) (tVar 1) (tC (.int 1)))) (tPart (tVar 3))) σ H' (nums.map V.int) := fun {σ H'} eH h0 h1 h3 => by
      have g := el_sl (K := K) (lo := some ((place + 1 : Nat) : Int)) (ev_var h0) (eo_some (ev_is (ev_op (ev_var h1) ev_c (rv_I0 (g := fun i j => .int (i + j)))) (show V.int ((place : Int) + 1) = V.int ((place + 1 : Nat) : Int) from congrArg V.int (by omega)))) (eo_some (ev_var h3)) (ex_l eH hx)
      rw [cut_mid (by omega) (by rw [List.length_map]; exact fit), ints_cut, show place + 1 + plainOf k - (place + 1) = plainOf k by omega, ← hh.nums_] at g
      exact g
    refine q_asgL (sl1 (e1.trans e2) rfl rfl rfl) fun n H3 hn e3 h3 => ?_
    have e13 := (e1.trans e2).trans e3
    have mk : ∀ {H4 H5 : Hp} {l : Addr} {z : Nat} {x dx : Addr}, Ex H3 H4 → H4 l = some (.lst (row.map V.int)) → (z : Int) = (e : Nat) → H4 x = none → H4 dx = none → dx ≠ x →
        H5 x = some (.ins CC dx (callF (wordOf k) n l (z : Nat))) → (∀ b o, (upd (upd H4 dx (.own x)) x (.ins CC dx [])) b = some o → b ≠ x → H5 b = some o) → Q (.ref x) H5 := fun {H4 H5 l z x dx} e4 hl hz hx4 hd4 hdx h5 k5 => by
      have e45 : Ex H4 H5 := fun b o hb => k5 b o (by rw [upd_ne (ne_of_none hb hx4), upd_ne (ne_of_none hb hd4)]; exact hb) (ne_of_none hb hx4)
      rw [hz] at h5
      exact q H5 x dx n l ((e13.trans e4).trans e45) h5 (sq_of (e45 _ _ (e4 _ _ h3))) (sq_of (e45 _ _ hl))
    refine q_when (et_test (ev_op (ev_var rfl) ev_c (rv_niT (T.s_WITH_LIST H3) flat (by decide)))) (fun hb H4 e4 => ?_) (fun hb H4 e4 => ?_)
    · rw [with_in hh.k16] at hb
      have lk : listed k = false := by simpa using hb
      obtain ⟨hrow, he⟩ := hh.no lk
      refine ⟨_, rfl, _, rfl, by show 0 ≤ sizeLine; decide, fun l hl => ⟨_, rfl, fun x dx hx4 hd4 hdx => ⟨x, dx, _, n, l, ((place + 1 + plainOf k : Nat) : Int), rfl, upd_same, fun H5 h5 k5 => ⟨rfl, ?_⟩⟩⟩⟩
      exact mk (e4.trans (Ex.new hl)) (by rw [upd_same, hrow]; rfl) (by rw [he]) hx4 hd4 hdx h5 k5
    · rw [with_in hh.k16] at hb
      have lk : listed k = true := by simpa using hb
      obtain ⟨z, z1, z2, z3, z4⟩ := hh.yes lk
      have e14 := e13.trans e4
      refine q_asg (ev_is (ev_op (ev_op (ev_var rfl) ev_c rv_I0) (ev_op (ev_var rfl) (ev_var rfl) (rv_ixL (ex_l e14 hx) (atI_nat (at_ z1)))) rv_I0) (show V.int (((place + 1 + plainOf k : Nat) : Int) + 1 + (z : Int)) = V.int ((e : Nat) : Int) from congrArg V.int (by omega))) fun H5 e5 => ?_
      have sl2 : EvL (tSl (rSlL K) (tVar 0) (tPart (tOp (rI0 fun i j => .int (i + j)) (tVar 3) (tC (.int 1)))) (tPart (tVar 5))) [some (.ref a), some (.int (place : Int)), some (.str (wordOf k)), some (.int ((place + 1 + plainOf k : Nat) : Int)), some (.ref n), some (.int ((e : Nat) : Int))] H5 (row.map V.int) := by
        have g := el_sl (K := K) (lo := some ((place + 1 + plainOf k + 1 : Nat) : Int)) (σ := [some (.ref a), some (.int (place : Int)), some (.str (wordOf k)), some (.int ((place + 1 + plainOf k : Nat) : Int)), some (.ref n), some (.int ((e : Nat) : Int))]) (ev_var (i := 0) rfl) (eo_some (ev_is (ev_op (ev_var (i := 3) rfl) ev_c (rv_I0 (g := fun i j => .int (i + j)))) (show V.int (((place + 1 + plainOf k : Nat) : Int) + 1) = V.int ((place + 1 + plainOf k + 1 : Nat) : Int) from congrArg V.int (by omega)))) (eo_some (ev_var (i := 5) rfl)) (ex_l (e14.trans e5) hx)
        rw [cut_mid (by omega) (by rw [List.length_map]; omega), ints_cut, show e - (place + 1 + plainOf k + 1) = z by omega, ← z3] at g
        exact g
      refine ⟨_, rfl, _, rfl, ?_⟩
      refine sl2 H5 (Ex.refl H5) _ fun l H6 hl e6 h6 => ⟨_, rfl, fun x dx hx4 hd4 hdx => ⟨x, dx, _, n, l, ((e : Nat) : Int), rfl, upd_same, fun H7 h7 k7 => ⟨rfl, ?_⟩⟩⟩
      exact mk ((e4.trans e5).trans e6) h6 rfl hx4 hd4 hdx h7 k7
end
end Kw


/-! catches.py: a call is answered -/
namespace Kw
open PySem PySem.Spec PyProof.Rows L2 Evl
section
variable {X : Cx} {CX : CXT} {k : Nat} {nm : Str} {ps : List Str} {sp : Sp} {p pos : Pos} {e : Expr} {es : List Expr} {t : TA} {E : L2.St → XK}
theorem pe_callCS (c : Callee X.prog X.w X.K X.mg X.base CX k nm ps sp) (hr : Room k X.A) (hg : Gl X nm) (hx : ∀ σ, PassesAt CX X σ (E σ)) (ha : PA X (e :: es) t) (hdb : (nm == ("__debug__" : Str)) = false := by decide)
    (he : starEach (e :: es) X.env = (false, eval e X.env) :: starEach es X.env := by rfl) (hpl : (backTo pos (starEach es X.env)).any (·.1) = false := by rfl) :
    PE X (.Call (.Name nm p) (e :: es) [] pos) (tCallS sp E t) := by
  obtain ⟨f, fd, F, m, kp, b⟩ := c
  exact pe_callS F hr hg m kp b hx ha hdb he hpl
end
section
variable {C CF c s : Addr} {st : Vbecal.State} {H H1 : Hp} {Q : VK} {E : XK} {σ : L2.St} {t u : TT} {tu tz : TS} {D : Ends} {r : Except Int (Vbecal.State × List Int)}
theorem Outc.on (o : Outc C CF c s r H Q E) (hc : CatsAt C H c s st) (e : Ex H H1) : Outc C CF c s r H1 Q E := by
  cases r with
  | error k => exact RaiseC.on o e
  | ok r => exact fun p H' h1 h2 h3 h4 => o p H' h1 h2 (fun b ob hb => h3 b ob (e b ob hb)) fun f ob hf hn => h4 f ob (e _ _ hf) fun ho => hn (ho.back hc e)
theorem q_yes {t : TT} (h : EvT t σ H true) (k : ∀ H1, Ex H H1 → tu { D with nx := tz D } σ H1) : tSeq (tIfS t tu tNext) tz D σ H := q_when h (fun _ => k) (fun z => by cases z)
theorem q_no {t : TT} (h : EvT t σ H false) (k : ∀ H1, Ex H H1 → tz D σ H1) : tSeq (tIfS t tu tNext) tz D σ H := q_when h (fun z => by cases z) (fun _ => k)
theorem m_go {m : Str} {sp : Sp} {i : Nat} {ta : TA} {vs : List V} (hc : CatsAt C H c s st) (h0 : σ[i]? = some (some (.ref c))) (ht : EvA ta σ H vs) (h1 : (m == ("samples" : Str)) = false) (h2 : (m == ("sets" : Str)) = false) (hs : ∀ H1, Ex H H1 → sp (.ref c :: (vs ++ [])) H1 Q E) :
    tMeth C m sp [] E (tVar i) ta σ H Q := by
  obtain ⟨dx, t', i1, _, _⟩ := hc.ins
  exact ⟨.ref c, h0, c, dx, _, rfl, i1, lk_none h1 h2, ht H (Ex.refl H) _ fun H1 e1 => hs H1 e1⟩
theorem et_word {i : Nat} {w v : Str} {b : Bool} (h : σ[i]? = some (some (.str w))) (hb : decide (w = v) = b) : EvT (tTest (tOp rEq (tVar i) (tC (.str v)))) σ H b :=
  et_is (et_test (ev_op (ev_var h) ev_c (rv_eq rfl))) (by
    rw [← hb]
    exact decide_eq_decide.mpr ⟨fun z => V.str.inj z, fun z => by rw [z]⟩)
theorem et_wordE {te : TE} {w v : Str} {b : Bool} (h : Ev te σ H (.str w)) (hb : decide (w = v) = b) : EvT (tTest (tOp rEq te (tC (.str v)))) σ H b :=
  et_is (et_test (ev_op h ev_c (rv_eq rfl))) (by
    rw [← hb]
    exact decide_eq_decide.mpr ⟨fun z => V.str.inj z, fun z => by rw [z]⟩)
end
section
variable {P : Program} {w : World} {K : PySem.W.Frag} {mg : Str → Option Value} {base : Heap} {H : Hp} {C CC CF : Addr}
/-! ### by_one -/
abbrev s_by_one : Stmt := (top 65)
abbrev n_by_one : List Str := ["catches", "word", "number"]
abbrev p_by_one : List Str := ["catches", "word", "number"]
theorem sc_by_one : FnScope n_by_one p_by_one (defScope s_by_one) := ⟨rfl, rfl, rfl, by decide +kernel, rfl, by decide +kernel, by decide +kernel⟩
def spOne (C CF : Addr) : Sp := fun vs H Q E => ∃ (c s : Addr) (st : Vbecal.State) (w : Str) (n : Int) (r : List Int) (d : Vbecal.Call), vs = [.ref c, .str w, .int n] ∧ CallIs w [n] r d ∧ w ≠ "put" ∧ CatsAt C H c s st ∧ Outc C CF c s (run st d) H Q E
theorem ok_one (T : Txt K mg C CC CF) (m_told : MCallee P w K mg base (L2.CX P w) C 7 "told" p_Catches_told (sp1 C CF .told)) (m_size_told : MCallee P w K mg base (L2.CX P w) C 7 "size_told" p_Catches_size_told (sp1 C CF .size))
    (m_alike : MCallee P w K mg base (L2.CX P w) C 7 "alike" p_Catches_alike (sp1 C CF .alike)) (m_over_plots : MCallee P w K mg base (L2.CX P w) C 7 "over_plots" p_Catches_over_plots (sp1 C CF .overPlots))
    (D : DefIn K mg "by_one" "by_one" s_by_one p_by_one) : Callee P w K mg base (L2.CX P w) 8 "by_one" p_by_one (spOne C CF) := by
  refine calleeX D sc_by_one (fun vs H Q E h => ?_) (fun f cdv A outer s H vs Q E hr h => ⟨_, (pss_cons (ps_if (pt_cmpR op_eq (pv 1) pe_str (nomark _)) (pss_one (ps_ret (pe_methC T.cl m_told (pv 0) (hr.mono (by decide)) (passes_call (takes_of rfl rfl rfl rfl) (fun _ _ _ _ h => h)) (pa_cons (pv 2) pa_nil)))) pss_nil)
      (pss_cons (ps_if (pt_cmpR op_eq (pv 1) pe_str (nomark _)) (pss_one (ps_ret (pe_methC T.cl m_size_told (pv 0) (hr.mono (by decide)) (passes_call (takes_of rfl rfl rfl rfl) (fun _ _ _ _ h => h)) (pa_cons (pv 2) pa_nil)))) pss_nil)
      (pss_cons (ps_if (pt_cmpR op_eq (pv 1) pe_str (nomark _)) (pss_one (ps_ret (pe_methC T.cl m_alike (pv 0) (hr.mono (by decide)) (passes_call (takes_of rfl rfl rfl rfl) (fun _ _ _ _ h => h)) (pa_cons (pv 2) pa_nil)))) pss_nil)
      (pss_one (ps_ret (pe_methC T.cl m_over_plots (pv 0) (hr.mono (by decide)) (passes_call (takes_of rfl rfl rfl rfl) (fun _ _ _ _ h => h)) (pa_cons (pv 2) pa_nil))))))), ?_⟩)
  · obtain ⟨_, _, _, _, _, _, _, rfl, _⟩ := h
    rfl
  · obtain ⟨c, s, st, w, n, r, d, rfl, hw, hn, hc, o⟩ := h
    have go : ∀ {m : Str} {g : Int → Vbecal.Call} {H1 : Hp}, Ex H H1 → (m == ("samples" : Str)) = false → (m == ("sets" : Str)) = false → d = g n → ∀ {σ : L2.St}, σ[0]? = some (some (.ref c)) → σ[2]? = some (some (.int n)) → tMeth C m (sp1 C CF g) [] E (tVar 0) (tCons (tVar 2) tNil) σ H1 Q := fun e1 h1 h2 hd σ k0 k2 =>
      m_go (hc.on e1) k0 (ea_cons (ev_var k2) ea_nil) h1 h2 fun H2 e2 => ⟨c, s, st, n, rfl, (hc.on e1).on e2, by rw [← hd]; exact (o.on hc e1).on (hc.on e1) e2⟩
    cases hw with
    | put => exact absurd rfl hn
    | told => exact q_yes (et_word rfl (by decide +kernel)) fun H1 e1 => go (g := .told) e1 (by decide +kernel) (by decide +kernel) rfl rfl rfl
    | size => exact q_no (et_word rfl (by decide +kernel)) fun H1 e1 => q_yes (et_word rfl (by decide +kernel)) fun H2 e2 => go (g := .size) (e1.trans e2) (by decide +kernel) (by decide +kernel) rfl rfl rfl
    | alike => exact q_no (et_word rfl (by decide +kernel)) fun H1 e1 => q_no (et_word rfl (by decide +kernel)) fun H2 e2 => q_yes (et_word rfl (by decide +kernel)) fun H3 e3 => go (g := .alike) ((e1.trans e2).trans e3) (by decide +kernel) (by decide +kernel) rfl rfl rfl
    | over => exact q_no (et_word rfl (by decide +kernel)) fun H1 e1 => q_no (et_word rfl (by decide +kernel)) fun H2 e2 => q_no (et_word rfl (by decide +kernel)) fun H3 e3 => go (g := .overPlots) ((e1.trans e2).trans e3) (by decide +kernel) (by decide +kernel) rfl rfl rfl
/-! ### by_two -/
abbrev s_by_two : Stmt := (top 66)
abbrev n_by_two : List Str := ["catches", "word", "one", "other"]
abbrev p_by_two : List Str := ["catches", "word", "one", "other"]
theorem sc_by_two : FnScope n_by_two p_by_two (defScope s_by_two) := ⟨rfl, rfl, rfl, by decide +kernel, rfl, by decide +kernel, by decide +kernel⟩
def spTwo (C CF : Addr) : Sp := fun vs H Q E => ∃ (c s : Addr) (st : Vbecal.State) (w : Str) (n m : Int) (r : List Int) (d : Vbecal.Call), vs = [.ref c, .str w, .int n, .int m] ∧ CallIs w [n, m] r d ∧ CatsAt C H c s st ∧ Outc C CF c s (run st d) H Q E
theorem ok_two (T : Txt K mg C CC CF) (m_expected : MCallee P w K mg base (L2.CX P w) C 7 "expected" p_Catches_expected (sp2 C CF .expected)) (m_variance : MCallee P w K mg base (L2.CX P w) C 7 "variance" p_Catches_variance (sp2 C CF .variance))
    (m_ways_told : MCallee P w K mg base (L2.CX P w) C 7 "ways_told" p_Catches_ways_told (sp2 C CF .ways)) (m_powers : MCallee P w K mg base (L2.CX P w) C 7 "powers" p_Catches_powers (sp2 C CF .powers))
    (m_evener : MCallee P w K mg base (L2.CX P w) C 7 "evener" p_Catches_evener (sp2 C CF .evener)) (m_turns_told : MCallee P w K mg base (L2.CX P w) C 7 "turns_told" p_Catches_turns_told (sp2 C CF .turns))
    (D : DefIn K mg "by_two" "by_two" s_by_two p_by_two) : Callee P w K mg base (L2.CX P w) 8 "by_two" p_by_two (spTwo C CF) := by
  refine calleeX D sc_by_two (fun vs H Q E h => ?_) (fun f cdv A outer s H vs Q E hr h => ⟨_, (pss_cons (ps_if (pt_cmpR op_eq (pv 1) pe_str (nomark _)) (pss_one (ps_ret (pe_methC T.cl m_expected (pv 0) (hr.mono (by decide)) (passes_call (takes_of rfl rfl rfl rfl) (fun _ _ _ _ h => h)) (pa_cons (pv 2) (pa_cons (pv 3) pa_nil))))) pss_nil)
      (pss_cons (ps_if (pt_cmpR op_eq (pv 1) pe_str (nomark _)) (pss_one (ps_ret (pe_methC T.cl m_variance (pv 0) (hr.mono (by decide)) (passes_call (takes_of rfl rfl rfl rfl) (fun _ _ _ _ h => h)) (pa_cons (pv 2) (pa_cons (pv 3) pa_nil))))) pss_nil)
      (pss_cons (ps_if (pt_cmpR op_eq (pv 1) pe_str (nomark _)) (pss_one (ps_ret (pe_methC T.cl m_ways_told (pv 0) (hr.mono (by decide)) (passes_call (takes_of rfl rfl rfl rfl) (fun _ _ _ _ h => h)) (pa_cons (pv 2) (pa_cons (pv 3) pa_nil))))) pss_nil)
      (pss_cons (ps_if (pt_cmpR op_eq (pv 1) pe_str (nomark _)) (pss_one (ps_ret (pe_methC T.cl m_powers (pv 0) (hr.mono (by decide)) (passes_call (takes_of rfl rfl rfl rfl) (fun _ _ _ _ h => h)) (pa_cons (pv 2) (pa_cons (pv 3) pa_nil))))) pss_nil)
      (pss_cons (ps_if (pt_cmpR op_eq (pv 1) pe_str (nomark _)) (pss_one (ps_ret (pe_methC T.cl m_evener (pv 0) (hr.mono (by decide)) (passes_call (takes_of rfl rfl rfl rfl) (fun _ _ _ _ h => h)) (pa_cons (pv 2) (pa_cons (pv 3) pa_nil))))) pss_nil)
      (pss_one (ps_ret (pe_methC T.cl m_turns_told (pv 0) (hr.mono (by decide)) (passes_call (takes_of rfl rfl rfl rfl) (fun _ _ _ _ h => h)) (pa_cons (pv 2) (pa_cons (pv 3) pa_nil)))))))))), ?_⟩)
  · obtain ⟨_, _, _, _, _, _, _, _, rfl, _⟩ := h
    rfl
  · obtain ⟨c, s, st, w, n, m', r, d, rfl, hw, hc, o⟩ := h
    have go : ∀ {m : Str} {g : Int → Int → Vbecal.Call} {H1 : Hp}, Ex H H1 → (m == ("samples" : Str)) = false → (m == ("sets" : Str)) = false → d = g n m' → ∀ {σ : L2.St}, σ[0]? = some (some (.ref c)) → σ[2]? = some (some (.int n)) → σ[3]? = some (some (.int m')) → tMeth C m (sp2 C CF g) [] E (tVar 0) (tCons (tVar 2) (tCons (tVar 3) tNil)) σ H1 Q := fun e1 h1 h2 hd σ k0 k2 k3 =>
      m_go (hc.on e1) k0 (ea_cons (ev_var k2) (ea_cons (ev_var k3) ea_nil)) h1 h2 fun H2 e2 => ⟨c, s, st, n, m', rfl, (hc.on e1).on e2, by rw [← hd]; exact (o.on hc e1).on (hc.on e1) e2⟩
    cases hw with
    | expected => exact q_yes (et_word rfl (by decide +kernel)) fun H1 e1 => go (g := .expected) e1 (by decide +kernel) (by decide +kernel) rfl rfl rfl rfl
    | variance => exact q_no (et_word rfl (by decide +kernel)) fun H1 e1 => q_yes (et_word rfl (by decide +kernel)) fun H2 e2 => go (g := .variance) (e1.trans e2) (by decide +kernel) (by decide +kernel) rfl rfl rfl rfl
    | ways => exact q_no (et_word rfl (by decide +kernel)) fun H1 e1 => q_no (et_word rfl (by decide +kernel)) fun H2 e2 => q_yes (et_word rfl (by decide +kernel)) fun H3 e3 => go (g := .ways) ((e1.trans e2).trans e3) (by decide +kernel) (by decide +kernel) rfl rfl rfl rfl
    | powers => exact q_no (et_word rfl (by decide +kernel)) fun H1 e1 => q_no (et_word rfl (by decide +kernel)) fun H2 e2 => q_no (et_word rfl (by decide +kernel)) fun H3 e3 => q_yes (et_word rfl (by decide +kernel)) fun H4 e4 => go (g := .powers) (((e1.trans e2).trans e3).trans e4) (by decide +kernel) (by decide +kernel) rfl rfl rfl rfl
    | evener => exact q_no (et_word rfl (by decide +kernel)) fun H1 e1 => q_no (et_word rfl (by decide +kernel)) fun H2 e2 => q_no (et_word rfl (by decide +kernel)) fun H3 e3 => q_no (et_word rfl (by decide +kernel)) fun H4 e4 => q_yes (et_word rfl (by decide +kernel)) fun H5 e5 => go (g := .evener) ((((e1.trans e2).trans e3).trans e4).trans e5) (by decide +kernel) (by decide +kernel) rfl rfl rfl rfl
    | turns => exact q_no (et_word rfl (by decide +kernel)) fun H1 e1 => q_no (et_word rfl (by decide +kernel)) fun H2 e2 => q_no (et_word rfl (by decide +kernel)) fun H3 e3 => q_no (et_word rfl (by decide +kernel)) fun H4 e4 => q_no (et_word rfl (by decide +kernel)) fun H5 e5 => go (g := .turns) ((((e1.trans e2).trans e3).trans e4).trans e5) (by decide +kernel) (by decide +kernel) rfl rfl rfl rfl
/-! ### by_three -/
abbrev s_by_three : Stmt := (top 67)
abbrev n_by_three : List Str := ["catches", "word", "numbers", "one", "two", "three"]
abbrev p_by_three : List Str := ["catches", "word", "numbers"]
theorem sc_by_three : FnScope n_by_three p_by_three (defScope s_by_three) := ⟨rfl, rfl, rfl, by decide +kernel, rfl, by decide +kernel, by decide +kernel⟩
def spThree (K : PySem.W.Frag) (C CF : Addr) : Sp := fun vs H Q E => ∃ (c s l : Addr) (st : Vbecal.State) (w : Str) (n m j : Int) (r : List Int) (d : Vbecal.Call), vs = [.ref c, .str w, .ref l] ∧ IL K H l [n, m, j] ∧ CallIs w [n, m, j] r d ∧ CatsAt C H c s st ∧ Outc C CF c s (run st d) H Q E
theorem ok_three (T : Txt K mg C CC CF) (m_times : MCallee P w K mg base (L2.CX P w) C 7 "times" p_Catches_times (sp3 C CF .metTimes)) (m_richer : MCallee P w K mg base (L2.CX P w) C 7 "richer" p_Catches_richer (sp3 C CF .richer))
    (m_pool : MCallee P w K mg base (L2.CX P w) C 7 "pool" p_Catches_pool (sp3 C CF .pool)) (D : DefIn K mg "by_three" "by_three" s_by_three p_by_three) : Callee P w K mg base (L2.CX P w) 8 "by_three" p_by_three (spThree K C CF) := by
  refine calleeX D sc_by_three (fun vs H Q E h => ?_) (fun f cdv A outer s H vs Q E hr h => ⟨_, (pss_cons (ps_asg (pv 2) (pg_unl rfl (pgs_cons (pg_name (i := 3) sc_by_three.nd rfl (Or.inl rfl)) (pgs_cons (pg_name (i := 4) sc_by_three.nd rfl (Or.inl rfl)) (pgs_cons (pg_name (i := 5) sc_by_three.nd rfl (Or.inl rfl)) pgs_nil)))))
      (pss_cons (ps_if (pt_cmpR op_eq (pv 1) pe_str (nomark _)) (pss_one (ps_ret (pe_methC T.cl m_times (pv 0) (hr.mono (by decide)) (passes_call (takes_of rfl rfl rfl rfl) (fun _ _ _ _ h => h)) (pa_cons (pv 3) (pa_cons (pv 4) (pa_cons (pv 5) pa_nil)))))) pss_nil)
      (pss_cons (ps_if (pt_cmpR op_eq (pv 1) pe_str (nomark _)) (pss_one (ps_ret (pe_methC T.cl m_richer (pv 0) (hr.mono (by decide)) (passes_call (takes_of rfl rfl rfl rfl) (fun _ _ _ _ h => h)) (pa_cons (pv 3) (pa_cons (pv 4) (pa_cons (pv 5) pa_nil)))))) pss_nil)
      (pss_one (ps_ret (pe_methC T.cl m_pool (pv 0) (hr.mono (by decide)) (passes_call (takes_of rfl rfl rfl rfl) (fun _ _ _ _ h => h)) (pa_cons (pv 3) (pa_cons (pv 4) (pa_cons (pv 5) pa_nil))))))))), ?_⟩)
  · obtain ⟨_, _, _, _, _, _, _, _, _, _, rfl, _⟩ := h
    rfl
  · obtain ⟨c, s, l, st, w, n, m', j, r, d, rfl, hl, hw, hc, o⟩ := h
    refine ⟨_, rfl, l, _, rfl, hl, rfl, _, _, rfl, _, _, rfl, _, _, rfl, rfl, ?_⟩
    have go : ∀ {m : Str} {g : Int → Int → Int → Vbecal.Call} {H1 : Hp}, Ex H H1 → (m == ("samples" : Str)) = false → (m == ("sets" : Str)) = false → d = g n m' j → ∀ {σ : L2.St}, σ[0]? = some (some (.ref c)) → σ[3]? = some (some (.int n)) → σ[4]? = some (some (.int m')) → σ[5]? = some (some (.int j)) → tMeth C m (sp3 C CF g) [] E (tVar 0) (tCons (tVar 3) (tCons (tVar 4) (tCons (tVar 5) tNil))) σ H1 Q := fun e1 h1 h2 hd σ k0 k2 k3 k4 =>
      m_go (hc.on e1) k0 (ea_cons (ev_var k2) (ea_cons (ev_var k3) (ea_cons (ev_var k4) ea_nil))) h1 h2 fun H2 e2 => ⟨c, s, st, n, m', j, rfl, (hc.on e1).on e2, by rw [← hd]; exact (o.on hc e1).on (hc.on e1) e2⟩
    cases hw with
    | times => exact q_yes (et_word rfl (by decide +kernel)) fun H1 e1 => go (g := .metTimes) e1 (by decide +kernel) (by decide +kernel) rfl rfl rfl rfl rfl
    | richer => exact q_no (et_word rfl (by decide +kernel)) fun H1 e1 => q_yes (et_word rfl (by decide +kernel)) fun H2 e2 => go (g := .richer) (e1.trans e2) (by decide +kernel) (by decide +kernel) rfl rfl rfl rfl rfl
    | pool => exact q_no (et_word rfl (by decide +kernel)) fun H1 e1 => q_no (et_word rfl (by decide +kernel)) fun H2 e2 => go (g := .pool) (e1.trans e2) (by decide +kernel) (by decide +kernel) rfl rfl rfl rfl rfl
/-! ### answered -/
abbrev s_answered : Stmt := (top 68)
abbrev n_answered : List Str := ["catches", "call"]
abbrev p_answered : List Str := ["catches", "call"]
theorem sc_answered : FnScope n_answered p_answered (defScope s_answered) := ⟨rfl, rfl, rfl, by decide +kernel, rfl, by decide +kernel, by decide +kernel⟩
/-- a call's object at x -/
structure CallAt (K : PySem.W.Frag) (CC : Addr) (H : Hp) (x : Addr) (w : Str) (nums row : List Int) (e : Nat) : Prop where
  at_ : ∃ dx n l, H x = some (.ins CC dx (callF w n l (e : Nat))) ∧ IL K H n nums ∧ IL K H l row
theorem CallAt.on {H1 : Hp} {x : Addr} {w : Str} {nums row : List Int} {e : Nat} (h : CallAt K CC H x w nums row e) (k : Ex H H1) : CallAt K CC H1 x w nums row e := by
  obtain ⟨dx, n, l, h1, h2, h3⟩ := h.at_
  exact ⟨dx, n, l, k _ _ h1, ex_l k h2, ex_l k h3⟩
def spAnsd (K : PySem.W.Frag) (C CC CF : Addr) : Sp := fun vs H Q E => ∃ (c s x : Addr) (st : Vbecal.State) (w : Str) (nums row : List Int) (e : Nat) (d : Vbecal.Call), vs = [.ref c, .ref x] ∧ CallAt K CC H x w nums row e ∧ row.length ≤ 20000 ∧ CallIs w nums row d ∧ CatsAt C H c s st ∧ Outc C CF c s (run st d) H Q E
theorem lk_word {w : Str} {n l : Addr} {e : Int} : List.lookup ("word" : Str) (callF w n l e) = some (.str w) := lk_here
theorem lk_numbers {w : Str} {n l : Addr} {e : Int} : List.lookup ("numbers" : Str) (callF w n l e) = some (.ref n) := (lk_past (by decide +kernel)).trans lk_here
theorem lk_some {w : Str} {n l : Addr} {e : Int} : List.lookup ("some" : Str) (callF w n l e) = some (.ref l) := (lk_past (by decide +kernel)).trans ((lk_past (by decide +kernel)).trans lk_here)
theorem lk_end {w : Str} {n l : Addr} {e : Int} : List.lookup ("end" : Str) (callF w n l e) = some (.int e) := (lk_past (by decide +kernel)).trans ((lk_past (by decide +kernel)).trans ((lk_past (by decide +kernel)).trans lk_here))
theorem ok_answered (T : Txt K mg C CC CF) (m_put : MCallee P w K mg base (L2.CX P w) C 7 "put" p_Catches_put (spPut K C CF)) (m_plots : MCallee P w K mg base (L2.CX P w) C 7 "plots" p_Catches_plots (spPlots K C CF)) (m_shared : MCallee P w K mg base (L2.CX P w) C 7 "shared" p_Catches_shared (spSh K C CF))
    (c_by_one : Callee P w K mg base (L2.CX P w) 8 "by_one" p_by_one (spOne C CF)) (c_by_two : Callee P w K mg base (L2.CX P w) 8 "by_two" p_by_two (spTwo C CF)) (c_by_three : Callee P w K mg base (L2.CX P w) 8 "by_three" p_by_three (spThree K C CF))
    (D : DefIn K mg "answered" "answered" s_answered p_answered) : Callee P w K mg base (L2.CX P w) 9 "answered" p_answered (spAnsd K C CC CF) := by
  refine calleeX D sc_answered (fun vs H Q E h => ?_) (fun f cdv A outer s H vs Q E hr h => ⟨_, (pss_cons (ps_if (pt_cmpR op_eq (pe_fld (pv 1) rfl) pe_str (nomark _)) (pss_one (ps_ret (pe_methC T.cl m_put (pv 0) (hr.mono (by decide)) (passes_call (takes_of rfl rfl rfl rfl) (fun _ _ _ _ h => h)) (pa_cons (pe_ix (r := rIxL K) ix_list (pe_fld (pv 1) rfl) pe_int (fun _ _ => rfl)) (pa_cons (pe_fld (pv 1) rfl) pa_nil))))) pss_nil)
      (pss_cons (ps_if (pt_cmpR op_eq (pe_fld (pv 1) rfl) pe_str (nomark _)) (pss_one (ps_ret (pe_methC T.cl m_plots (pv 0) (hr.mono (by decide)) (passes_call (takes_of rfl rfl rfl rfl) (fun _ _ _ _ h => h)) (pa_cons (pe_fld (pv 1) rfl) pa_nil)))) pss_nil)
      (pss_cons (ps_if (pt_cmpR op_eq (pe_callB call_len_seq (by rfl) T.b_len PySem.boot_len (pa_cons (pe_fld (pv 1) rfl) pa_nil)) pe_int (nomark _)) (pss_one (ps_ret (pe_callC c_by_one (hr.mono (by decide)) (by rfl) (passes_call (takes_of rfl rfl rfl rfl) (fun _ _ _ _ h => h)) (pa_cons (pv 0) (pa_cons (pe_fld (pv 1) rfl) (pa_cons (pe_ix (r := rIxL K) ix_list (pe_fld (pv 1) rfl) pe_int (fun _ _ => rfl)) pa_nil)))))) pss_nil)
      (pss_cons (ps_if (pt_cmpR op_eq (pe_callB call_len_seq (by rfl) T.b_len PySem.boot_len (pa_cons (pe_fld (pv 1) rfl) pa_nil)) pe_int (nomark _)) (pss_one (ps_ret (pe_callC c_by_two (hr.mono (by decide)) (by rfl) (passes_call (takes_of rfl rfl rfl rfl) (fun _ _ _ _ h => h)) (pa_cons (pv 0) (pa_cons (pe_fld (pv 1) rfl) (pa_cons (pe_ix (r := rIxL K) ix_list (pe_fld (pv 1) rfl) pe_int (fun _ _ => rfl)) (pa_cons (pe_ix (r := rIxL K) ix_list (pe_fld (pv 1) rfl) pe_int (fun _ _ => rfl)) pa_nil))))))) pss_nil)
      (pss_cons (ps_if (pt_cmpR op_eq (pe_callB call_len_seq (by rfl) T.b_len PySem.boot_len (pa_cons (pe_fld (pv 1) rfl) pa_nil)) pe_int (nomark _)) (pss_one (ps_ret (pe_callC c_by_three (hr.mono (by decide)) (by rfl) (passes_call (takes_of rfl rfl rfl rfl) (fun _ _ _ _ h => h)) (pa_cons (pv 0) (pa_cons (pe_fld (pv 1) rfl) (pa_cons (pe_fld (pv 1) rfl) pa_nil)))))) pss_nil)
      (pss_one (ps_ret (pe_methC T.cl m_shared (pv 0) (hr.mono (by decide)) (passes_call (takes_of rfl rfl rfl rfl) (fun _ _ _ _ h => h)) (pa_cons (pe_fld (pv 1) rfl) pa_nil))))))))), ?_⟩)
  · obtain ⟨_, _, _, _, _, _, _, _, _, rfl, _⟩ := h
    rfl
  · obtain ⟨c, s, x, st, w, nums, row, e, d, rfl, hx, hz, hw, hc, o⟩ := h
    obtain ⟨dx, n, l, x1, x2, x3⟩ := hx.at_
    have fw : ∀ {H1 : Hp}, Ex H H1 → Ev (tFld K (tVar 1) "word") [some (.ref c), some (.ref x)] H1 (.str w) := fun {H1} e1 => ev_fld (ev_var rfl) (e1 _ _ x1) T.clc T.nW lk_word
    have fn : ∀ {H1 : Hp}, Ex H H1 → Ev (tFld K (tVar 1) "numbers") [some (.ref c), some (.ref x)] H1 (.ref n) := fun {H1} e1 => ev_fld (ev_var rfl) (e1 _ _ x1) T.clc T.nN lk_numbers
    have fs : ∀ {H1 : Hp}, Ex H H1 → Ev (tFld K (tVar 1) "some") [some (.ref c), some (.ref x)] H1 (.ref l) := fun {H1} e1 => ev_fld (ev_var rfl) (e1 _ _ x1) T.clc T.nO lk_some
    have at_ : ∀ {H1 : Hp} {i : Nat} {z : Int}, Ex H H1 → nums[i]? = some z → Ev (tOp (rIxL K) (tFld K (tVar 1) "numbers") (tC (.int (i : Nat)))) [some (.ref c), some (.ref x)] H1 (.int z) := fun {H1 i z} e1 h => ev_op (fn e1) ev_c (rv_ixL (ex_l e1 x2) (atI_nat (by rw [List.getElem?_map, h]; rfl)))
    have ln : ∀ {H1 : Hp} {b : Bool} {k : Int}, Ex H H1 → decide (((nums.length : Nat) : Int) = k) = b → EvT (tTest (tOp rEq (tCB (rLenS K) (tCons (tFld K (tVar 1) "numbers") tNil)) (tC (.int k)))) [some (.ref c), some (.ref x)] H1 b := fun {H1 b k} e1 hb => by
      have g := ev_len (K := K) (fn e1) (ex_l e1 x2)
      rw [List.length_map] at g
      refine et_is (et_test (ev_op g ev_c (rv_eq rfl))) ?_
      rw [← hb]
      exact decide_eq_decide.mpr ⟨fun z => V.int.inj z, fun z => by rw [z]⟩
    have no : ∀ {H1 : Hp} {v : Str}, Ex H H1 → decide (w = v) = false → EvT (tTest (tOp rEq (tFld K (tVar 1) "word") (tC (.str v)))) [some (.ref c), some (.ref x)] H1 false := fun e1 hb => et_wordE (fw e1) hb
    have yes : ∀ {H1 : Hp} {v : Str}, Ex H H1 → decide (w = v) = true → EvT (tTest (tOp rEq (tFld K (tVar 1) "word") (tC (.str v)))) [some (.ref c), some (.ref x)] H1 true := fun e1 hb => et_wordE (fw e1) hb
    have one : ∀ {H1 : Hp} {z : Int}, Ex H H1 → nums = [z] → w ≠ "put" → tCall (spOne C CF) [] E (tCons (tVar 0) (tCons (tFld K (tVar 1) "word") (tCons (tOp (rIxL K) (tFld K (tVar 1) "numbers") (tC (.int 0))) tNil))) [some (.ref c), some (.ref x)] H1 Q := fun {H1 z} e1 hn hp => by
      subst hn
      exact ea_cons (ev_var rfl) (ea_cons (fw e1) (ea_cons (at_ (i := 0) e1 rfl) ea_nil)) H1 (Ex.refl H1) _ fun H2 e2 => ⟨c, s, st, w, z, row, d, rfl, hw, hp, hc.on (e1.trans e2), o.on hc (e1.trans e2)⟩
    have two : ∀ {H1 : Hp} {y z : Int}, Ex H H1 → nums = [y, z] → tCall (spTwo C CF) [] E (tCons (tVar 0) (tCons (tFld K (tVar 1) "word") (tCons (tOp (rIxL K) (tFld K (tVar 1) "numbers") (tC (.int 0))) (tCons (tOp (rIxL K) (tFld K (tVar 1) "numbers") (tC (.int 1))) tNil)))) [some (.ref c), some (.ref x)] H1 Q := fun {H1 y z} e1 hn => by
      subst hn
      exact ea_cons (ev_var rfl) (ea_cons (fw e1) (ea_cons (at_ (i := 0) e1 rfl) (ea_cons (at_ (i := 1) e1 rfl) ea_nil))) H1 (Ex.refl H1) _ fun H2 e2 => ⟨c, s, st, w, y, z, row, d, rfl, hw, hc.on (e1.trans e2), o.on hc (e1.trans e2)⟩
    have three : ∀ {H1 : Hp} {y z u : Int}, Ex H H1 → nums = [y, z, u] → tCall (spThree K C CF) [] E (tCons (tVar 0) (tCons (tFld K (tVar 1) "word") (tCons (tFld K (tVar 1) "numbers") tNil))) [some (.ref c), some (.ref x)] H1 Q := fun {H1 y z u} e1 hn => by
      subst hn
      exact ea_cons (ev_var rfl) (ea_cons (fw e1) (ea_cons (fn e1) ea_nil)) H1 (Ex.refl H1) _ fun H2 e2 => ⟨c, s, n, st, w, y, z, u, row, d, rfl, ex_l (e1.trans e2) x2, hw, hc.on (e1.trans e2), o.on hc (e1.trans e2)⟩
    cases hw with
    | put p => exact q_yes (yes (Ex.refl H) (by decide +kernel)) fun H1 e1 => m_go (m := "put") (sp := spPut K C CF) (hc.on e1) (i := 0) rfl (ea_cons (at_ (i := 0) e1 rfl) (ea_cons (fs e1) ea_nil)) (by decide +kernel) (by decide +kernel) fun H2 e2 => ⟨c, s, l, st, p, row, rfl, ex_l (e1.trans e2) x3, hz, hc.on (e1.trans e2), o.on hc (e1.trans e2)⟩
    | plots => exact q_no (no (Ex.refl H) (by decide +kernel)) fun H1 e1 => q_yes (yes e1 (by decide +kernel)) fun H2 e2 => m_go (m := "plots") (sp := spPlots K C CF) (hc.on (e1.trans e2)) (i := 0) rfl (ea_cons (fs (e1.trans e2)) ea_nil) (by decide +kernel) (by decide +kernel) fun H3 e3 => ⟨c, s, l, st, row, rfl, ex_l ((e1.trans e2).trans e3) x3, hz, hc.on ((e1.trans e2).trans e3), o.on hc ((e1.trans e2).trans e3)⟩
    | told => exact q_no (no (Ex.refl H) (by decide +kernel)) fun H1 e1 => q_no (no e1 (by decide +kernel)) fun H2 e2 => q_yes (ln (e1.trans e2) rfl) fun H3 e3 => one ((e1.trans e2).trans e3) rfl (by decide +kernel)
    | size => exact q_no (no (Ex.refl H) (by decide +kernel)) fun H1 e1 => q_no (no e1 (by decide +kernel)) fun H2 e2 => q_yes (ln (e1.trans e2) rfl) fun H3 e3 => one ((e1.trans e2).trans e3) rfl (by decide +kernel)
    | alike => exact q_no (no (Ex.refl H) (by decide +kernel)) fun H1 e1 => q_no (no e1 (by decide +kernel)) fun H2 e2 => q_yes (ln (e1.trans e2) rfl) fun H3 e3 => one ((e1.trans e2).trans e3) rfl (by decide +kernel)
    | over => exact q_no (no (Ex.refl H) (by decide +kernel)) fun H1 e1 => q_no (no e1 (by decide +kernel)) fun H2 e2 => q_yes (ln (e1.trans e2) rfl) fun H3 e3 => one ((e1.trans e2).trans e3) rfl (by decide +kernel)
    | expected => exact q_no (no (Ex.refl H) (by decide +kernel)) fun H1 e1 => q_no (no e1 (by decide +kernel)) fun H2 e2 => q_no (ln (e1.trans e2) rfl) fun H3 e3 => q_yes (ln ((e1.trans e2).trans e3) rfl) fun H4 e4 => two (((e1.trans e2).trans e3).trans e4) rfl
    | variance => exact q_no (no (Ex.refl H) (by decide +kernel)) fun H1 e1 => q_no (no e1 (by decide +kernel)) fun H2 e2 => q_no (ln (e1.trans e2) rfl) fun H3 e3 => q_yes (ln ((e1.trans e2).trans e3) rfl) fun H4 e4 => two (((e1.trans e2).trans e3).trans e4) rfl
    | ways => exact q_no (no (Ex.refl H) (by decide +kernel)) fun H1 e1 => q_no (no e1 (by decide +kernel)) fun H2 e2 => q_no (ln (e1.trans e2) rfl) fun H3 e3 => q_yes (ln ((e1.trans e2).trans e3) rfl) fun H4 e4 => two (((e1.trans e2).trans e3).trans e4) rfl
    | powers => exact q_no (no (Ex.refl H) (by decide +kernel)) fun H1 e1 => q_no (no e1 (by decide +kernel)) fun H2 e2 => q_no (ln (e1.trans e2) rfl) fun H3 e3 => q_yes (ln ((e1.trans e2).trans e3) rfl) fun H4 e4 => two (((e1.trans e2).trans e3).trans e4) rfl
    | evener => exact q_no (no (Ex.refl H) (by decide +kernel)) fun H1 e1 => q_no (no e1 (by decide +kernel)) fun H2 e2 => q_no (ln (e1.trans e2) rfl) fun H3 e3 => q_yes (ln ((e1.trans e2).trans e3) rfl) fun H4 e4 => two (((e1.trans e2).trans e3).trans e4) rfl
    | turns => exact q_no (no (Ex.refl H) (by decide +kernel)) fun H1 e1 => q_no (no e1 (by decide +kernel)) fun H2 e2 => q_no (ln (e1.trans e2) rfl) fun H3 e3 => q_yes (ln ((e1.trans e2).trans e3) rfl) fun H4 e4 => two (((e1.trans e2).trans e3).trans e4) rfl
    | times => exact q_no (no (Ex.refl H) (by decide +kernel)) fun H1 e1 => q_no (no e1 (by decide +kernel)) fun H2 e2 => q_no (ln (e1.trans e2) rfl) fun H3 e3 => q_no (ln ((e1.trans e2).trans e3) rfl) fun H4 e4 => q_yes (ln (((e1.trans e2).trans e3).trans e4) rfl) fun H5 e5 => three ((((e1.trans e2).trans e3).trans e4).trans e5) rfl
    | richer => exact q_no (no (Ex.refl H) (by decide +kernel)) fun H1 e1 => q_no (no e1 (by decide +kernel)) fun H2 e2 => q_no (ln (e1.trans e2) rfl) fun H3 e3 => q_no (ln ((e1.trans e2).trans e3) rfl) fun H4 e4 => q_yes (ln (((e1.trans e2).trans e3).trans e4) rfl) fun H5 e5 => three ((((e1.trans e2).trans e3).trans e4).trans e5) rfl
    | pool => exact q_no (no (Ex.refl H) (by decide +kernel)) fun H1 e1 => q_no (no e1 (by decide +kernel)) fun H2 e2 => q_no (ln (e1.trans e2) rfl) fun H3 e3 => q_no (ln ((e1.trans e2).trans e3) rfl) fun H4 e4 => q_yes (ln (((e1.trans e2).trans e3).trans e4) rfl) fun H5 e5 => three ((((e1.trans e2).trans e3).trans e4).trans e5) rfl
    | shared p q n' m' => exact q_no (no (Ex.refl H) (by decide +kernel)) fun H1 e1 => q_no (no e1 (by decide +kernel)) fun H2 e2 => q_no (ln (e1.trans e2) rfl) fun H3 e3 => q_no (ln ((e1.trans e2).trans e3) rfl) fun H4 e4 => q_no (ln (((e1.trans e2).trans e3).trans e4) rfl) fun H5 e5 => m_go (m := "shared") (sp := spSh K C CF) (hc.on ((((e1.trans e2).trans e3).trans e4).trans e5)) (i := 0) rfl (ea_cons (fn ((((e1.trans e2).trans e3).trans e4).trans e5)) ea_nil) (by decide +kernel) (by decide +kernel) fun H6 e6 => ⟨c, s, n, st, p, q, n', m', rfl, ex_l (((((e1.trans e2).trans e3).trans e4).trans e5).trans e6) x2, hc.on (((((e1.trans e2).trans e3).trans e4).trans e5).trans e6), o.on hc (((((e1.trans e2).trans e3).trans e4).trans e5).trans e6)⟩
/-! ### outcome -/
abbrev s_outcome : Stmt := (top 69)
abbrev n_outcome : List Str := ["catches", "call", "found", "e"]
abbrev p_outcome : List Str := ["catches", "call"]
theorem sc_outcome : FnScope n_outcome p_outcome (defScope s_outcome) := ⟨rfl, rfl, rfl, by decide +kernel, rfl, by decide +kernel, by decide +kernel⟩
def t_body (K : PySem.W.Frag) (C CF CC : Addr) : WX → TS := fun W => tAsg (tCallS (spAnsd K C CC CF) (WE W) (tCons (tVar 0) (tCons (tVar 1) tNil))) (gName 2)
def t_suite (CF : Addr) : Addr → Value → Option Addr → TS := fun a cls d => tAsg (tLst (tCons (tXf a cls d CF "code" (tVar 3)) tNil)) (gName 2)
def spOutcome (K : PySem.W.Frag) (C CC : Addr) : Sp := fun vs H Q _ => ∃ (c s x : Addr) (st : Vbecal.State) (w : Str) (nums row : List Int) (e : Nat) (d : Vbecal.Call), vs = [.ref c, .ref x] ∧ CallAt K CC H x w nums row e ∧ row.length ≤ 20000 ∧ CallIs w nums row d ∧ CatsAt C H c s st ∧
  Done C c s (outc st (run st d)).1 (outc st (run st d)).2 H Q
theorem ok_outcome (T : Txt K mg C CC CF) (c_answered : Callee P w K mg base (L2.CX P w) 9 "answered" p_answered (spAnsd K C CC CF)) (D : DefIn K mg "outcome" "outcome" s_outcome p_outcome) : Callee P w K mg base CX0 10 "outcome" p_outcome (spOutcome K C CC) := by
  refine callee D sc_outcome (fun vs H Q E h => ?_) (fun f cdv A outer s H vs Q E hr h => ⟨_, (pss_cons (ps_try_as (i := 3) (tb := t_body K C CF CC) (ts := t_suite CF) (Wout := fun _ _ _ _ => False) rfl rfl sc_outcome.nd rfl rfl ⟨rfl, by decide, Or.inl T.ref.gR⟩ takes0 (fun W pn xe tk _ => (pss_one (ps_set (i := 2) sc_outcome.nd rfl (Or.inl rfl) (by exact (pe_callCS c_answered (hr.mono (by decide)) (by rfl) (fun σ => passAt tk σ) (by exact (pa_cons (pv 0) (pa_cons (pv 1) pa_nil)))))))) (fun a oe cls d pn hz hf => (pss_one (ps_set (i := 2) sc_outcome.nd rfl (Or.inl rfl) (pe_lst (pa_cons (pe_xf T.ref.xf T.ref.noC hz hf (pv 3)) pa_nil))))))
      (pss_one (ps_ret (pv 2)))), ?_⟩)
  · obtain ⟨_, _, _, _, _, _, _, _, _, rfl, _⟩ := h
    rfl
  · obtain ⟨c, s, x, st, w, nums, row, e, d, rfl, hx, hz, hw, hc, o⟩ := h
    refine ⟨.ref c, rfl, .ref x, rfl, c, s, x, st, w, nums, row, e, d, rfl, hx, hz, hw, hc, ?_⟩
    cases hrun : run st d with
    | error k =>
      rw [hrun] at o
      refine fun H1 d1 e1 h1 => ⟨true, T.ref.te, fun _ a0 _ => ?_, fun q => Bool.noConfusion q⟩
      refine ⟨.ref a0, rfl, rfl, rfl, d1, _, _, rfl, h1, lk_here, by show 1 ≤ sizeLine; decide, fun p hp => ?_⟩
      refine s_ret (σ := [some (.ref c), some (.ref x), some (.ref p), none]) (ev_var (i := 2) rfl) fun H2 e2 => ?_
      have e3 : Ex H H2 := e1.trans ((Ex.new hp).trans e2)
      exact o p H2 (e2 _ _ upd_same) (hc.on e3) (fun b ob hb _ _ => e3 _ _ hb) (.of hc e3)
    | ok r =>
      rw [hrun] at o
      refine fun p H1 h1 h2 h3 h4 => ?_
      refine s_ret (σ := [some (.ref c), some (.ref x), some (.ref p), none]) (ev_var (i := 2) rfl) fun H2 e2 => ?_
      exact o p H2 (e2 _ _ h1) (h2.on e2) (fun b ob hb n1 n2 => e2 _ _ (h3 b ob hb n1 n2)) fun f ob hf hn ho => h4 f ob hf hn (ho.back h2 e2)
end
end Kw


/-! catches.py: answers -/
namespace Kw
open PySem PySem.Spec PyProof.Rows L2 Evl
/-! ### the calls, plainly -/
def restOf (st : Vbecal.State) (cs : List (List (List Int))) : List Int := PyFlat.told (PyFlat.played VbecalNeutral.step st cs)
theorem rest_nil (st : Vbecal.State) : restOf st [] = [] := rfl
theorem rest_cons {st : Vbecal.State} {c : List (List Int)} {cs : List (List (List Int))} {d : Vbecal.Call} (h : Vbecal.decode c = some d) :
    restOf st (c :: cs) = (((outc st (run st d)).2.length : Int) :: (outc st (run st d)).2) ++ restOf (outc st (run st d)).1 cs := by
  have e : VbecalNeutral.step st c = outc st (run st d) := by
    rw [run_is]
    show Vbecal.step st c = _
    unfold Vbecal.step
    rw [h]
  unfold restOf
  show PyFlat.told ((VbecalNeutral.step st c).2 :: PyFlat.played VbecalNeutral.step (VbecalNeutral.step st c).1 cs) = _
  rw [e]
  show List.flatMap (fun a : List Int => (a.length : Int) :: a) (_ :: _) = _
  rw [List.flatMap_cons]; rfl
theorem whole_is (c : List (List Int)) : PyVbecal.whole c = c := by
  unfold PyVbecal.whole
  split <;> rfl
theorem calls_is {ns : List Int} (h : PyVbecal.answers_asked ns = true) : ∃ cs, PyFlat.calls PyVbecal.shape ns.length ns = some cs ∧ cs.length ≤ 400 ∧ PyVbecal.answers ns = restOf Vbecal.start cs := by
  unfold PyVbecal.answers_asked at h
  cases hc : PyVbecal.calls ns with
  | none => rw [hc] at h; cases h
  | some cs =>
    rw [hc] at h
    have h1 := (Bool.and_eq_true_iff.mp h).1
    have h2 : cs.length ≤ 400 := of_decide_eq_true h1
    have ha : PyVbecal.answers ns = restOf Vbecal.start cs := by
      unfold PyVbecal.answers
      rw [hc]; rfl
    unfold PyVbecal.calls at hc
    cases hf : PyFlat.calls PyVbecal.shape ns.length ns with
    | none => rw [hf] at hc; cases hc
    | some cs0 =>
      rw [hf] at hc
      have e : cs0.map PyVbecal.whole = cs := Option.some.inj hc
      rw [show PyVbecal.whole = id from funext whole_is, List.map_id] at e
      subst e
      exact ⟨cs0, rfl, h2, ha⟩
/-- one call more, or none -/
theorem calls_next {f : Nat} {l : List Int} {cs : List (List (List Int))} (h : PyFlat.calls PyVbecal.shape f l = some cs) (hl : l ≠ []) :
    ∃ f' c t cs', PyFlat.call PyVbecal.shape l = some (c, t) ∧ PyFlat.calls PyVbecal.shape f' t = some cs' ∧ cs = c :: cs' := by
  cases l with
  | nil => exact absurd rfl hl
  | cons p r =>
    cases f with
    | zero => cases h
    | succ f =>
      have h' : (match PyFlat.call PyVbecal.shape (p :: r) with
        | none => none
        | some (c, t) => match PyFlat.calls PyVbecal.shape f t with
          | none => none
          | some cs => some (c :: cs)) = some cs := h
      cases hc : PyFlat.call PyVbecal.shape (p :: r) with
      | none => rw [hc] at h'; cases h'
      | some ct =>
        obtain ⟨c, t⟩ := ct
        rw [hc] at h'
        have h2 : (match PyFlat.calls PyVbecal.shape f t with
          | none => none
          | some cs => some (c :: cs)) = some cs := h'
        cases hq : PyFlat.calls PyVbecal.shape f t with
        | none => rw [hq] at h2; cases h2
        | some cs' =>
          rw [hq] at h2
          exact ⟨f, c, t, cs', rfl, hq, (Option.some.inj h2).symm⟩
theorem calls_end {f : Nat} {cs : List (List (List Int))} (h : PyFlat.calls PyVbecal.shape f [] = some cs) : cs = [] := by
  cases f <;> exact (Option.some.inj h).symm
section
variable {K : PySem.W.Frag} {C c s : Addr} {H : Hp} {st : Vbecal.State} {σ : L2.St} {D : Ends} {tz : TS} {ta te : TE}
theorem CatsAt.smp (h : CatsAt C H c s st) {p : Int} (hp : Vbecal.isPlace p = true) : Smp (st.sample p) := by
  obtain ⟨as, g1, g2, g3⟩ := h.tab
  obtain ⟨p0, p3⟩ := within_iff.mp hp
  obtain ⟨_, xs, k1, _, k3, _⟩ := g3 p.toNat as[p.toNat] (by simp [show p.toNat < as.length by omega])
  rw [sample_of k1]
  exact k3
/-- no answer is long -/
theorem ans_len (h : CatsAt C H c s st) (d : Vbecal.Call) : (outc st (run st d)).2.length ≤ 400 := by
  rw [run_is]
  by_cases hr : Vbecal.inRange st d = false
  · rw [if_pos hr]; show 1 ≤ 400; decide
  · rw [if_neg hr]
    have ht : Vbecal.inRange st d = true := by
      cases e : Vbecal.inRange st d with
      | true => rfl
      | false => exact absurd e hr
    have cl : ∀ l : List Nat, (Vbecal.counted l).length = l.length + 1 := fun l => by
      show (((l.length : Int)) :: Vbecal.ints l).length = _
      rw [List.length_cons]
      exact congrArg (· + 1) (List.length_map ..)
    cases d with
    | told p =>
      have := (h.smp ht).len
      show (Vbecal.counted (st.sample p)).length ≤ 400
      rw [cl]; omega
    | ways p n =>
      have hp : Vbecal.isPlace p = true := part_place (Bool.and_eq_true_iff.mp ht).1
      have := (h.smp hp).len
      have hl : (Vbecal.ways (st.sample p) n.toNat).length = (st.sample p).length + 1 := by
        have := Kc.ways_len (st.sample p) n.toNat
        rw [← Kc.ways_is] at this
        exact (List.length_map ..).symm.trans this
      show (Vbecal.counted (Vbecal.ways (st.sample p) n.toNat)).length ≤ 400
      rw [cl, hl]; omega
    | turns p q =>
      have hp : Vbecal.isPlace p = true := (Bool.and_eq_true_iff.mp ht).1
      have := (h.smp hp).sum
      have tl := turns_len (st.sample p) (st.sample q)
      rw [← Kc.turns_is] at tl
      have tl2 : (Vbecal.turns (st.sample p) (st.sample q)).length ≤ (st.sample p).sum + 1 := by
        have e : (Vbecal.ints (Vbecal.turns (st.sample p) (st.sample q))).length = (Vbecal.turns (st.sample p) (st.sample q)).length := List.length_map ..
        omega
      show (Vbecal.counted (Vbecal.turns (st.sample p) (st.sample q))).length ≤ 400
      rw [cl]; omega
    | alike p =>
      show (if Vbecal.all (st.sample p) < 2 then (st, [-2]) else (st, Vbecal.shown (Vbecal.alike (st.sample p)))).2.length ≤ 400
      split <;> first | (show 1 ≤ 400; decide) | (show 2 ≤ 400; decide)
    | shared p q n m =>
      show (if (st.sample p).length ≠ (st.sample q).length then (st, [-3]) else (st, Vbecal.shown (Vbecal.shared (st.sample p) (st.sample q) n.toNat m.toNat))).2.length ≤ 400
      split <;> first | (show 1 ≤ 400; decide) | (show 2 ≤ 400; decide)
    | pool p q r =>
      unfold Vbecal.act
      dsimp only
      split
      · show 1 ≤ 400
        decide
      · split
        · show 1 ≤ 400
          decide
        · show 1 ≤ 400
          decide
    | put p l => show 1 ≤ 400; decide
    | size p => show 2 ≤ 400; decide
    | expected p n => show 2 ≤ 400; decide
    | variance p n => show 2 ≤ 400; decide
    | metTimes p n j => show 2 ≤ 400; decide
    | powers p q => show 2 ≤ 400; decide
    | evener p q => show 2 ≤ 400; decide
    | richer p q n => show 1 ≤ 400; decide
    | plots l => show 1 ≤ 400; decide
    | overPlots h => show 2 ≤ 400; decide
/-- xs.extend(a new list) -/
theorem q_ext {l : Addr} {xs ys : List V} (hl : H l = some (.lst xs)) (ha : Ev ta σ H (.ref l)) (h : EvL te σ H ys) (hz : xs.length + ys.length ≤ sizeLine) (k : ∀ H1, Ex H H1 → tz D σ (upd H1 l (.lst (xs ++ ys)))) :
    tSeq (tDrop (tBM K "list" rExtend ta (tCons te tNil))) tz D σ H := ha H (Ex.refl H) _ fun H1 e1 =>
  ⟨Or.inl ⟨rfl, xs, sq_of (e1 l _ hl)⟩, h H1 e1 _ fun p H2 hp e2 h2 => ⟨l, p, xs, ys, rfl, rfl, e2 l _ (e1 l _ hl), h2, hz, k H2 (e1.trans e2)⟩⟩
end
section
variable {P : Program} {w : World} {K : PySem.W.Frag} {mg : Str → Option Value} {base : Heap} {H : Hp} {C CC CF : Addr}
/-! ### answers -/
abbrev s_answers : Stmt := (top 70)
abbrev n_answers : List Str := ["calls", "catches", "found", "place", "call", "some"]
abbrev p_answers : List Str := ["calls"]
theorem sc_answers : FnScope n_answers p_answers (defScope s_answers) := ⟨rfl, rfl, rfl, by decide +kernel, rfl, by decide +kernel, by decide +kernel⟩
def spAnswers (K : PySem.W.Frag) : Sp := fun vs H Q _ => ∃ (a : Addr) (ns : List Int), vs = [.ref a] ∧ IL K H a ns ∧ ns.length ≤ 16000 ∧ PyVbecal.answers_asked ns = true ∧
  ∀ (H' : Hp) (p : Addr), H' p = some (.lst ((PyVbecal.answers ns).map V.int)) → Q (.ref p) H'
/-- between two turns -/
structure Turn (K : PySem.W.Frag) (C c s f a : Addr) (H : Hp) (ns : List Int) (m : Nat) (σ' : L2.St) (H' : Hp) : Prop where
  ex : Ex H H'
  at_ : ∃ (place : Nat) (st : Vbecal.State) (cs : List (List (List Int))) (fuel i : Nat) (acc : List Int) (z1 z2 : Option V),
    σ' = [some (.ref a), some (.ref c), some (.ref f), some (.int (place : Nat)), z1, z2] ∧ place ≤ ns.length ∧ PyFlat.calls PyVbecal.shape fuel (ns.drop place) = some cs ∧ m = cs.length ∧ CatsAt C H' c s st ∧
    H' f = some (.lst (acc.map V.int)) ∧ ¬ Own C H' c s f ∧ acc ++ restOf st cs = PyVbecal.answers ns ∧ acc.length ≤ 401 * i ∧ i + cs.length ≤ 400
theorem ok_answers (T : Txt K mg C CC CF) (m_Catches : KCallee P w K mg base CX0 C 1 "Catches" p_Catches___init__ (spInit C)) (c_call_at : Callee P w K mg base CX0 3 "call_at" p_call_at (spCallAt K CC)) (c_outcome : Callee P w K mg base CX0 10 "outcome" p_outcome (spOutcome K C CC))
    {f0 : Addr} {fd0 : FuncData} (F : Fun K "answers" "answers" s_answers f0 fd0) : FnOk P w K mg base CX0 11 f0 fd0 p_answers (spAnswers K) := by
  refine F.ok sc_answers (fun vs H Q E h => ?_) (fun cdv A outer s H vs Q E hr h => ⟨_, (pss_cons (ps_set (i := 1) sc_answers.nd rfl (Or.inl rfl) (pe_makeC0 m_Catches (hr.mono (by decide)) (by rfl) pass0))
      (pss_cons (ps_set (i := 2) sc_answers.nd rfl (Or.inl rfl) (pe_lst pa_nil))
      (pss_cons (ps_set (i := 3) sc_answers.nd rfl (Or.inl rfl) pe_int)
      (pss_cons (ps_while PassesOwn.never (pt_cmpR op_lt (pv 3) (pe_callB call_len_seq (by rfl) T.b_len PySem.boot_len (pa_cons (pv 0) pa_nil)) (nomark _)) (pss_cons (ps_set (i := 4) sc_answers.nd rfl (Or.inl rfl) (pe_callC c_call_at (hr.mono (by decide)) (by rfl) pass0 (pa_cons (pv 0) (pa_cons (pv 3) pa_nil))))
      (pss_cons (ps_set (i := 5) sc_answers.nd rfl (Or.inl rfl) (pe_callC c_outcome (hr.mono (by decide)) (by rfl) pass0 (pa_cons (pv 1) (pa_cons (pv 4) pa_nil))))
      (pss_cons (ps_expr (pe_bm PySem.F.plainAttrs_list PySem.F.slot_list_extend PySem.F.type_list_extend mt_extend (pv 2) (pa_cons (pe_op op_cat (pe_lst (pa_cons (pe_callB call_len_seq (by rfl) T.b_len PySem.boot_len (pa_cons (pv 5) pa_nil)) pa_nil)) (pv 5)) pa_nil)))
      (pss_one (ps_set (i := 3) sc_answers.nd rfl (Or.inl rfl) (pe_fld (pv 4) rfl)))))))
      (pss_one (ps_ret (pv 2))))))), ?_⟩)
  · obtain ⟨_, _, rfl, _⟩ := h
    rfl
  · obtain ⟨a, ns, rfl, hx, hz, hq, q⟩ := h
    obtain ⟨cs, hcs, h400, hans⟩ := calls_is hq
    -- catches = Catches()
    refine fun c dx hc hdx ne => ⟨c, dx, rfl, upd_same, fun H1 s hs hcat k1 => ⟨rfl, ?_⟩⟩
    have e1 : Ex H H1 := fun b o hb => k1 b o (by rw [upd_ne (ne_of_none hb hc), upd_ne (ne_of_none hb hdx)]; exact hb) (ne_of_none hb hc)
    have hsc : s ≠ c := fun z => by rw [z, upd_same] at hs; cases hs
    have hs0 : H s = none := by
      rw [upd_ne hsc] at hs
      by_cases hd : s = dx
      · rw [hd, upd_same] at hs; cases hs
      · rw [upd_ne hd] at hs
        exact hs
    refine q_asgL (el_lst ea_nil (by decide)) fun f H2 hf e2 h2 => ?_
    refine q_asg ev_c fun H3 e3 => ?_
    have e13 := (e1.trans e2).trans e3
    have hcat3 := hcat.on (e2.trans e3)
    have hf0 : H f = none := fresh_back e1 hf
    obtain ⟨dxc, t0, i1, _, i3⟩ := hcat.ins
    obtain ⟨as0, g1, _, g3⟩ := hcat.tab
    have hfc : f ≠ c := fun z => by rw [z, i1] at hf; cases hf
    have hfs : f ≠ s := fun z => by rw [z, g1] at hf; cases hf
    refine q_while (fun m σ' H' => Turn K C c s f a H ns m σ' H') cs.length ⟨e13, 0, Vbecal.start, cs, ns.length, 0, [], none, none, rfl, Nat.zero_le _, by rw [List.drop_zero]; exact hcs, rfl, hcat3, e3 _ _ h2, ?_, by rw [List.nil_append]; exact hans.symm, Nat.zero_le _, by omega⟩ ?_
    · intro ho
      rcases (ho.back (hcat.on e2) e3).back hcat e2 with h | h
      · obtain ⟨dx', fs', w1, w2⟩ := h
        rw [i1] at w1
        have j := (HO.ins.inj (Option.some.inj w1)).2.2
        rw [← j, lk_sets] at w2
        have ef : t0 = f := V.ref.inj (Option.some.inj w2)
        rw [← ef, i3] at hf
        cases hf
      · obtain ⟨ys, w1, w2⟩ := h
        rw [g1] at w1
        have j := HO.lst.inj (Option.some.inj w1)
        rw [← j] at w2
        obtain ⟨b, hb1, hb2⟩ := List.mem_map.mp w2
        obtain ⟨k, hk⟩ := List.mem_iff_getElem?.mp hb1
        obtain ⟨_, _, _, z, _⟩ := g3 k b hk
        rw [V.ref.inj hb2, hf] at z
        cases z
    rintro m σ' H' ⟨ex, place, st, cs, fuel, i, acc, z1, z2, rfl, hpl, hcl, rfl, hct, hfd, hno, hacc, hlen, hi⟩
    have ln := ev_len (K := K) (σ := [some (.ref a), some (.ref c), some (.ref f), some (.int (place : Nat)), z1, z2]) (ev_var (i := 0) rfl) (ex_l ex hx)
    rw [List.length_map] at ln
    refine ⟨decide ((place : Int) < ns.length), et_test (ev_op (ev_var rfl) ln rv_I0), fun ht H4 e4 => ?_, fun hfl H4 e4 => ?_⟩
    · have hlt : place < ns.length := by have := of_decide_eq_true ht; omega
      obtain ⟨fuel', c0, t, cs', hc0, hcs', rfl⟩ := calls_next hcl (fun z => by
        have := congrArg List.length z
        rw [List.length_drop] at this
        have h0 : ([] : List Int).length = 0 := rfl
        omega)
      obtain ⟨k, nums, row, e, hh, ht2, hc2, hnl⟩ := call_here hc0
      obtain ⟨d, hci, hdec⟩ := here_is (row := row) hh.k16 hnl
      rw [← hc2] at hdec
      obtain ⟨a1, a2⟩ := hh.after
      have hrow : row.length ≤ 20000 := by
        cases lk : listed k with
        | false => rw [(hh.no lk).1]; decide
        | true =>
          obtain ⟨z, _, _, hr3, _⟩ := hh.yes lk
          rw [hr3, List.length_take, List.length_drop]
          omega
      refine ⟨fun σ2 H2 => Turn K C c s f a H ns cs'.length σ2 H2, fun σ2 H2 t => ⟨cs'.length, by rw [List.length_cons]; omega, t⟩, ?_⟩
      -- call = call_at(calls, place)
      refine ⟨_, rfl, _, rfl, a, ns, place, k, nums, row, e, rfl, ex_l (ex.trans e4) hx, hz, hh, fun H5 x dxx n l e5 x1 x2 x3 => ?_⟩
      have e45 := e4.trans e5
      have hct5 := hct.on e45
      -- some = outcome(catches, call)
      refine ⟨_, rfl, _, rfl, c, s, x, st, wordOf k, nums, row, e, d, rfl, ⟨dxx, n, l, x1, x2, x3⟩, hrow, hci, hct5, fun p H6 p1 p2 p3 p4 => ?_⟩
      have hfd5 := e45 _ _ hfd
      have hfd6 := p3 _ _ hfd5 hfc hfs
      have x6 : H6 x = some (.ins CC dxx (callF (wordOf k) n l (e : Nat))) := p3 _ _ x1 (fun z => by
        obtain ⟨dx', t', j1, _⟩ := hct5.ins
        rw [z, j1] at x1
        have z2 := congrArg List.length (HO.ins.inj (Option.some.inj x1)).2.2
        exact absurd (show 2 = 4 from z2) (by decide)) (fun z => by
        obtain ⟨as', j1, _⟩ := hct5.tab
        rw [z, j1] at x1
        cases x1)
      have ex6 : Ex H H6 := fun b o hb => p3 _ _ (e45 _ _ (ex _ _ hb)) (ne_of_none hb hc) (ne_of_none hb hs0)
      have al := ans_len hct d
      -- found.extend([len(some)] + some)
      have ls := ev_len (K := K) (σ := [some (.ref a), some (.ref c), some (.ref f), some (.int (place : Nat)), some (.ref x), some (.ref p)]) (ev_var (i := 5) rfl) (sq_of p1)
      rw [List.length_map] at ls
      refine q_ext hfd6 (ev_var rfl) (el_cat2 (el_lst (ea_cons ls ea_nil) (by show 1 ≤ 100000; omega)) (ev_var rfl) p1 (by rw [List.length_map]; show 1 + _ ≤ 100000; omega)) (by
        rw [List.length_append, List.length_map, List.length_map, sizeLine_eq]
        show acc.length + (1 + _) ≤ 16777216
        rw [List.length_cons] at hi
        omega) fun H7 e7 => ?_
      -- place = call.end
      have hxf : x ≠ f := fun z => by
        rw [z, hfd6] at x6
        cases x6
      refine s_asg (ev_fld (ev_var rfl) (show upd H7 f _ x = _ by rw [upd_ne hxf]; exact e7 _ _ x6) T.clc T.nE lk_end) fun H8 e8 => ?_
      have ex8 : Ex H H8 := fun b o hb => e8 _ _ (by rw [upd_ne (ne_of_none hb hf0)]; exact e7 _ _ (ex6 _ _ hb))
      refine ⟨ex8, e, (outc st (run st d)).1, cs', fuel', i + 1, acc ++ (((outc st (run st d)).2.length : Int) :: (outc st (run st d)).2), _, _, rfl, a2, by rw [← ht2]; exact hcs', rfl, ?_, ?_, ?_, ?_, ?_, ?_⟩
      · refine CatsAt.on ?_ e8
        have hno7 : ¬ Own C H7 c s f := fun ho => p4 f _ hfd5 (fun ho2 => hno (ho2.back hct e45)) (ho.back p2 e7)
        obtain ⟨⟨dx', t', j1, j2, j3⟩, ⟨as', q1, q2, q3⟩, f4, pl⟩ := p2.on e7
        have tf : t' ≠ f := fun z => hno7 (.inl ⟨dx', _, j1, by rw [← z]; exact lk_sets⟩)
        refine ⟨⟨dx', t', by rw [upd_ne hfc.symm]; exact j1, j2, by rw [upd_ne tf]; exact j3⟩, ⟨as', by rw [upd_ne hfs.symm]; exact q1, q2, fun k b hk => ?_⟩, f4, pl⟩
        obtain ⟨n1, xs, k1, k2, k3⟩ := q3 k b hk
        have bf : b ≠ f := fun z => hno7 (.inr ⟨_, q1, by rw [← z]; exact List.mem_map.mpr ⟨b, List.mem_of_getElem? hk, rfl⟩⟩)
        exact ⟨n1, xs, k1, by rw [upd_ne bf]; exact k2, k3⟩
      · exact e8 _ _ (by rw [upd_same, List.map_append]; rfl)
      · intro ho
        have hno7 : ¬ Own C H7 c s f := fun ho => p4 f _ hfd5 (fun ho2 => hno (ho2.back hct e45)) (ho.back p2 e7)
        obtain ⟨dx', t', j1, _, _⟩ := (p2.on e7).ins
        obtain ⟨as', q1, _⟩ := (p2.on e7).tab
        rcases ho with ⟨dx2, fs2, w1, w2⟩ | ⟨ys, w1, w2⟩
        · have j := e8 c _ (show upd H7 f _ c = _ by rw [upd_ne hfc.symm]; exact j1)
          rw [w1] at j
          rw [← Option.some.inj j] at j1
          exact hno7 (.inl ⟨dx2, fs2, j1, w2⟩)
        · have j := e8 s _ (show upd H7 f _ s = _ by rw [upd_ne hfs.symm]; exact q1)
          rw [w1] at j
          rw [← Option.some.inj j] at q1
          exact hno7 (.inr ⟨ys, q1, w2⟩)
      · rw [List.append_assoc, ← hacc, rest_cons hdec]
      · rw [List.length_append, List.length_cons]; omega
      · rw [List.length_cons] at hi; omega
    · have hge : place = ns.length := by have := of_decide_eq_false hfl; omega
      have hcs0 : cs = [] := by
        rw [hge, List.drop_length] at hcl
        exact calls_end hcl
      subst hcs0
      rw [rest_nil, List.append_nil] at hacc
      refine s_ret (ev_var rfl) fun H5 e5 => q H5 f ?_
      rw [← hacc]
      exact e5 _ _ (e4 _ _ hfd)
end
end Kw


/-! What the top has left, gathered -/
namespace Kw
open PySem PySem.Spec PyProof.Rows L2 Evl
section
variable {K : PySem.W.Frag} {h : Heap} {mg : Str → Option Value} {f C : Addr} {od an : Option Addr} {sl : Array (Option Value)} {oc kV dc pm cd ct : Value} {nm qual : Str} {st : Stmt} {ps : List Str}
def Bnd (nm qual : Str) (st : Stmt) (ps : List Str) : Prop := ∀ (kV doc pm : Value) (an : Option Addr) (cdv ct : Value) (us : List Value), us.length = ps.length → bindArgs (PySem.W.fnOf nm qual (defArgs st) (defBody st) (defScope st) .none kV doc pm an cdv ct) ⟨us, []⟩ = pure (ps.zip us)
theorem def_mk (hb : Bnd nm qual st ps) (X : K.In h) (G : h.Ns mainGlobals mg) (a : PySem.W.nsIn K mainGlobals nm = some (some (.ref f))) (l : K.lookup f = some ⟨oc, od, .func (PySem.W.fnOf nm qual (defArgs st) (defBody st) (defScope st) .none kV dc pm an cd ct), sl⟩)
    (c : PySem.W.codeIn K cd qual = true) (k : PySem.W.keepIn K (.ref f) = true) : DefIn K mg nm qual st ps := by
  have F := fun_mk (st := st) l c k
  exact ⟨f, _, F, PySem.W.mg_of X G a, F.binds hb⟩
theorem mdef_mk (hb : Bnd nm qual st ps) (a : PySem.W.findIn K (.ref C) nm = some (some (.ref f))) (i : PySem.W.isFn K (.ref f) = true) (l : K.lookup f = some ⟨oc, od, .func (PySem.W.fnOf nm qual (defArgs st) (defBody st) (defScope st) .none kV dc pm an cd ct), sl⟩)
    (c : PySem.W.codeIn K cd qual = true) (k : PySem.W.keepIn K (.ref f) = true) : MDefIn K C nm qual st ps := by
  have F := fun_mk (st := st) l c k
  exact ⟨f, _, F, ⟨a, i, k⟩, F.binds hb⟩
/-- a class and its __init__ -/
def KDefIn (K : PySem.W.Frag) (C : Addr) (qual : Str) (st : Stmt) (ps : List Str) : Prop := ∃ f fd, Fun K "__init__" qual st f fd ∧ Mk K C f ∧ Binds K fd ps []
theorem kdef_mk (hb : Bnd "__init__" qual st ps) (mk : PySem.W.makesIn K C = true) (a : PySem.W.findIn K (.ref C) "__init__" = some (some (.ref f))) (i : PySem.W.isFn K (.ref f) = true) (l : K.lookup f = some ⟨oc, od, .func (PySem.W.fnOf "__init__" qual (defArgs st) (defBody st) (defScope st) .none kV dc pm an cd ct), sl⟩)
    (c : PySem.W.codeIn K cd qual = true) (k : PySem.W.keepIn K (.ref f) = true) (kc : PySem.W.keepIn K (.ref C) = true) : KDefIn K C qual st ps := by
  have F := fun_mk (st := st) l c k
  exact ⟨f, _, F, ⟨mk, a, i, kc⟩, F.binds hb⟩
/-- the exception's class and its __init__ -/
def XDefIn (K : PySem.W.Frag) (C : Addr) (qual : Str) (st : Stmt) (ps : List Str) : Prop := ∃ f fd, Fun K "__init__" qual st f fd ∧ PySem.W.findIn K (.ref C) "__init__" = some (some (.ref f)) ∧ PySem.W.typeIn K (.ref f) = some (.type "function") ∧ Binds K fd ps []
theorem xdef_mk (hb : Bnd "__init__" qual st ps) (a : PySem.W.findIn K (.ref C) "__init__" = some (some (.ref f))) (t : PySem.W.typeIn K (.ref f) = some (.type "function")) (l : K.lookup f = some ⟨oc, od, .func (PySem.W.fnOf "__init__" qual (defArgs st) (defBody st) (defScope st) .none kV dc pm an cd ct), sl⟩)
    (c : PySem.W.codeIn K cd qual = true) (k : PySem.W.keepIn K (.ref f) = true) : XDefIn K C qual st ps := by
  have F := fun_mk (st := st) l c k
  exact ⟨f, _, F, a, t, F.binds hb⟩
theorem cls_mk (pg : PySem.W.plainGet K C Str.empty = true) (hd : PySem.W.hasDictIn K C = true) (po : PySem.W.plainOver K C = true) (sa : PySem.W.findIn K (.ref C) "__setattr__" = some (some (.builtin "object.__setattr__"))) : Cls K C := ⟨pg, hd, po, sa⟩
theorem tup_mk {a : Addr} {xs : List V} {its : Array Value} {n : Nat} (l : K.lookup a = some ⟨.type "tuple", od, .seq its n, sl⟩) (v : Vals xs its.toList) (z : its.size ≤ sizeLine) (H : Hp) : SqT K H a xs := .inr ⟨_, its, n, l, rfl, rfl, z, v⟩
/-- an error of the class at S is what its clause names -/
theorem exm_own {S : Addr} (h1 : PySem.W.subIn K (.ref S) (.type "BaseException") = some true) (h2 : PySem.W.isClsIn K S = true) (h3 : PySem.W.typeIn K (.ref S) = some (.type "type")) (h4 : PySem.W.subIn K (.ref S) (.ref S) = some true) :
    PySem.W.exmOne K (.ref S) (.ref S) = some true := by
  have e1 : (PySem.W.subIn K (.ref S) (.type "BaseException") == some true) = true := by rw [h1]; rfl
  have e2 : ((PySem.W.clsIn K S).isSome && PySem.W.typeIn K (.ref S) == some (.type "type")) = true := by
    have h5 : (PySem.W.clsIn K S).isSome = true := h2
    rw [h5, h3]; rfl
  show (if (PySem.W.subIn K (.ref S) (.type "BaseException") == some true) = true then (if ((PySem.W.clsIn K S).isSome && PySem.W.typeIn K (.ref S) == some (.type "type")) = true then PySem.W.subIn K (.ref S) (.ref S) else none) else none) = some true
  rw [if_pos e1, if_pos e2]
  exact h4
theorem ref_mk {nm q : Str} {N : Addr} {bs : List Value} {sn : List Str} {sub : List Value} {ab : Bool} {col : Option Bool} {dd : Option Addr} {m0 m1 m2 m3 m5 : Option Value} (X : K.In h) (G : h.Ns mainGlobals mg) (aC : PySem.W.nsIn K mainGlobals "Refused" = some (some (.ref C)))
    (xL : K.lookup C = some (excClassObj nm q C N bs [.type "ValueError", .type "Exception", .type "BaseException", .type "object"] true sn sub ab col dd m0 m1 m2 m3 m5 "ValueError.__new__"))
    (sa : PySem.W.findIn K (.ref C) "__setattr__" = some (some (.builtin "object.__setattr__"))) (ga : PySem.W.findIn K (.ref C) "__getattribute__" = some (some (.builtin "BaseException.__getattribute__"))) (gg : PySem.W.findIn K (.ref C) "__getattr__" = some none) (nb : PySem.W.findIn K (.ref C) "code" = some none)
    (kC : PySem.W.keepIn K (.ref C) = true) (eC : PySem.W.subIn K (.ref C) (.type "BaseException") = some true) (tC : PySem.W.typeIn K (.ref C) = some (.type "type")) (hC : PySem.W.hasDictIn K C = true) (iC : PySem.W.isClsIn K C = true) (sC : PySem.W.subIn K (.ref C) (.ref C) = some true) : Ref K mg C :=
  { oex := ⟨⟨nm, q, N, bs, _, sn, sub, ab, col, dd, m0, m1, m2, m3, m5, xL, by decide +kernel⟩, sa, eC, tC, kC⟩, noC := nb, gR := PySem.W.mg_of X G aC, xf := ⟨ga, gg, eC, hC⟩, te := exm_own eC iC tC sC }
end
theorem b_common : Bnd "common" "common" s_common p_common := fun _ _ _ _ _ _ us hl => match us, hl with | [_, _], _ => rfl
theorem b_lowest : Bnd "lowest" "lowest" s_lowest p_lowest := fun _ _ _ _ _ _ us hl => match us, hl with | [_, _], _ => rfl
theorem b_power : Bnd "power" "power" s_power p_power := fun _ _ _ _ _ _ us hl => match us, hl with | [_, _], _ => rfl
theorem b_choices_row : Bnd "choices_row" "choices_row" s_choices_row p_choices_row := fun _ _ _ _ _ _ us hl => match us, hl with | [_, _], _ => rfl
theorem b_choices : Bnd "choices" "choices" s_choices p_choices := fun _ _ _ _ _ _ us hl => match us, hl with | [_, _], _ => rfl
theorem b_size : Bnd "size" "size" s_size p_size := fun _ _ _ _ _ _ us hl => match us, hl with | [_], _ => rfl
theorem b_kinds_there : Bnd "kinds_there" "kinds_there" s_kinds_there p_kinds_there := fun _ _ _ _ _ _ us hl => match us, hl with | [_], _ => rfl
theorem b_without_row : Bnd "without_row" "without_row" s_without_row p_without_row := fun _ _ _ _ _ _ us hl => match us, hl with | [_, _], _ => rfl
theorem b_met_sum : Bnd "met_sum" "met_sum" s_met_sum p_met_sum := fun _ _ _ _ _ _ us hl => match us, hl with | [_, _], _ => rfl
theorem b_expected : Bnd "expected" "expected" s_expected p_expected := fun _ _ _ _ _ _ us hl => match us, hl with | [_, _], _ => rfl
theorem b_both_met : Bnd "both_met" "both_met" s_both_met p_both_met := fun _ _ _ _ _ _ us hl => match us, hl with | [_, _, _, _], _ => rfl
theorem b_pairs_sum : Bnd "pairs_sum" "pairs_sum" s_pairs_sum p_pairs_sum := fun _ _ _ _ _ _ us hl => match us, hl with | [_, _], _ => rfl
theorem b_variance : Bnd "variance" "variance" s_variance p_variance := fun _ _ _ _ _ _ us hl => match us, hl with | [_, _], _ => rfl
theorem b_sums_by_kinds : Bnd "sums_by_kinds" "sums_by_kinds" s_sums_by_kinds p_sums_by_kinds := fun _ _ _ _ _ _ us hl => match us, hl with | [_], _ => rfl
theorem b_ways : Bnd "ways" "ways" s_ways p_ways := fun _ _ _ _ _ _ us hl => match us, hl with | [_, _], _ => rfl
theorem b_times : Bnd "times" "times" s_times p_times := fun _ _ _ _ _ _ us hl => match us, hl with | [_, _, _], _ => rfl
theorem b_powers : Bnd "powers" "powers" s_powers p_powers := fun _ _ _ _ _ _ us hl => match us, hl with | [_, _], _ => rfl
theorem b_alike : Bnd "alike" "alike" s_alike p_alike := fun _ _ _ _ _ _ us hl => match us, hl with | [_], _ => rfl
theorem b_over_plots : Bnd "over_plots" "over_plots" s_over_plots p_over_plots := fun _ _ _ _ _ _ us hl => match us, hl with | [_, _], _ => rfl
theorem b_met_sums : Bnd "met_sums" "met_sums" s_met_sums p_met_sums := fun _ _ _ _ _ _ us hl => match us, hl with | [_, _], _ => rfl
theorem b_greatest_sums : Bnd "greatest_sums" "greatest_sums" s_greatest_sums p_greatest_sums := fun _ _ _ _ _ _ us hl => match us, hl with | [_, _], _ => rfl
theorem b_is_as_even : Bnd "is_as_even" "is_as_even" s_is_as_even p_is_as_even := fun _ _ _ _ _ _ us hl => match us, hl with | [_, _], _ => rfl
theorem b_sooner : Bnd "sooner" "sooner" s_sooner p_sooner := fun _ _ _ _ _ _ us hl => match us, hl with | [_, _], _ => rfl
theorem b_richer : Bnd "richer" "richer" s_richer p_richer := fun _ _ _ _ _ _ us hl => match us, hl with | [_, _, _], _ => rfl
theorem b_turns : Bnd "turns" "turns" s_turns p_turns := fun _ _ _ _ _ _ us hl => match us, hl with | [_, _], _ => rfl
theorem b_shared : Bnd "shared" "shared" s_shared p_shared := fun _ _ _ _ _ _ us hl => match us, hl with | [_, _, _, _], _ => rfl
theorem b_need : Bnd "need" "need" s_need p_need := fun _ _ _ _ _ _ us hl => match us, hl with | [_, _], _ => rfl
theorem b_need_within : Bnd "need_within" "need_within" s_need_within p_need_within := fun _ _ _ _ _ _ us hl => match us, hl with | [_, _, _], _ => rfl
theorem b_need_list : Bnd "need_list" "need_list" s_need_list p_need_list := fun _ _ _ _ _ _ us hl => match us, hl with | [_, _, _], _ => rfl
theorem b_need_alike : Bnd "need_alike" "need_alike" s_need_alike p_need_alike := fun _ _ _ _ _ _ us hl => match us, hl with | [_, _], _ => rfl
theorem b_call_at : Bnd "call_at" "call_at" s_call_at p_call_at := fun _ _ _ _ _ _ us hl => match us, hl with | [_, _], _ => rfl
theorem b_by_one : Bnd "by_one" "by_one" s_by_one p_by_one := fun _ _ _ _ _ _ us hl => match us, hl with | [_, _, _], _ => rfl
theorem b_by_two : Bnd "by_two" "by_two" s_by_two p_by_two := fun _ _ _ _ _ _ us hl => match us, hl with | [_, _, _, _], _ => rfl
theorem b_by_three : Bnd "by_three" "by_three" s_by_three p_by_three := fun _ _ _ _ _ _ us hl => match us, hl with | [_, _, _], _ => rfl
theorem b_answered : Bnd "answered" "answered" s_answered p_answered := fun _ _ _ _ _ _ us hl => match us, hl with | [_, _], _ => rfl
theorem b_outcome : Bnd "outcome" "outcome" s_outcome p_outcome := fun _ _ _ _ _ _ us hl => match us, hl with | [_, _], _ => rfl
theorem b_answers : Bnd "answers" "answers" s_answers p_answers := fun _ _ _ _ _ _ us hl => match us, hl with | [_], _ => rfl
theorem b_Refused___init__ : Bnd "__init__" "Refused.__init__" s_Refused___init__ p_Refused___init__ := fun _ _ _ _ _ _ us hl => match us, hl with | [_, _], _ => rfl
theorem b_Catches___init__ : Bnd "__init__" "Catches.__init__" s_Catches___init__ p_Catches___init__ := fun _ _ _ _ _ _ us hl => match us, hl with | [_], _ => rfl
theorem b_Catches_at : Bnd "at" "Catches.at" s_Catches_at p_Catches_at := fun _ _ _ _ _ _ us hl => match us, hl with | [_, _], _ => rfl
theorem b_Catches_at_with : Bnd "at_with" "Catches.at_with" s_Catches_at_with p_Catches_at_with := fun _ _ _ _ _ _ us hl => match us, hl with | [_, _, _], _ => rfl
theorem b_Catches_put : Bnd "put" "Catches.put" s_Catches_put p_Catches_put := fun _ _ _ _ _ _ us hl => match us, hl with | [_, _, _], _ => rfl
theorem b_Catches_told : Bnd "told" "Catches.told" s_Catches_told p_Catches_told := fun _ _ _ _ _ _ us hl => match us, hl with | [_, _], _ => rfl
theorem b_Catches_size_told : Bnd "size_told" "Catches.size_told" s_Catches_size_told p_Catches_size_told := fun _ _ _ _ _ _ us hl => match us, hl with | [_, _], _ => rfl
theorem b_Catches_expected : Bnd "expected" "Catches.expected" s_Catches_expected p_Catches_expected := fun _ _ _ _ _ _ us hl => match us, hl with | [_, _, _], _ => rfl
theorem b_Catches_variance : Bnd "variance" "Catches.variance" s_Catches_variance p_Catches_variance := fun _ _ _ _ _ _ us hl => match us, hl with | [_, _, _], _ => rfl
theorem b_Catches_ways_told : Bnd "ways_told" "Catches.ways_told" s_Catches_ways_told p_Catches_ways_told := fun _ _ _ _ _ _ us hl => match us, hl with | [_, _, _], _ => rfl
theorem b_Catches_times : Bnd "times" "Catches.times" s_Catches_times p_Catches_times := fun _ _ _ _ _ _ us hl => match us, hl with | [_, _, _, _], _ => rfl
theorem b_Catches_powers : Bnd "powers" "Catches.powers" s_Catches_powers p_Catches_powers := fun _ _ _ _ _ _ us hl => match us, hl with | [_, _, _], _ => rfl
theorem b_Catches_alike : Bnd "alike" "Catches.alike" s_Catches_alike p_Catches_alike := fun _ _ _ _ _ _ us hl => match us, hl with | [_, _], _ => rfl
theorem b_Catches_evener : Bnd "evener" "Catches.evener" s_Catches_evener p_Catches_evener := fun _ _ _ _ _ _ us hl => match us, hl with | [_, _, _], _ => rfl
theorem b_Catches_richer : Bnd "richer" "Catches.richer" s_Catches_richer p_Catches_richer := fun _ _ _ _ _ _ us hl => match us, hl with | [_, _, _, _], _ => rfl
theorem b_Catches_turns_told : Bnd "turns_told" "Catches.turns_told" s_Catches_turns_told p_Catches_turns_told := fun _ _ _ _ _ _ us hl => match us, hl with | [_, _, _], _ => rfl
theorem b_Catches_shared : Bnd "shared" "Catches.shared" s_Catches_shared p_Catches_shared := fun _ _ _ _ _ _ us hl => match us, hl with | [_, _], _ => rfl
theorem b_Catches_pool : Bnd "pool" "Catches.pool" s_Catches_pool p_Catches_pool := fun _ _ _ _ _ _ us hl => match us, hl with | [_, _, _, _], _ => rfl
theorem b_Catches_plots : Bnd "plots" "Catches.plots" s_Catches_plots p_Catches_plots := fun _ _ _ _ _ _ us hl => match us, hl with | [_, _], _ => rfl
theorem b_Catches_over_plots : Bnd "over_plots" "Catches.over_plots" s_Catches_over_plots p_Catches_over_plots := fun _ _ _ _ _ _ us hl => match us, hl with | [_, _], _ => rfl
theorem b_Call___init__ : Bnd "__init__" "Call.__init__" s_Call___init__ p_Call___init__ := fun _ _ _ _ _ _ us hl => match us, hl with | [_, _, _, _, _], _ => rfl
/-- another name of the same def -/
def Alias (mg : Str → Option Value) (x y : Str) : Prop := mg x = mg y
theorem Callee.alias {P : Program} {w : World} {K : PySem.W.Frag} {mg : Str → Option Value} {base : Heap} {CX : CXT} {k : Nat} {x y : Str} {ps : List Str} {sp : Sp} (c : Callee P w K mg base CX k y ps sp) (e : Alias mg x y) : Callee P w K mg base CX k x ps sp := by
  obtain ⟨f, fd, F, m, kp, b⟩ := c
  exact ⟨f, fd, F, e.trans m, kp, b⟩
theorem alias_mk {K : PySem.W.Frag} {h : Heap} {mg : Str → Option Value} {x y : Str} {v : Value} (X : K.In h) (G : h.Ns mainGlobals mg) (a : PySem.W.nsIn K mainGlobals x = some (some v)) (b : PySem.W.nsIn K mainGlobals y = some (some v)) : Alias mg x y := (PySem.W.mg_of X G a).trans (PySem.W.mg_of X G b).symm
section
variable {P : Program} {w : World} {K : PySem.W.Frag} {mg : Str → Option Value} {C CC CF : Addr}
theorem all_ok (T : Txt K mg C CC CF) (D_common : DefIn K mg "common" "common" s_common p_common) (D_lowest : DefIn K mg "lowest" "lowest" s_lowest p_lowest) (D_power : DefIn K mg "power" "power" s_power p_power) (D_choices_row : DefIn K mg "choices_row" "choices_row" s_choices_row p_choices_row) (D_choices : DefIn K mg "choices" "choices" s_choices p_choices) (D_size : DefIn K mg "size" "size" s_size p_size) (D_kinds_there : DefIn K mg "kinds_there" "kinds_there" s_kinds_there p_kinds_there) (D_without_row : DefIn K mg "without_row" "without_row" s_without_row p_without_row) (D_met_sum : DefIn K mg "met_sum" "met_sum" s_met_sum p_met_sum) (D_expected : DefIn K mg "expected" "expected" s_expected p_expected) (D_both_met : DefIn K mg "both_met" "both_met" s_both_met p_both_met) (D_pairs_sum : DefIn K mg "pairs_sum" "pairs_sum" s_pairs_sum p_pairs_sum) (D_variance : DefIn K mg "variance" "variance" s_variance p_variance) (D_sums_by_kinds : DefIn K mg "sums_by_kinds" "sums_by_kinds" s_sums_by_kinds p_sums_by_kinds) (D_ways : DefIn K mg "ways" "ways" s_ways p_ways) (D_times : DefIn K mg "times" "times" s_times p_times) (D_powers : DefIn K mg "powers" "powers" s_powers p_powers) (D_alike : DefIn K mg "alike" "alike" s_alike p_alike) (D_over_plots : DefIn K mg "over_plots" "over_plots" s_over_plots p_over_plots) (D_met_sums : DefIn K mg "met_sums" "met_sums" s_met_sums p_met_sums) (D_greatest_sums : DefIn K mg "greatest_sums" "greatest_sums" s_greatest_sums p_greatest_sums) (D_is_as_even : DefIn K mg "is_as_even" "is_as_even" s_is_as_even p_is_as_even) (D_sooner : DefIn K mg "sooner" "sooner" s_sooner p_sooner) (D_richer : DefIn K mg "richer" "richer" s_richer p_richer) (D_turns : DefIn K mg "turns" "turns" s_turns p_turns) (D_shared : DefIn K mg "shared" "shared" s_shared p_shared) (D_need : DefIn K mg "need" "need" s_need p_need) (D_need_within : DefIn K mg "need_within" "need_within" s_need_within p_need_within) (D_need_list : DefIn K mg "need_list" "need_list" s_need_list p_need_list) (D_need_alike : DefIn K mg "need_alike" "need_alike" s_need_alike p_need_alike) (D_call_at : DefIn K mg "call_at" "call_at" s_call_at p_call_at) (D_by_one : DefIn K mg "by_one" "by_one" s_by_one p_by_one) (D_by_two : DefIn K mg "by_two" "by_two" s_by_two p_by_two) (D_by_three : DefIn K mg "by_three" "by_three" s_by_three p_by_three) (D_answered : DefIn K mg "answered" "answered" s_answered p_answered) (D_outcome : DefIn K mg "outcome" "outcome" s_outcome p_outcome) (A_expected_parts : Alias mg "expected_parts" "expected") (A_variance_parts : Alias mg "variance_parts" "variance") (A_times_parts : Alias mg "times_parts" "times") (A_powers_parts : Alias mg "powers_parts" "powers") (A_alike_parts : Alias mg "alike_parts" "alike") (A_over_plots_parts : Alias mg "over_plots_parts" "over_plots") (A_richer_comparing : Alias mg "richer_comparing" "richer") (A_shared_comparing : Alias mg "shared_comparing" "shared") (M_at : MDefIn K C "at" "Catches.at" s_Catches_at p_Catches_at) (M_at_with : MDefIn K C "at_with" "Catches.at_with" s_Catches_at_with p_Catches_at_with) (M_put : MDefIn K C "put" "Catches.put" s_Catches_put p_Catches_put) (M_told : MDefIn K C "told" "Catches.told" s_Catches_told p_Catches_told) (M_size_told : MDefIn K C "size_told" "Catches.size_told" s_Catches_size_told p_Catches_size_told) (M_expected : MDefIn K C "expected" "Catches.expected" s_Catches_expected p_Catches_expected) (M_variance : MDefIn K C "variance" "Catches.variance" s_Catches_variance p_Catches_variance) (M_ways_told : MDefIn K C "ways_told" "Catches.ways_told" s_Catches_ways_told p_Catches_ways_told) (M_times : MDefIn K C "times" "Catches.times" s_Catches_times p_Catches_times) (M_powers : MDefIn K C "powers" "Catches.powers" s_Catches_powers p_Catches_powers) (M_alike : MDefIn K C "alike" "Catches.alike" s_Catches_alike p_Catches_alike) (M_evener : MDefIn K C "evener" "Catches.evener" s_Catches_evener p_Catches_evener) (M_richer : MDefIn K C "richer" "Catches.richer" s_Catches_richer p_Catches_richer) (M_turns_told : MDefIn K C "turns_told" "Catches.turns_told" s_Catches_turns_told p_Catches_turns_told) (M_shared : MDefIn K C "shared" "Catches.shared" s_Catches_shared p_Catches_shared) (M_pool : MDefIn K C "pool" "Catches.pool" s_Catches_pool p_Catches_pool) (M_plots : MDefIn K C "plots" "Catches.plots" s_Catches_plots p_Catches_plots) (M_over_plots : MDefIn K C "over_plots" "Catches.over_plots" s_Catches_over_plots p_Catches_over_plots) (KC : KDefIn K C "Catches.__init__" s_Catches___init__ p_Catches___init__) (KCC : KDefIn K CC "Call.__init__" s_Call___init__ p_Call___init__) (XR : XDefIn K CF "Refused.__init__" s_Refused___init__ p_Refused___init__) (gC : mg "Catches" = some (.ref C)) (gCC : mg "Call" = some (.ref CC)) {f : Addr} {fd : FuncData} (F : Fun K "answers" "answers" s_answers f fd) (base : Heap) : FnOk P w K mg base CX0 11 f fd p_answers (spAnswers K) := by
  have B : Bl mg := T.toBl
  have R : Ref K mg CF := T.ref
  have common := ok_common (P := P) (w := w) (base := base) D_common
  have lowest := ok_lowest common D_lowest
  have power := ok_power (P := P) (w := w) (base := base) B D_power
  have row := ok_row (P := P) (w := w) (base := base) B D_choices_row
  have choices := ok_choices row D_choices
  have size := ok_size (P := P) (w := w) (base := base) B D_size
  have kinds := ok_kinds (P := P) (w := w) (base := base) B D_kinds_there
  have without := ok_without size choices D_without_row
  have met := ok_met B size choices without D_met_sum
  have expected := ok_expected size choices met lowest D_expected
  have both := ok_both size choices D_both_met
  have pairs := ok_pairs B both D_pairs_sum
  have variance := ok_variance size choices met pairs lowest D_variance
  have sums := ok_sums (P := P) (w := w) (base := base) B D_sums_by_kinds
  have ways := ok_ways B sums choices D_ways
  have times := ok_times B size choices lowest D_times
  have powers := ok_powers B size power lowest D_powers
  have alike := ok_alike B size lowest D_alike
  have over := ok_over B choices lowest D_over_plots
  have mets := ok_mets B size row D_met_sums
  have great := ok_great (P := P) (w := w) (base := base) B D_greatest_sums
  have even := ok_even B size great D_is_as_even
  have soon := ok_sooner (P := P) (w := w) (base := base) B D_sooner
  have rich := ok_richer mets soon D_richer
  have turn := ok_turns B size mets soon D_turns
  have share := ok_shared B size choices without lowest D_shared
  obtain ⟨fx, fdx, Fx, ix, tx, bx⟩ := XR
  have xR := ok_refI (P := P) (w := w) (mg := mg) (base := base) Fx R ix tx bx
  have need := ok_need R xR D_need
  have within := ok_within B need D_need_within
  have nlist := ok_list B need D_need_list
  have nalike := ok_alikeN B need D_need_alike
  have at_ := ok_at T within M_at
  have atw := ok_atw T size within at_ M_at_with
  have mput := ok_mput T size need nlist at_ M_put
  have mtold := ok_mtold T at_ M_told
  have msize := ok_msize T size kinds at_ M_size_told
  have mexpected := ok_mexpected T (expected.alias A_expected_parts) atw M_expected
  have mvariance := ok_mvariance T (variance.alias A_variance_parts) atw M_variance
  have mways := ok_mways T ways within atw M_ways_told
  have mtimes := ok_mtimes T (times.alias A_times_parts) within atw M_times
  have mpowers := ok_mpowers T (powers.alias A_powers_parts) within at_ M_powers
  have malike := ok_malike T size (alike.alias A_alike_parts) need at_ M_alike
  have mevener := ok_mevener T even at_ M_evener
  have mricher := ok_mricher T size (rich.alias A_richer_comparing) within at_ M_richer
  have mturns := ok_mturns T turn at_ M_turns_told
  have mshared := ok_mshared T size (share.alias A_shared_comparing) within nalike at_ M_shared
  have mpool := ok_mpool T size need nalike at_ M_pool
  have mplots := ok_mplots T nlist M_plots
  have mover := ok_mover T (over.alias A_over_plots_parts) within M_over_plots
  obtain ⟨fi, fdi, Fi, mki, bi⟩ := KC
  have minit := ok_minit (P := P) (w := w) (base := base) T Fi mki gC bi
  obtain ⟨fj, fdj, Fj, mkj, bj⟩ := KCC
  have mcall := ok_calli (P := P) (w := w) (base := base) T Fj mkj gCC bj
  have callat := ok_callat T mcall D_call_at
  have one := ok_one T mtold msize malike mover D_by_one
  have two := ok_two T mexpected mvariance mways mpowers mevener mturns D_by_two
  have three := ok_three T mtimes mricher mpool D_by_three
  have answered := ok_answered T mput mplots mshared one two three D_answered
  have outcome := ok_outcome T answered D_outcome
  exact ok_answers T minit callat outcome F
end
end Kw


/-! What is asked of the top -/
namespace Kw
open PySem PySem.Spec PyProof.Rows L2 Evl
section
variable {P : Program} {w : World} {K : PySem.W.Frag} {h : Heap} {mg : Str → Option Value} {C CC CF fa : Addr}
def bl_mk {t_LESS t_AS_RICH t_MORE t_OUT_OF_RANGE t_ONE_ANIMAL t_UNLIKE_COUNTS t_TOO_MANY t_PLACES t_MOST_KINDS t_MOST_ANIMALS t_MOST_PLOTS t_MOST_PLOT t_MOST_WAYS t_MOST_POWER : Tok} (X : K.In h) (G : h.Ns mainGlobals mg) (b_len : PySem.W.nsIn K mainGlobals "len" = some none) (b_sum : PySem.W.nsIn K mainGlobals "sum" = some none) (b_range : PySem.W.nsIn K mainGlobals "range" = some none) (b_sorted : PySem.W.nsIn K mainGlobals "sorted" = some none) (b_enumerate : PySem.W.nsIn K mainGlobals "enumerate" = some none) (b_zip : PySem.W.nsIn K mainGlobals "zip" = some none) (b_max : PySem.W.nsIn K mainGlobals "max" = some none) (b_min : PySem.W.nsIn K mainGlobals "min" = some none) (b_all : PySem.W.nsIn K mainGlobals "all" = some none) (b_int : PySem.W.nsIn K mainGlobals "int" = some none) (b_list : PySem.W.nsIn K mainGlobals "list" = some none) (g_LESS : PySem.W.nsIn K mainGlobals "LESS" = some (some (.int (0) t_LESS))) (g_AS_RICH : PySem.W.nsIn K mainGlobals "AS_RICH" = some (some (.int (1) t_AS_RICH))) (g_MORE : PySem.W.nsIn K mainGlobals "MORE" = some (some (.int (2) t_MORE))) (g_OUT_OF_RANGE : PySem.W.nsIn K mainGlobals "OUT_OF_RANGE" = some (some (.int (-1) t_OUT_OF_RANGE))) (g_ONE_ANIMAL : PySem.W.nsIn K mainGlobals "ONE_ANIMAL" = some (some (.int (-2) t_ONE_ANIMAL))) (g_UNLIKE_COUNTS : PySem.W.nsIn K mainGlobals "UNLIKE_COUNTS" = some (some (.int (-3) t_UNLIKE_COUNTS))) (g_TOO_MANY : PySem.W.nsIn K mainGlobals "TOO_MANY" = some (some (.int (-4) t_TOO_MANY))) (g_PLACES : PySem.W.nsIn K mainGlobals "PLACES" = some (some (.int (4) t_PLACES))) (g_MOST_KINDS : PySem.W.nsIn K mainGlobals "MOST_KINDS" = some (some (.int (8) t_MOST_KINDS))) (g_MOST_ANIMALS : PySem.W.nsIn K mainGlobals "MOST_ANIMALS" = some (some (.int (40) t_MOST_ANIMALS))) (g_MOST_PLOTS : PySem.W.nsIn K mainGlobals "MOST_PLOTS" = some (some (.int (30) t_MOST_PLOTS))) (g_MOST_PLOT : PySem.W.nsIn K mainGlobals "MOST_PLOT" = some (some (.int (255) t_MOST_PLOT))) (g_MOST_WAYS : PySem.W.nsIn K mainGlobals "MOST_WAYS" = some (some (.int (60) t_MOST_WAYS))) (g_MOST_POWER : PySem.W.nsIn K mainGlobals "MOST_POWER" = some (some (.int (8) t_MOST_POWER))) : Bl mg where
  b_len := PySem.W.mg_none_of X G b_len
  b_sum := PySem.W.mg_none_of X G b_sum
  b_range := PySem.W.mg_none_of X G b_range
  b_sorted := PySem.W.mg_none_of X G b_sorted
  b_enumerate := PySem.W.mg_none_of X G b_enumerate
  b_zip := PySem.W.mg_none_of X G b_zip
  b_max := PySem.W.mg_none_of X G b_max
  b_min := PySem.W.mg_none_of X G b_min
  b_all := PySem.W.mg_none_of X G b_all
  b_int := PySem.W.mg_none_of X G b_int
  b_list := PySem.W.mg_none_of X G b_list
  t_LESS := t_LESS
  g_LESS := PySem.W.mg_of X G g_LESS
  t_AS_RICH := t_AS_RICH
  g_AS_RICH := PySem.W.mg_of X G g_AS_RICH
  t_MORE := t_MORE
  g_MORE := PySem.W.mg_of X G g_MORE
  t_OUT_OF_RANGE := t_OUT_OF_RANGE
  g_OUT_OF_RANGE := PySem.W.mg_of X G g_OUT_OF_RANGE
  t_ONE_ANIMAL := t_ONE_ANIMAL
  g_ONE_ANIMAL := PySem.W.mg_of X G g_ONE_ANIMAL
  t_UNLIKE_COUNTS := t_UNLIKE_COUNTS
  g_UNLIKE_COUNTS := PySem.W.mg_of X G g_UNLIKE_COUNTS
  t_TOO_MANY := t_TOO_MANY
  g_TOO_MANY := PySem.W.mg_of X G g_TOO_MANY
  t_PLACES := t_PLACES
  g_PLACES := PySem.W.mg_of X G g_PLACES
  t_MOST_KINDS := t_MOST_KINDS
  g_MOST_KINDS := PySem.W.mg_of X G g_MOST_KINDS
  t_MOST_ANIMALS := t_MOST_ANIMALS
  g_MOST_ANIMALS := PySem.W.mg_of X G g_MOST_ANIMALS
  t_MOST_PLOTS := t_MOST_PLOTS
  g_MOST_PLOTS := PySem.W.mg_of X G g_MOST_PLOTS
  t_MOST_PLOT := t_MOST_PLOT
  g_MOST_PLOT := PySem.W.mg_of X G g_MOST_PLOT
  t_MOST_WAYS := t_MOST_WAYS
  g_MOST_WAYS := PySem.W.mg_of X G g_MOST_WAYS
  t_MOST_POWER := t_MOST_POWER
  g_MOST_POWER := PySem.W.mg_of X G g_MOST_POWER
def txt_mk {aW aP aL : Addr} (X : K.In h) (G : h.Ns mainGlobals mg) (bl : Bl mg) (cl : Cls K C) (nS : PySem.W.findIn K (.ref C) "samples" = some none) (nT : PySem.W.findIn K (.ref C) "sets" = some none) (clc : Cls K CC) (nW : PySem.W.findIn K (.ref CC) "word" = some none) (nN : PySem.W.findIn K (.ref CC) "numbers" = some none) (nO : PySem.W.findIn K (.ref CC) "some" = some none) (nE : PySem.W.findIn K (.ref CC) "end" = some none) (ref : Ref K mg CF)
    (gW : PySem.W.nsIn K mainGlobals "WORDS" = some (some (.ref aW))) (sW : ∀ H : Hp, SqT K H aW wordsV) (gP : PySem.W.nsIn K mainGlobals "PLAIN" = some (some (.ref aP))) (sP : ∀ H : Hp, SqT K H aP plainV) (gL : PySem.W.nsIn K mainGlobals "WITH_LIST" = some (some (.ref aL))) (sL : ∀ H : Hp, SqT K H aL withV) : Txt K mg C CC CF :=
  { toBl := bl, cl := cl, nS := nS, nT := nT, clc := clc, nW := nW, nN := nN, nO := nO, nE := nE, ref := ref, a_WORDS := aW, g_WORDS := PySem.W.mg_of X G gW, s_WORDS := sW, a_PLAIN := aP, g_PLAIN := PySem.W.mg_of X G gP, s_PLAIN := sP, a_WITH_LIST := aL, g_WITH_LIST := PySem.W.mg_of X G gL, s_WITH_LIST := sL }
theorem fin {od an : Option Addr} {sl : Array (Option Value)} {oc kV dc pm cd ct : Value} {fb : Addr} (X : K.In h) (G : h.Ns mainGlobals mg) (hfa : mg "answers" = some (.ref fa))
    (aC : PySem.W.nsIn K mainGlobals "Catches" = some (some (.ref C))) (aCC : PySem.W.nsIn K mainGlobals "Call" = some (some (.ref CC))) (aCF : PySem.W.nsIn K mainGlobals "Refused" = some (some (.ref CF))) (T : Txt K mg C CC CF)
    (D_common : DefIn K mg "common" "common" s_common p_common) (D_lowest : DefIn K mg "lowest" "lowest" s_lowest p_lowest) (D_power : DefIn K mg "power" "power" s_power p_power) (D_choices_row : DefIn K mg "choices_row" "choices_row" s_choices_row p_choices_row) (D_choices : DefIn K mg "choices" "choices" s_choices p_choices) (D_size : DefIn K mg "size" "size" s_size p_size) (D_kinds_there : DefIn K mg "kinds_there" "kinds_there" s_kinds_there p_kinds_there) (D_without_row : DefIn K mg "without_row" "without_row" s_without_row p_without_row) (D_met_sum : DefIn K mg "met_sum" "met_sum" s_met_sum p_met_sum) (D_expected : DefIn K mg "expected" "expected" s_expected p_expected) (D_both_met : DefIn K mg "both_met" "both_met" s_both_met p_both_met) (D_pairs_sum : DefIn K mg "pairs_sum" "pairs_sum" s_pairs_sum p_pairs_sum) (D_variance : DefIn K mg "variance" "variance" s_variance p_variance) (D_sums_by_kinds : DefIn K mg "sums_by_kinds" "sums_by_kinds" s_sums_by_kinds p_sums_by_kinds) (D_ways : DefIn K mg "ways" "ways" s_ways p_ways) (D_times : DefIn K mg "times" "times" s_times p_times) (D_powers : DefIn K mg "powers" "powers" s_powers p_powers) (D_alike : DefIn K mg "alike" "alike" s_alike p_alike) (D_over_plots : DefIn K mg "over_plots" "over_plots" s_over_plots p_over_plots) (D_met_sums : DefIn K mg "met_sums" "met_sums" s_met_sums p_met_sums) (D_greatest_sums : DefIn K mg "greatest_sums" "greatest_sums" s_greatest_sums p_greatest_sums) (D_is_as_even : DefIn K mg "is_as_even" "is_as_even" s_is_as_even p_is_as_even) (D_sooner : DefIn K mg "sooner" "sooner" s_sooner p_sooner) (D_richer : DefIn K mg "richer" "richer" s_richer p_richer) (D_turns : DefIn K mg "turns" "turns" s_turns p_turns) (D_shared : DefIn K mg "shared" "shared" s_shared p_shared) (D_need : DefIn K mg "need" "need" s_need p_need) (D_need_within : DefIn K mg "need_within" "need_within" s_need_within p_need_within) (D_need_list : DefIn K mg "need_list" "need_list" s_need_list p_need_list) (D_need_alike : DefIn K mg "need_alike" "need_alike" s_need_alike p_need_alike) (D_call_at : DefIn K mg "call_at" "call_at" s_call_at p_call_at) (D_by_one : DefIn K mg "by_one" "by_one" s_by_one p_by_one) (D_by_two : DefIn K mg "by_two" "by_two" s_by_two p_by_two) (D_by_three : DefIn K mg "by_three" "by_three" s_by_three p_by_three) (D_answered : DefIn K mg "answered" "answered" s_answered p_answered) (D_outcome : DefIn K mg "outcome" "outcome" s_outcome p_outcome) (A_expected_parts : Alias mg "expected_parts" "expected") (A_variance_parts : Alias mg "variance_parts" "variance") (A_times_parts : Alias mg "times_parts" "times") (A_powers_parts : Alias mg "powers_parts" "powers") (A_alike_parts : Alias mg "alike_parts" "alike") (A_over_plots_parts : Alias mg "over_plots_parts" "over_plots") (A_richer_comparing : Alias mg "richer_comparing" "richer") (A_shared_comparing : Alias mg "shared_comparing" "shared") (M_at : MDefIn K C "at" "Catches.at" s_Catches_at p_Catches_at) (M_at_with : MDefIn K C "at_with" "Catches.at_with" s_Catches_at_with p_Catches_at_with) (M_put : MDefIn K C "put" "Catches.put" s_Catches_put p_Catches_put) (M_told : MDefIn K C "told" "Catches.told" s_Catches_told p_Catches_told) (M_size_told : MDefIn K C "size_told" "Catches.size_told" s_Catches_size_told p_Catches_size_told) (M_expected : MDefIn K C "expected" "Catches.expected" s_Catches_expected p_Catches_expected) (M_variance : MDefIn K C "variance" "Catches.variance" s_Catches_variance p_Catches_variance) (M_ways_told : MDefIn K C "ways_told" "Catches.ways_told" s_Catches_ways_told p_Catches_ways_told) (M_times : MDefIn K C "times" "Catches.times" s_Catches_times p_Catches_times) (M_powers : MDefIn K C "powers" "Catches.powers" s_Catches_powers p_Catches_powers) (M_alike : MDefIn K C "alike" "Catches.alike" s_Catches_alike p_Catches_alike) (M_evener : MDefIn K C "evener" "Catches.evener" s_Catches_evener p_Catches_evener) (M_richer : MDefIn K C "richer" "Catches.richer" s_Catches_richer p_Catches_richer) (M_turns_told : MDefIn K C "turns_told" "Catches.turns_told" s_Catches_turns_told p_Catches_turns_told) (M_shared : MDefIn K C "shared" "Catches.shared" s_Catches_shared p_Catches_shared) (M_pool : MDefIn K C "pool" "Catches.pool" s_Catches_pool p_Catches_pool) (M_plots : MDefIn K C "plots" "Catches.plots" s_Catches_plots p_Catches_plots) (M_over_plots : MDefIn K C "over_plots" "Catches.over_plots" s_Catches_over_plots p_Catches_over_plots) (KC : KDefIn K C "Catches.__init__" s_Catches___init__ p_Catches___init__) (KCC : KDefIn K CC "Call.__init__" s_Call___init__ p_Call___init__) (XR : XDefIn K CF "Refused.__init__" s_Refused___init__ p_Refused___init__)
    (a : PySem.W.nsIn K mainGlobals "answers" = some (some (.ref fb))) (l : K.lookup fb = some ⟨oc, od, .func (PySem.W.fnOf "answers" "answers" (defArgs s_answers) (defBody s_answers) (defScope s_answers) .none kV dc pm an cd ct), sl⟩) (c : PySem.W.codeIn K cd "answers" = true) (k : PySem.W.keepIn K (.ref fb) = true) :
    ∃ fd : FuncData, (∀ (s : Shared) (us : List Value), us.length = (["calls"] : List Str).length → BindsTo s fd ⟨us, []⟩ ((["calls"] : List Str).zip us)) ∧ ∀ base : Heap, K.In base → base.Ns mainGlobals mg → FnOk P w K mg base CX0 11 fa fd ["calls"] (spAnswers K) := by
  have e := hfa.symm.trans (PySem.W.mg_of X G a)
  have ef : fa = fb := Value.ref.inj (Option.some.inj e)
  subst ef
  have F := fun_mk (st := s_answers) l c k
  refine ⟨_, fun s us hu => .of_eq (b_answers kV dc pm an cd ct us hu), fun base _ _ => all_ok (P := P) (w := w) T D_common D_lowest D_power D_choices_row D_choices D_size D_kinds_there D_without_row D_met_sum D_expected D_both_met D_pairs_sum D_variance D_sums_by_kinds D_ways D_times D_powers D_alike D_over_plots D_met_sums D_greatest_sums D_is_as_even D_sooner D_richer D_turns D_shared D_need D_need_within D_need_list D_need_alike D_call_at D_by_one D_by_two D_by_three D_answered D_outcome A_expected_parts A_variance_parts A_times_parts A_powers_parts A_alike_parts A_over_plots_parts A_richer_comparing A_shared_comparing M_at M_at_with M_put M_told M_size_told M_expected M_variance M_ways_told M_times M_powers M_alike M_evener M_richer M_turns_told M_shared M_pool M_plots M_over_plots KC KCC XR (PySem.W.mg_of X G aC) (PySem.W.mg_of X G aCC) F base⟩
end
end Kw


open PySem PySem.W PyProof.Rows
set_option maxRecDepth 100000 in
set_option maxHeartbeats 40000000 in
theorem PySem.Challenge.cw_kindcatch_s01_answers_holds : PySem.Challenge.rw_kindcatch_s01_answers.Holds := by
  w_on; k_headS; (case hw => exact ⟨[.list [.int 1, .int 0]], by decide +kernel, by decide +kernel⟩)
  k_fillS
  refine L2.walk_specK (r := PySem.Challenge.rw_kindcatch_s01_answers) (k := 11) (CX := L2.CX0) (ps := ["calls"]) (sp := Kw.spAnswers) (by decide +kernel) rfl rfl ⟨rfl, by decide, by decide⟩ (fun w h Y => PySem.W.kIn_of Y) ?F ?S (fun _ _ _ _ z => z)
  case F =>
    intro w mg fa h Y KX G hmg
    refine' Kw.fin KX G hmg ?aC ?aCC ?aCF ?T ?D_common ?D_lowest ?D_power ?D_choices_row ?D_choices ?D_size ?D_kinds_there ?D_without_row ?D_met_sum ?D_expected ?D_both_met ?D_pairs_sum ?D_variance ?D_sums_by_kinds ?D_ways ?D_times ?D_powers ?D_alike ?D_over_plots ?D_met_sums ?D_greatest_sums ?D_is_as_even ?D_sooner ?D_richer ?D_turns ?D_shared ?D_need ?D_need_within ?D_need_list ?D_need_alike ?D_call_at ?D_by_one ?D_by_two ?D_by_three ?D_answered ?D_outcome ?A_expected_parts ?A_variance_parts ?A_times_parts ?A_powers_parts ?A_alike_parts ?A_over_plots_parts ?A_richer_comparing ?A_shared_comparing ?M_at ?M_at_with ?M_put ?M_told ?M_size_told ?M_expected ?M_variance ?M_ways_told ?M_times ?M_powers ?M_alike ?M_evener ?M_richer ?M_turns_told ?M_shared ?M_pool ?M_plots ?M_over_plots ?KC ?KCC ?XR ?a ?l ?c ?k
    (case aC => k_is); (case aCC => k_is); (case aCF => k_is)
    (case a => k_is); (case l => k_is); (case c => k_is); (case k => k_is)
    (case D_common => (refine' Kw.def_mk Kw.b_common KX G ?a ?l ?c ?k; (case a => k_is); (case l => k_is); (case c => k_is); (case k => k_is)))
    (case D_lowest => (refine' Kw.def_mk Kw.b_lowest KX G ?a ?l ?c ?k; (case a => k_is); (case l => k_is); (case c => k_is); (case k => k_is)))
    (case D_power => (refine' Kw.def_mk Kw.b_power KX G ?a ?l ?c ?k; (case a => k_is); (case l => k_is); (case c => k_is); (case k => k_is)))
    (case D_choices_row => (refine' Kw.def_mk Kw.b_choices_row KX G ?a ?l ?c ?k; (case a => k_is); (case l => k_is); (case c => k_is); (case k => k_is)))
    (case D_choices => (refine' Kw.def_mk Kw.b_choices KX G ?a ?l ?c ?k; (case a => k_is); (case l => k_is); (case c => k_is); (case k => k_is)))
    (case D_size => (refine' Kw.def_mk Kw.b_size KX G ?a ?l ?c ?k; (case a => k_is); (case l => k_is); (case c => k_is); (case k => k_is)))
    (case D_kinds_there => (refine' Kw.def_mk Kw.b_kinds_there KX G ?a ?l ?c ?k; (case a => k_is); (case l => k_is); (case c => k_is); (case k => k_is)))
    (case D_without_row => (refine' Kw.def_mk Kw.b_without_row KX G ?a ?l ?c ?k; (case a => k_is); (case l => k_is); (case c => k_is); (case k => k_is)))
    (case D_met_sum => (refine' Kw.def_mk Kw.b_met_sum KX G ?a ?l ?c ?k; (case a => k_is); (case l => k_is); (case c => k_is); (case k => k_is)))
    (case D_expected => (refine' Kw.def_mk Kw.b_expected KX G ?a ?l ?c ?k; (case a => k_is); (case l => k_is); (case c => k_is); (case k => k_is)))
    (case D_both_met => (refine' Kw.def_mk Kw.b_both_met KX G ?a ?l ?c ?k; (case a => k_is); (case l => k_is); (case c => k_is); (case k => k_is)))
    (case D_pairs_sum => (refine' Kw.def_mk Kw.b_pairs_sum KX G ?a ?l ?c ?k; (case a => k_is); (case l => k_is); (case c => k_is); (case k => k_is)))
    (case D_variance => (refine' Kw.def_mk Kw.b_variance KX G ?a ?l ?c ?k; (case a => k_is); (case l => k_is); (case c => k_is); (case k => k_is)))
    (case D_sums_by_kinds => (refine' Kw.def_mk Kw.b_sums_by_kinds KX G ?a ?l ?c ?k; (case a => k_is); (case l => k_is); (case c => k_is); (case k => k_is)))
    (case D_ways => (refine' Kw.def_mk Kw.b_ways KX G ?a ?l ?c ?k; (case a => k_is); (case l => k_is); (case c => k_is); (case k => k_is)))
    (case D_times => (refine' Kw.def_mk Kw.b_times KX G ?a ?l ?c ?k; (case a => k_is); (case l => k_is); (case c => k_is); (case k => k_is)))
    (case D_powers => (refine' Kw.def_mk Kw.b_powers KX G ?a ?l ?c ?k; (case a => k_is); (case l => k_is); (case c => k_is); (case k => k_is)))
    (case D_alike => (refine' Kw.def_mk Kw.b_alike KX G ?a ?l ?c ?k; (case a => k_is); (case l => k_is); (case c => k_is); (case k => k_is)))
    (case D_over_plots => (refine' Kw.def_mk Kw.b_over_plots KX G ?a ?l ?c ?k; (case a => k_is); (case l => k_is); (case c => k_is); (case k => k_is)))
    (case D_met_sums => (refine' Kw.def_mk Kw.b_met_sums KX G ?a ?l ?c ?k; (case a => k_is); (case l => k_is); (case c => k_is); (case k => k_is)))
    (case D_greatest_sums => (refine' Kw.def_mk Kw.b_greatest_sums KX G ?a ?l ?c ?k; (case a => k_is); (case l => k_is); (case c => k_is); (case k => k_is)))
    (case D_is_as_even => (refine' Kw.def_mk Kw.b_is_as_even KX G ?a ?l ?c ?k; (case a => k_is); (case l => k_is); (case c => k_is); (case k => k_is)))
    (case D_sooner => (refine' Kw.def_mk Kw.b_sooner KX G ?a ?l ?c ?k; (case a => k_is); (case l => k_is); (case c => k_is); (case k => k_is)))
    (case D_richer => (refine' Kw.def_mk Kw.b_richer KX G ?a ?l ?c ?k; (case a => k_is); (case l => k_is); (case c => k_is); (case k => k_is)))
    (case D_turns => (refine' Kw.def_mk Kw.b_turns KX G ?a ?l ?c ?k; (case a => k_is); (case l => k_is); (case c => k_is); (case k => k_is)))
    (case D_shared => (refine' Kw.def_mk Kw.b_shared KX G ?a ?l ?c ?k; (case a => k_is); (case l => k_is); (case c => k_is); (case k => k_is)))
    (case D_need => (refine' Kw.def_mk Kw.b_need KX G ?a ?l ?c ?k; (case a => k_is); (case l => k_is); (case c => k_is); (case k => k_is)))
    (case D_need_within => (refine' Kw.def_mk Kw.b_need_within KX G ?a ?l ?c ?k; (case a => k_is); (case l => k_is); (case c => k_is); (case k => k_is)))
    (case D_need_list => (refine' Kw.def_mk Kw.b_need_list KX G ?a ?l ?c ?k; (case a => k_is); (case l => k_is); (case c => k_is); (case k => k_is)))
    (case D_need_alike => (refine' Kw.def_mk Kw.b_need_alike KX G ?a ?l ?c ?k; (case a => k_is); (case l => k_is); (case c => k_is); (case k => k_is)))
    (case D_call_at => (refine' Kw.def_mk Kw.b_call_at KX G ?a ?l ?c ?k; (case a => k_is); (case l => k_is); (case c => k_is); (case k => k_is)))
    (case D_by_one => (refine' Kw.def_mk Kw.b_by_one KX G ?a ?l ?c ?k; (case a => k_is); (case l => k_is); (case c => k_is); (case k => k_is)))
    (case D_by_two => (refine' Kw.def_mk Kw.b_by_two KX G ?a ?l ?c ?k; (case a => k_is); (case l => k_is); (case c => k_is); (case k => k_is)))
    (case D_by_three => (refine' Kw.def_mk Kw.b_by_three KX G ?a ?l ?c ?k; (case a => k_is); (case l => k_is); (case c => k_is); (case k => k_is)))
    (case D_answered => (refine' Kw.def_mk Kw.b_answered KX G ?a ?l ?c ?k; (case a => k_is); (case l => k_is); (case c => k_is); (case k => k_is)))
    (case D_outcome => (refine' Kw.def_mk Kw.b_outcome KX G ?a ?l ?c ?k; (case a => k_is); (case l => k_is); (case c => k_is); (case k => k_is)))
    (case A_expected_parts => (refine' Kw.alias_mk KX G ?a ?b; (case a => k_is); (case b => k_is)))
    (case A_variance_parts => (refine' Kw.alias_mk KX G ?a ?b; (case a => k_is); (case b => k_is)))
    (case A_times_parts => (refine' Kw.alias_mk KX G ?a ?b; (case a => k_is); (case b => k_is)))
    (case A_powers_parts => (refine' Kw.alias_mk KX G ?a ?b; (case a => k_is); (case b => k_is)))
    (case A_alike_parts => (refine' Kw.alias_mk KX G ?a ?b; (case a => k_is); (case b => k_is)))
    (case A_over_plots_parts => (refine' Kw.alias_mk KX G ?a ?b; (case a => k_is); (case b => k_is)))
    (case A_richer_comparing => (refine' Kw.alias_mk KX G ?a ?b; (case a => k_is); (case b => k_is)))
    (case A_shared_comparing => (refine' Kw.alias_mk KX G ?a ?b; (case a => k_is); (case b => k_is)))
    (case M_at => (refine' Kw.mdef_mk Kw.b_Catches_at ?a ?i ?l ?c ?k; (case a => k_is); (case i => k_is); (case l => k_is); (case c => k_is); (case k => k_is)))
    (case M_at_with => (refine' Kw.mdef_mk Kw.b_Catches_at_with ?a ?i ?l ?c ?k; (case a => k_is); (case i => k_is); (case l => k_is); (case c => k_is); (case k => k_is)))
    (case M_put => (refine' Kw.mdef_mk Kw.b_Catches_put ?a ?i ?l ?c ?k; (case a => k_is); (case i => k_is); (case l => k_is); (case c => k_is); (case k => k_is)))
    (case M_told => (refine' Kw.mdef_mk Kw.b_Catches_told ?a ?i ?l ?c ?k; (case a => k_is); (case i => k_is); (case l => k_is); (case c => k_is); (case k => k_is)))
    (case M_size_told => (refine' Kw.mdef_mk Kw.b_Catches_size_told ?a ?i ?l ?c ?k; (case a => k_is); (case i => k_is); (case l => k_is); (case c => k_is); (case k => k_is)))
    (case M_expected => (refine' Kw.mdef_mk Kw.b_Catches_expected ?a ?i ?l ?c ?k; (case a => k_is); (case i => k_is); (case l => k_is); (case c => k_is); (case k => k_is)))
    (case M_variance => (refine' Kw.mdef_mk Kw.b_Catches_variance ?a ?i ?l ?c ?k; (case a => k_is); (case i => k_is); (case l => k_is); (case c => k_is); (case k => k_is)))
    (case M_ways_told => (refine' Kw.mdef_mk Kw.b_Catches_ways_told ?a ?i ?l ?c ?k; (case a => k_is); (case i => k_is); (case l => k_is); (case c => k_is); (case k => k_is)))
    (case M_times => (refine' Kw.mdef_mk Kw.b_Catches_times ?a ?i ?l ?c ?k; (case a => k_is); (case i => k_is); (case l => k_is); (case c => k_is); (case k => k_is)))
    (case M_powers => (refine' Kw.mdef_mk Kw.b_Catches_powers ?a ?i ?l ?c ?k; (case a => k_is); (case i => k_is); (case l => k_is); (case c => k_is); (case k => k_is)))
    (case M_alike => (refine' Kw.mdef_mk Kw.b_Catches_alike ?a ?i ?l ?c ?k; (case a => k_is); (case i => k_is); (case l => k_is); (case c => k_is); (case k => k_is)))
    (case M_evener => (refine' Kw.mdef_mk Kw.b_Catches_evener ?a ?i ?l ?c ?k; (case a => k_is); (case i => k_is); (case l => k_is); (case c => k_is); (case k => k_is)))
    (case M_richer => (refine' Kw.mdef_mk Kw.b_Catches_richer ?a ?i ?l ?c ?k; (case a => k_is); (case i => k_is); (case l => k_is); (case c => k_is); (case k => k_is)))
    (case M_turns_told => (refine' Kw.mdef_mk Kw.b_Catches_turns_told ?a ?i ?l ?c ?k; (case a => k_is); (case i => k_is); (case l => k_is); (case c => k_is); (case k => k_is)))
    (case M_shared => (refine' Kw.mdef_mk Kw.b_Catches_shared ?a ?i ?l ?c ?k; (case a => k_is); (case i => k_is); (case l => k_is); (case c => k_is); (case k => k_is)))
    (case M_pool => (refine' Kw.mdef_mk Kw.b_Catches_pool ?a ?i ?l ?c ?k; (case a => k_is); (case i => k_is); (case l => k_is); (case c => k_is); (case k => k_is)))
    (case M_plots => (refine' Kw.mdef_mk Kw.b_Catches_plots ?a ?i ?l ?c ?k; (case a => k_is); (case i => k_is); (case l => k_is); (case c => k_is); (case k => k_is)))
    (case M_over_plots => (refine' Kw.mdef_mk Kw.b_Catches_over_plots ?a ?i ?l ?c ?k; (case a => k_is); (case i => k_is); (case l => k_is); (case c => k_is); (case k => k_is)))
    (case KC => (refine' Kw.kdef_mk Kw.b_Catches___init__ ?mk ?a ?i ?l ?c ?k ?kc; (case mk => k_is); (case a => k_is); (case i => k_is); (case l => k_is); (case c => k_is); (case k => k_is); (case kc => k_is)))
    (case KCC => (refine' Kw.kdef_mk Kw.b_Call___init__ ?mk ?a ?i ?l ?c ?k ?kc; (case mk => k_is); (case a => k_is); (case i => k_is); (case l => k_is); (case c => k_is); (case k => k_is); (case kc => k_is)))
    (case XR => (refine' Kw.xdef_mk Kw.b_Refused___init__ ?a ?t ?l ?c ?k; (case a => k_is); (case t => k_is); (case l => k_is); (case c => k_is); (case k => k_is)))
    case T =>
      refine' Kw.txt_mk KX G ?bl ?cl ?nS ?nT ?clc ?nW ?nN ?nO ?nE ?ref ?gW ?sW ?gP ?sP ?gL ?sL
      (case bl => (refine' Kw.bl_mk KX G ?b_len ?b_sum ?b_range ?b_sorted ?b_enumerate ?b_zip ?b_max ?b_min ?b_all ?b_int ?b_list ?g_LESS ?g_AS_RICH ?g_MORE ?g_OUT_OF_RANGE ?g_ONE_ANIMAL ?g_UNLIKE_COUNTS ?g_TOO_MANY ?g_PLACES ?g_MOST_KINDS ?g_MOST_ANIMALS ?g_MOST_PLOTS ?g_MOST_PLOT ?g_MOST_WAYS ?g_MOST_POWER; (case b_len => k_is); (case b_sum => k_is); (case b_range => k_is); (case b_sorted => k_is); (case b_enumerate => k_is); (case b_zip => k_is); (case b_max => k_is); (case b_min => k_is); (case b_all => k_is); (case b_int => k_is); (case b_list => k_is); (case g_LESS => k_is); (case g_AS_RICH => k_is); (case g_MORE => k_is); (case g_OUT_OF_RANGE => k_is); (case g_ONE_ANIMAL => k_is); (case g_UNLIKE_COUNTS => k_is); (case g_TOO_MANY => k_is); (case g_PLACES => k_is); (case g_MOST_KINDS => k_is); (case g_MOST_ANIMALS => k_is); (case g_MOST_PLOTS => k_is); (case g_MOST_PLOT => k_is); (case g_MOST_WAYS => k_is); (case g_MOST_POWER => k_is)))
      (case cl => (refine' Kw.cls_mk ?pg ?hd ?po ?sa; (case pg => k_is); (case hd => k_is); (case po => k_is); (case sa => k_is)))
      (case clc => (refine' Kw.cls_mk ?pg ?hd ?po ?sa; (case pg => k_is); (case hd => k_is); (case po => k_is); (case sa => k_is)))
      (case nS => k_is)
      (case nT => k_is)
      (case nW => k_is)
      (case nN => k_is)
      (case nO => k_is)
      (case nE => k_is)
      (case ref => (refine' Kw.ref_mk KX G ?aC ?xL ?sa ?ga ?gg ?nb ?kC ?eC ?tC ?hC ?iC ?sC; (case aC => k_is); (case xL => k_is); (case sa => k_is); (case ga => k_is); (case gg => k_is); (case nb => k_is); (case kC => k_is); (case eC => k_is); (case tC => k_is); (case hC => k_is); (case iC => k_is); (case sC => first | rfl | k_is)))
      (case gW => k_is)
      (case sW => (refine' Kw.tup_mk ?l ?v ?z; (case l => k_is); (case v => exact (.cons ⟨_, rfl⟩ (.cons ⟨_, rfl⟩ (.cons ⟨_, rfl⟩ (.cons ⟨_, rfl⟩ (.cons ⟨_, rfl⟩ (.cons ⟨_, rfl⟩ (.cons ⟨_, rfl⟩ (.cons ⟨_, rfl⟩ (.cons ⟨_, rfl⟩ (.cons ⟨_, rfl⟩ (.cons ⟨_, rfl⟩ (.cons ⟨_, rfl⟩ (.cons ⟨_, rfl⟩ (.cons ⟨_, rfl⟩ (.cons ⟨_, rfl⟩ (.cons ⟨_, rfl⟩ .nil))))))))))))))))); (case z => (show 16 ≤ PySem.sizeLine; decide))))
      (case gP => k_is)
      (case sP => (refine' Kw.tup_mk ?l ?v ?z; (case l => k_is); (case v => exact (.cons ⟨_, rfl⟩ (.cons ⟨_, rfl⟩ (.cons ⟨_, rfl⟩ (.cons ⟨_, rfl⟩ (.cons ⟨_, rfl⟩ (.cons ⟨_, rfl⟩ (.cons ⟨_, rfl⟩ (.cons ⟨_, rfl⟩ (.cons ⟨_, rfl⟩ (.cons ⟨_, rfl⟩ (.cons ⟨_, rfl⟩ (.cons ⟨_, rfl⟩ (.cons ⟨_, rfl⟩ (.cons ⟨_, rfl⟩ (.cons ⟨_, rfl⟩ (.cons ⟨_, rfl⟩ .nil))))))))))))))))); (case z => (show 16 ≤ PySem.sizeLine; decide))))
      (case gL => k_is)
      (case sL => (refine' Kw.tup_mk ?l ?v ?z; (case l => k_is); (case v => exact (.cons ⟨_, rfl⟩ (.cons ⟨_, rfl⟩ .nil))); (case z => (show 2 ≤ PySem.sizeLine; decide))))
  case S =>
    intro K H xs a hO hwi hask hx
    cases hx with
    | cons h1 h2 =>
      cases h2
      cases h1 with
      | lst hs ha =>
        have e := L2.ints_dw a.1 _ ha
        subst e
        have q : ((Codec.inLen 0 16000 a.1 && a.1.all (Codec.inInt (-9223372036854775808) 9223372036854775807)) && true) = true := hwi
        rw [Bool.and_eq_true, Bool.and_eq_true] at q
        exact ⟨_, a.1, rfl, hs, (Codec.inNat_iff.mp q.1.1).2, hask, fun H' p hp => .lst (L2.SqL.of hp) (L2.dw_ints _)⟩
