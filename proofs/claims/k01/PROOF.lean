import PyProof.Rows.All
import HandS.ForMost
import HandS.ForExc
import HandS.Wide
import HandS.EndBits
import HandS.IsInst
import HandS.Evl
import HandS.Style
import HandS.SortInts
import PyProof.LongRange
import KE.GoesMore
import HandS.SetFor
import HandS.Strs
import KE.KEqSeq
import HandS.Conv
import HandS.DictComp
import PyProof.Rows.IntBool
import KE.KRevSl
import PySem.Challenge.RW_longyears_k01_lands
set_option Elab.async false
set_option linter.all false
set_option maxHeartbeats 4000000
/-! lands, plainly -/
namespace Ly
/-! ### lands -/
def LandOk (d t b s : Int) : Prop := (1 ≤ d ∧ d ≤ 400) ∧ (0 ≤ t ∧ t < b) ∧ (1 ≤ b ∧ b ≤ 60) ∧ -1000000 ≤ s ∧ s ≤ 1000000
def Far (y : Int) : Prop := -1000000000000000000000000000000 ≤ y ∧ y ≤ 1000000000000000000000000000000
/-- the day on which a year begins -/
def fday (d t b s y : Int) : Int := ((d * b + t) * y + s) / b
/-- the year of a day -/
def yof (d t b s n : Int) : Int := ((n + 1) * b - s - 1) / (d * b + t)
theorem step_pos {d t b s : Int} (h : LandOk d t b s) : 1 ≤ d * b + t ∧ d * b + t ≤ 24060 := by
  obtain ⟨⟨h1, h2⟩, ⟨h3, h4⟩, ⟨h5, h6⟩, _⟩ := h
  have a1 : 1 * 1 ≤ d * b := Int.mul_le_mul h1 h5 (by decide) (by omega)
  have a2 : d * b ≤ 400 * 60 := Int.mul_le_mul h2 h6 (by omega) (by decide)
  omega
end Ly
namespace Ly
theorem fday_begin {d t b s : Int} (h : LandOk d t b s) (y : Int) : fday d t b s y = d * y + (t * y + s) / b := by
  obtain ⟨_, _, ⟨h5, _⟩, _⟩ := h
  unfold fday
  have e : (d * b + t) * y + s = (t * y + s) + b * (d * y) := by
    rw [Int.add_mul, Int.mul_comm d b, Int.mul_assoc]; omega
  rw [e, Int.add_mul_ediv_left _ _ (by omega)]
  omega
end Ly
set_option Elab.async false
set_option linter.all false
/-! the mathematics of lands -/
namespace Ly
theorem LandOk.b {d t b s : Int} (h : LandOk d t b s) : 1 ≤ b ∧ b ≤ 60 := h.2.2.1
theorem LandOk.d {d t b s : Int} (h : LandOk d t b s) : 1 ≤ d ∧ d ≤ 400 := h.1
theorem LandOk.t {d t b s : Int} (h : LandOk d t b s) : 0 ≤ t ∧ t < b := h.2.1
theorem LandOk.s {d t b s : Int} (h : LandOk d t b s) : -1000000 ≤ s ∧ s ≤ 1000000 := h.2.2.2
/-- year y begins by day m just where y is at most the year of m -/
theorem gal {d t b s : Int} (h : LandOk d t b s) (y m : Int) : fday d t b s y ≤ m ↔ y ≤ yof d t b s m := by
  have hb := h.b
  have hs := step_pos h
  unfold fday yof
  rw [Int.le_ediv_iff_mul_le (by omega)]
  have e : ((d * b + t) * y + s) / b ≤ m ↔ ((d * b + t) * y + s) / b < m + 1 := by omega
  rw [e, Int.ediv_lt_iff_lt_mul (by omega), Int.mul_comm (d * b + t) y]
  omega
theorem yof_low {d t b s : Int} (h : LandOk d t b s) (m : Int) : fday d t b s (yof d t b s m) ≤ m := (gal h _ m).mpr (Int.le_refl _)
theorem yof_high {d t b s : Int} (h : LandOk d t b s) (m : Int) : m < fday d t b s (yof d t b s m + 1) := by
  have := mt (gal h (yof d t b s m + 1) m).mp (by omega)
  omega
theorem yof_eq {d t b s : Int} (h : LandOk d t b s) {y m : Int} (h1 : fday d t b s y ≤ m) (h2 : m < fday d t b s (y + 1)) : yof d t b s m = y := by
  have a := (gal h y m).mp h1
  have c := mt (gal h (y + 1) m).mpr (by omega)
  omega
/-- T: the long years told so far -/
def tof (t b s y : Int) : Int := (t * y + s) / b
theorem fday_tof {d t b s : Int} (h : LandOk d t b s) (y : Int) : fday d t b s y = d * y + tof t b s y := fday_begin h y
theorem tof_step {d t b s : Int} (h : LandOk d t b s) (y : Int) : tof t b s (y + 1) = tof t b s y ∨ tof t b s (y + 1) = tof t b s y + 1 := by
  have hb := h.b
  have ht := h.t
  unfold tof
  have e : t * (y + 1) + s = (t * y + s) + t := by rw [Int.mul_add, Int.mul_one]; omega
  rw [e]
  generalize t * y + s = A
  have h1 : A / b ≤ (A + t) / b := Int.ediv_le_ediv (by omega) (by omega)
  have h2 : (A + t) / b ≤ (A + b * 1) / b := Int.ediv_le_ediv (by omega) (by omega)
  rw [Int.add_mul_ediv_left _ _ (by omega)] at h2
  omega
theorem flen {d t b s : Int} (h : LandOk d t b s) (y : Int) : fday d t b s (y + 1) - fday d t b s y = d + (tof t b s (y + 1) - tof t b s y) := by
  rw [fday_tof h, fday_tof h, Int.mul_add, Int.mul_one]; omega
theorem flen2 {d t b s : Int} (h : LandOk d t b s) (y : Int) : fday d t b s (y + 1) - fday d t b s y = d ∨ fday d t b s (y + 1) - fday d t b s y = d + 1 := by
  rw [flen h]
  rcases tof_step h y with e | e <;> omega
theorem fday_lt {d t b s : Int} (h : LandOk d t b s) (y : Int) : fday d t b s y < fday d t b s (y + 1) := by
  have := flen2 h y
  have := h.d
  omega
theorem yof_begin {d t b s : Int} (h : LandOk d t b s) (y : Int) : yof d t b s (fday d t b s y) = y := yof_eq h (Int.le_refl _) (fday_lt h y)
theorem yof_ahead {d t b s : Int} (h : LandOk d t b s) (y : Int) : yof d t b s (fday d t b s y - 1) = y - 1 := by
  have e := fday_lt h (y - 1)
  rw [Int.sub_add_cancel] at e
  exact yof_eq h (by omega) (by rw [Int.sub_add_cancel]; omega)
theorem fday_round {d t b s : Int} (h : LandOk d t b s) (y : Int) : fday d t b s (y + b) = fday d t b s y + (d * b + t) := by
  have hb := h.b
  unfold fday
  have e : (d * b + t) * (y + b) + s = ((d * b + t) * y + s) + b * (d * b + t) := by
    rw [Int.mul_add, Int.mul_comm (d * b + t) b]; omega
  rw [e, Int.add_mul_ediv_left _ _ (by omega)]
/-- the day behind: the same year, or the next one's first -/
theorem yof_succ {d t b s : Int} (h : LandOk d t b s) (m : Int) :
    yof d t b s (m + 1) = if m + 1 - fday d t b s (yof d t b s m) = fday d t b s (yof d t b s m + 1) - fday d t b s (yof d t b s m) then yof d t b s m + 1 else yof d t b s m := by
  have h1 := yof_low h m
  have h2 := yof_high h m
  split
  · rename_i e
    have e2 : m + 1 = fday d t b s (yof d t b s m + 1) := by omega
    rw [e2]
    exact yof_begin h _
  · exact yof_eq h (by omega) (by omega)
theorem ediv_abs {x k : Int} (hk : 1 ≤ k) {B : Int} (hB : 0 ≤ B) (h1 : -B ≤ x) (h2 : x ≤ B) : -B ≤ x / k ∧ x / k ≤ B := by
  constructor
  · rw [Int.le_ediv_iff_mul_le (by omega)]
    have : -B * k ≤ -B * 1 := Int.mul_le_mul_of_nonpos_left (by omega) hk
    omega
  · have h3 : x / k < B + 1 := by
      rw [Int.ediv_lt_iff_lt_mul (by omega)]
      have : (B + 1) * 1 ≤ (B + 1) * k := Int.mul_le_mul_of_nonneg_left hk (by omega)
      omega
    omega
theorem mul_abs {x k : Int} {M B : Int} (hk0 : 0 ≤ k) (hk : k ≤ M) (hB : 0 ≤ B) (h1 : -B ≤ x) (h2 : x ≤ B) : -(B * M) ≤ x * k ∧ x * k ≤ B * M := by
  have a1 : x * k ≤ B * k := Int.mul_le_mul_of_nonneg_right h2 hk0
  have a2 : B * k ≤ B * M := Int.mul_le_mul_of_nonneg_left hk hB
  have a3 : -B * k ≤ x * k := Int.mul_le_mul_of_nonneg_right h1 hk0
  have a4 : -B * k = -(B * k) := Int.neg_mul ..
  omega
theorem yof_abs {d t b s : Int} (h : LandOk d t b s) {m B : Int} (hB : 0 ≤ B) (h1 : -B ≤ m) (h2 : m ≤ B) : -(60 * B + 2000000) ≤ yof d t b s m ∧ yof d t b s m ≤ 60 * B + 2000000 := by
  have hb := h.b
  have hs := h.s
  have hp := step_pos h
  have hm := mul_abs (x := m + 1) (k := b) (M := 60) (B := B + 1) (by omega) (by omega) (by omega) (by omega) (by omega)
  unfold yof
  exact ediv_abs hp.1 (by omega) (by omega) (by omega)
theorem fday_abs {d t b s : Int} (h : LandOk d t b s) {y B : Int} (hB : 0 ≤ B) (h1 : -B ≤ y) (h2 : y ≤ B) : -(24060 * B + 2000000) ≤ fday d t b s y ∧ fday d t b s y ≤ 24060 * B + 2000000 := by
  have hb := h.b
  have hs := h.s
  have hp := step_pos h
  have hm := mul_abs (x := y) (k := d * b + t) (M := 24060) (B := B) (by omega) (by omega) (by omega) (by omega) (by omega)
  unfold fday
  rw [Int.mul_comm (d * b + t) y]
  exact ediv_abs hb.1 (by omega) (by omega) (by omega)
theorem tof_abs {d t b s : Int} (h : LandOk d t b s) {y B : Int} (hB : 0 ≤ B) (h1 : -B ≤ y) (h2 : y ≤ B) : -(B + 1000001) ≤ tof t b s y ∧ tof t b s y ≤ B + 1000001 := by
  have hb := h.b
  have hs := h.s
  have ht := h.t
  have hm := mul_abs (x := y) (k := t) (M := b) (B := B) (by omega) (by omega) (by omega) (by omega) (by omega)
  unfold tof
  rw [Int.mul_comm t y]
  have e1 : (B * b + 1000000 * b) / b = B + 1000000 := by rw [← Int.add_mul, Int.mul_ediv_cancel _ (by omega)]
  have e2 : (-(B * b) - 1000000 * b) / b = -B - 1000000 := by rw [← Int.neg_mul, ← Int.sub_mul, Int.mul_ediv_cancel _ (by omega)]
  have m1 : (y * t + s) / b ≤ (B * b + 1000000 * b) / b := Int.ediv_le_ediv (by omega) (by omega)
  have m2 : (-(B * b) - 1000000 * b) / b ≤ (y * t + s) / b := Int.ediv_le_ediv (by omega) (by omega)
  omega
theorem fday_abs2 {d t b s : Int} (h : LandOk d t b s) {y B : Int} (hB : 0 ≤ B) (h1 : -B ≤ y) (h2 : y ≤ B) : -(401 * B + 1000001) ≤ fday d t b s y ∧ fday d t b s y ≤ 401 * B + 1000001 := by
  have hd := h.d
  have ht := tof_abs h hB h1 h2
  have hm := mul_abs (x := y) (k := d) (M := 400) (B := B) (by omega) (by omega) (by omega) (by omega) (by omega)
  rw [fday_tof h, Int.mul_comm d y]
  omega
/-- of so many years as many are long as their part, below or above -/
theorem tof_part {d t b s : Int} (h : LandOk d t b s) (y : Int) {n : Int} (hn : 0 ≤ n) : n * t / b ≤ tof t b s (y + n) - tof t b s y ∧ tof t b s (y + n) - tof t b s y ≤ (n * t + b - 1) / b := by
  have hb := h.b
  unfold tof
  have e : t * (y + n) + s = (t * y + s) + n * t := by rw [Int.mul_add, Int.mul_comm t n]; omega
  rw [e]
  generalize t * y + s = A
  generalize n * t = N
  have hA := Int.emod_add_mul_ediv A b
  have hN := Int.emod_add_mul_ediv N b
  have a0 := Int.emod_nonneg A (show b ≠ 0 by omega)
  have a1 := Int.emod_lt_of_pos A (show 0 < b by omega)
  have n0 := Int.emod_nonneg N (show b ≠ 0 by omega)
  have n1 := Int.emod_lt_of_pos N (show 0 < b by omega)
  constructor
  · have : A / b + N / b ≤ (A + N) / b := by
      rw [Int.le_ediv_iff_mul_le (by omega), Int.add_mul, Int.mul_comm (A / b), Int.mul_comm (N / b)]
      omega
    omega
  · generalize hC : (N + b - 1) / b = C
    have h2 : N ≤ b * C := by
      have h3 := Int.emod_add_mul_ediv (N + b - 1) b
      have h4 := Int.emod_lt_of_pos (N + b - 1) (show 0 < b by omega)
      rw [hC] at h3
      omega
    have : (A + N) / b < A / b + C + 1 := by
      rw [Int.ediv_lt_iff_lt_mul (by omega), Int.add_mul, Int.add_mul, Int.mul_comm (A / b), Int.mul_comm C]
      omega
    omega
theorem tof_round {d t b s : Int} (h : LandOk d t b s) (y : Int) : tof t b s (y + b) = tof t b s y + t := by
  have hb := h.b
  unfold tof
  have e : t * (y + b) + s = (t * y + s) + b * t := by rw [Int.mul_add, Int.mul_comm t b]; omega
  rw [e, Int.add_mul_ediv_left _ _ (by omega)]
end Ly
set_option Elab.async false
set_option linter.all false
set_option maxHeartbeats 4000000
/-! days of the week: the mathematics -/
namespace Ly
/-- the greatest common measure of two numbers from 0 on -/
def gcdI (a b : Int) : Int := (Nat.gcd a.toNat b.toNat : Nat)
theorem gcdI_zero {a : Int} (h : 0 ≤ a) : gcdI a 0 = a := by
  unfold gcdI
  rw [show (0 : Int).toNat = 0 from rfl, Nat.gcd_zero_right]; omega
theorem gcdI_step {a b : Int} (ha : 0 ≤ a) (hb : 0 < b) : gcdI a b = gcdI b (a % b) := by
  unfold gcdI
  have e : (a % b).toNat = a.toNat % b.toNat := by
    obtain ⟨m, rfl⟩ : ∃ m : Nat, a = m := ⟨a.toNat, by omega⟩
    obtain ⟨n, rfl⟩ : ∃ n : Nat, b = n := ⟨b.toNat, by omega⟩
    show ((m : Int) % (n : Int)).toNat = m % n
    rw [← Int.natCast_emod, Int.toNat_natCast]
  rw [e, Nat.gcd_comm b.toNat, ← Nat.gcd_rec, Nat.gcd_comm]
theorem gcdI_dvd_l {a b : Int} (ha : 0 ≤ a) : gcdI a b ∣ a := by
  unfold gcdI
  have h := Int.natCast_dvd_natCast.mpr (Nat.gcd_dvd_left a.toNat b.toNat)
  rwa [Int.toNat_of_nonneg ha] at h
theorem gcdI_dvd_r {a b : Int} (hb : 0 ≤ b) : gcdI a b ∣ b := by
  unfold gcdI
  have h := Int.natCast_dvd_natCast.mpr (Nat.gcd_dvd_right a.toNat b.toNat)
  rwa [Int.toNat_of_nonneg hb] at h
theorem gcdI_pos {a b : Int} (ha : 0 < a) : 1 ≤ gcdI a b := by
  unfold gcdI
  have := Nat.gcd_pos_of_pos_left b.toNat (show 0 < a.toNat by omega)
  omega
theorem gcdI_pos_r {a b : Int} (hb : 0 < b) : 1 ≤ gcdI a b := by
  unfold gcdI
  have := Nat.gcd_pos_of_pos_right a.toNat (show 0 < b.toNat by omega)
  omega
theorem gcdI_comm (a b : Int) : gcdI a b = gcdI b a := by unfold gcdI; rw [Nat.gcd_comm]
theorem dvd_gcdI {k a b : Int} (hk : 0 ≤ k) (ha : 0 ≤ a) (hb : 0 ≤ b) (h1 : k ∣ a) (h2 : k ∣ b) : k ∣ gcdI a b := by
  obtain ⟨m, rfl⟩ : ∃ m : Nat, k = m := ⟨k.toNat, by omega⟩
  obtain ⟨x, rfl⟩ : ∃ x : Nat, a = x := ⟨a.toNat, by omega⟩
  obtain ⟨y, rfl⟩ : ∃ y : Nat, b = y := ⟨b.toNat, by omega⟩
  unfold gcdI
  exact Int.natCast_dvd_natCast.mpr (Nat.dvd_gcd (by simpa using Int.natCast_dvd_natCast.mp h1) (by simpa using Int.natCast_dvd_natCast.mp h2))
theorem gcdI_div {a b : Int} (ha : 0 < a) (hb : 0 ≤ b) : gcdI (a / gcdI a b) (b / gcdI a b) = 1 := by
  obtain ⟨x, rfl⟩ : ∃ x : Nat, a = x := ⟨a.toNat, by omega⟩
  obtain ⟨y, rfl⟩ : ∃ y : Nat, b = y := ⟨b.toNat, by omega⟩
  unfold gcdI
  have e1 : ((x : Int) / ((Nat.gcd (x : Int).toNat (y : Int).toNat : Nat) : Int)).toNat = x / Nat.gcd x y := by rw [Int.toNat_natCast, Int.toNat_natCast, ← Int.natCast_ediv, Int.toNat_natCast]
  have e2 : ((y : Int) / ((Nat.gcd (x : Int).toNat (y : Int).toNat : Nat) : Int)).toNat = y / Nat.gcd x y := by rw [Int.toNat_natCast, Int.toNat_natCast, ← Int.natCast_ediv, Int.toNat_natCast]
  rw [e1, e2, Nat.gcd_div (Nat.gcd_dvd_left x y) (Nat.gcd_dvd_right x y), Nat.div_self (Nat.gcd_pos_of_pos_left y (by omega))]
  rfl
theorem modeq {T y z : Int} : y % T = z % T ↔ T ∣ y - z := by
  rw [Int.dvd_iff_emod_eq_zero]
  exact Int.emod_eq_emod_iff_emod_sub_eq_zero
/-- S * y leaves aw by W, solved by the inverse -/
theorem solve {S W g T r bk : Int} (hg : 0 < g) (hS : S = g * r) (hW : W = g * T) (hb : T ∣ r * bk - 1) (y aw : Int) : W ∣ S * y - aw ↔ g ∣ aw ∧ y % T = (aw / g * bk) % T := by
  subst hS hW
  constructor
  · intro h
    have hga : g ∣ aw := by
      have h1 : g ∣ g * r * y - aw := Int.dvd_trans ⟨T, rfl⟩ h
      have h2 : g ∣ g * r * y := ⟨r * y, by rw [Int.mul_assoc]⟩
      have h3 := Int.dvd_sub h2 h1
      rwa [Int.sub_sub_self] at h3
    refine ⟨hga, ?_⟩
    obtain ⟨a, rfl⟩ := hga
    rw [Int.mul_ediv_cancel_left _ (by omega), modeq]
    have h2 : T ∣ r * y - a := by
      rw [Int.mul_assoc, ← Int.mul_sub] at h
      exact Int.dvd_of_mul_dvd_mul_left (by omega) h
    have h3 : T ∣ (r * y - a) * bk := Int.dvd_trans h2 ⟨bk, rfl⟩
    have h4 : T ∣ (r * bk - 1) * y := Int.dvd_trans hb ⟨y, rfl⟩
    have h5 := Int.dvd_sub h3 h4
    have e : (r * y - a) * bk - (r * bk - 1) * y = y - a * bk := by
      rw [Int.sub_mul, Int.sub_mul, Int.mul_right_comm r bk y, Int.one_mul]; omega
    rwa [e] at h5
  · rintro ⟨⟨a, rfl⟩, h⟩
    rw [Int.mul_ediv_cancel_left _ (by omega), modeq] at h
    rw [Int.mul_assoc, ← Int.mul_sub]
    refine Int.mul_dvd_mul_left g ?_
    have h3 : T ∣ (y - a * bk) * r := Int.dvd_trans h ⟨r, rfl⟩
    have h4 : T ∣ (r * bk - 1) * a := Int.dvd_trans hb ⟨a, rfl⟩
    have h5 := Int.dvd_add h3 h4
    have e : (y - a * bk) * r + (r * bk - 1) * a = r * y - a := by
      rw [Int.sub_mul, Int.sub_mul, Int.one_mul, Int.mul_comm y r, Int.mul_comm (a * bk) r, ← Int.mul_assoc, Int.mul_right_comm r a bk]; omega
    rwa [e] at h5
/-- a year has the place on the day nm of a week of wk -/
def has (d t b s pl wk nm y : Int) : Prop := (fday d t b s y + pl) % wk = nm
instance (d t b s pl wk nm y : Int) : Decidable (has d t b s pl wk nm y) := inferInstanceAs (Decidable (_ = _))
theorem has_iff {d t b s pl wk nm : Int} (h : LandOk d t b s) (hw : 1 ≤ wk) (h0 : 0 ≤ nm) (h1 : nm < wk) (y : Int) :
    has d t b s pl wk nm y ↔ ∃ j, 0 ≤ j ∧ j < b ∧ wk * b ∣ (d * b + t) * y - (nm * b + j - s - pl * b) := by
  have hb := h.b
  unfold has fday
  generalize hX : (d * b + t) * y = X
  have e : (X + s) / b + pl = (X + s + b * pl) / b := by rw [Int.add_mul_ediv_left _ _ (by omega)]
  rw [e]
  generalize hA : X + s + b * pl = A
  have hc : b * pl = pl * b := Int.mul_comm ..
  constructor
  · intro hh
    refine ⟨A % b, Int.emod_nonneg _ (by omega), Int.emod_lt_of_pos _ (by omega), (A / b) / wk, ?_⟩
    have q1 := Int.emod_add_mul_ediv A b
    have q2 := Int.emod_add_mul_ediv (A / b) wk
    rw [hh] at q2
    have q3 : b * (A / b) = b * (nm + wk * (A / b / wk)) := by rw [q2]
    rw [Int.mul_add, Int.mul_comm b nm, ← Int.mul_assoc, Int.mul_comm b wk] at q3
    omega
  · rintro ⟨j, j0, j1, k, hk⟩
    have hA2 : A = j + b * (nm + wk * k) := by
      rw [Int.mul_add, Int.mul_comm b nm, ← Int.mul_assoc, Int.mul_comm b wk]; omega
    rw [hA2, Int.add_mul_ediv_left _ _ (by omega), Int.ediv_eq_zero_of_lt j0 j1, Int.zero_add, Int.add_mul_emod_self_left]
    exact Int.emod_eq_of_lt h0 h1
/-- what stands in a round of years -/
structure Yso (d t b s pl wk nm : Int) (ys : List Int) (T : Int) : Prop where
  tpos : 1 ≤ T
  teq : T = wk * b / gcdI (d * b + t) (wk * b)
  rng : ∀ y ∈ ys, 0 ≤ y ∧ y < T
  inc : ys.Pairwise (· < ·)
  good : ∀ y, has d t b s pl wk nm y ↔ y % T ∈ ys
  len : ys.length ≤ 60
/-- the years found, ahead of sorting, from the first i rests -/
def fnd (b s pl nm g bk T : Int) : Nat → List Int
  | 0 => []
  | i + 1 => if (nm * b + i - s - pl * b) % g = 0 then fnd b s pl nm g bk T i ++ [(nm * b + i - s - pl * b) / g * bk % T] else fnd b s pl nm g bk T i
theorem fnd_len (b s pl nm g bk T : Int) : ∀ i, (fnd b s pl nm g bk T i).length ≤ i
  | 0 => Nat.le_refl _
  | i + 1 => by
    have ih := fnd_len b s pl nm g bk T i
    unfold fnd
    split
    · rw [List.length_append]; show _ + 1 ≤ _; omega
    · omega
theorem mem_fnd {b s pl nm g bk T z : Int} : ∀ {i : Nat}, z ∈ fnd b s pl nm g bk T i ↔ ∃ j : Nat, j < i ∧ (nm * b + j - s - pl * b) % g = 0 ∧ z = (nm * b + j - s - pl * b) / g * bk % T
  | 0 => by simp [fnd]
  | i + 1 => by
    have ih := mem_fnd (b := b) (s := s) (pl := pl) (nm := nm) (g := g) (bk := bk) (T := T) (z := z) (i := i)
    unfold fnd
    split
    · rename_i hc
      rw [List.mem_append, ih, List.mem_singleton]
      constructor
      · rintro (⟨j, a, r⟩ | e)
        · exact ⟨j, by omega, r⟩
        · exact ⟨i, by omega, hc, e⟩
      · rintro ⟨j, a, r, e⟩
        by_cases hj : j = i
        · subst hj; exact .inr e
        · exact .inl ⟨j, by omega, r, e⟩
    · rename_i hc
      rw [ih]
      constructor
      · rintro ⟨j, a, r⟩
        exact ⟨j, by omega, r⟩
      · rintro ⟨j, a, r, e⟩
        by_cases hj : j = i
        · subst hj; exact absurd r hc
        · exact ⟨j, by omega, r, e⟩
theorem yso_of {d t b s pl wk nm g bk T : Int} (h : LandOk d t b s) (hw : 1 ≤ wk) (h0 : 0 ≤ nm) (h1 : nm < wk) (hg : g = gcdI (d * b + t) (wk * b)) (hT : T = wk * b / g) (hb : T ∣ (d * b + t) / g * bk - 1) {ys : List Int}
    (hp : ys.Perm (fnd b s pl nm g bk T b.toNat)) (hs : ys.Pairwise (· ≤ ·)) : Yso d t b s pl wk nm ys T := by
  have hbb := h.b
  have hst := step_pos h
  have wb : 1 * 1 ≤ wk * b := Int.mul_le_mul hw hbb.1 (by decide) (by omega)
  have g1 : 1 ≤ g := by rw [hg]; exact gcdI_pos (by omega)
  have gS : (d * b + t) = g * ((d * b + t) / g) := by
    have := gcdI_dvd_l (a := d * b + t) (b := wk * b) (by omega)
    rw [← hg] at this
    exact (Int.mul_ediv_cancel' this).symm
  have gW : wk * b = g * T := by
    have := gcdI_dvd_r (a := d * b + t) (b := wk * b) (by omega)
    rw [← hg] at this
    rw [hT]
    exact (Int.mul_ediv_cancel' this).symm
  have T1 : 1 ≤ T := by
    rcases Int.lt_or_le T 1 with z | z
    · have : g * T ≤ g * 0 := Int.mul_le_mul_of_nonneg_left (by omega) (by omega)
      omega
    · exact z
  have sol := fun (y : Int) (j : Int) => solve (S := d * b + t) (W := wk * b) (g := g) (T := T) (by omega) gS gW hb y (nm * b + j - s - pl * b)
  have mem : ∀ z, z ∈ ys ↔ z ∈ fnd b s pl nm g bk T b.toNat := fun z => hp.mem_iff
  have rng : ∀ z ∈ ys, 0 ≤ z ∧ z < T := fun z hz => by
    obtain ⟨j, _, _, rfl⟩ := mem_fnd.mp ((mem z).mp hz)
    exact ⟨Int.emod_nonneg _ (by omega), Int.emod_lt_of_pos _ (by omega)⟩
  have dv : ∀ {x : Int}, x % g = 0 ↔ g ∣ x := fun {x} => (Int.dvd_iff_emod_eq_zero ..).symm
  have nodup : ∀ i : Nat, i ≤ b.toNat → (fnd b s pl nm g bk T i).Nodup := fun i => by
    induction i with
    | zero => intro _; exact List.nodup_nil
    | succ i ih =>
      intro hi
      unfold fnd
      split
      · rename_i hc
        rw [List.nodup_append]
        refine ⟨ih (by omega), by simp, ?_⟩
        intro z hz w hw' e
        rw [List.mem_singleton] at hw'
        subst hw'
        obtain ⟨j, hj, r, e2⟩ := mem_fnd.mp hz
        have zz : z % T = z := by
          rw [e2, Int.emod_emod_of_dvd _ (Int.dvd_refl T)]
        have s1 := (sol z j).mpr ⟨dv.mp r, by rw [zz]; exact e2⟩
        have s2 := (sol z i).mpr ⟨dv.mp hc, by rw [zz]; exact e⟩
        have s3 := Int.dvd_sub s1 s2
        have e3 : (d * b + t) * z - (nm * b + (j : Int) - s - pl * b) - ((d * b + t) * z - (nm * b + (i : Int) - s - pl * b)) = (i : Int) - j := by omega
        rw [e3] at s3
        have hle := Int.le_of_dvd (by omega) s3
        have : 1 * b ≤ wk * b := Int.mul_le_mul_of_nonneg_right hw (by omega)
        omega
      · exact ih (by omega)
  refine ⟨T1, by rw [hT, hg], rng, ?_, fun y => ?_, ?_⟩
  · have nd : ys.Nodup := hp.nodup_iff.mpr (nodup _ (Nat.le_refl _))
    refine (List.Pairwise.and hs nd).imp ?_
    rintro x y ⟨a, c⟩
    omega
  · rw [has_iff h hw h0 h1, mem, mem_fnd]
    constructor
    · rintro ⟨j, j0, j1, hd⟩
      obtain ⟨k, rfl⟩ : ∃ k : Nat, j = k := ⟨j.toNat, by omega⟩
      obtain ⟨a, c⟩ := (sol y k).mp hd
      exact ⟨k, by omega, dv.mpr a, c⟩
    · rintro ⟨j, hj, r, e⟩
      exact ⟨j, by omega, by omega, (sol y j).mpr ⟨dv.mp r, e⟩⟩
  · rw [hp.length_eq]
    have := fnd_len b s pl nm g bk T b.toNat
    omega
end Ly
set_option Elab.async false
set_option linter.all false
set_option maxHeartbeats 4000000
/-! counting, next ones, gaps: plain mathematics -/
namespace Ly
/-- two rising lists with the same members are the same -/
theorem pw_ext : ∀ {xs ys : List Int}, xs.Pairwise (· < ·) → ys.Pairwise (· < ·) → (∀ z, z ∈ xs ↔ z ∈ ys) → xs = ys
  | [], [], _, _, _ => rfl
  | [], y :: ys, _, _, h => absurd ((h y).mpr (List.mem_cons_self ..)) (by simp)
  | x :: xs, [], _, _, h => absurd ((h x).mp (List.mem_cons_self ..)) (by simp)
  | x :: xs, y :: ys, hx, hy, h => by
    rw [List.pairwise_cons] at hx hy
    have e : x = y := by
      rcases List.mem_cons.mp ((h x).mp (List.mem_cons_self ..)) with e | e
      · exact e
      · rcases List.mem_cons.mp ((h y).mpr (List.mem_cons_self ..)) with e' | e'
        · exact e'.symm
        · have := hx.1 y e'
          have := hy.1 x e
          omega
    subst e
    rw [pw_ext hx.2 hy.2 fun z => ?_]
    constructor
    · intro hz
      rcases List.mem_cons.mp ((h z).mp (List.mem_cons_of_mem _ hz)) with e | e
      · have := hx.1 z hz; omega
      · exact e
    · intro hz
      rcases List.mem_cons.mp ((h z).mpr (List.mem_cons_of_mem _ hz)) with e | e
      · have := hy.1 z hz; omega
      · exact e
/-- the numbers from a on, n of them, of which p holds -/
def flt (p : Int → Bool) (a : Int) : Nat → List Int
  | 0 => []
  | n + 1 => if p (a + n) then flt p a n ++ [a + n] else flt p a n
theorem mem_flt {p : Int → Bool} {a z : Int} : ∀ {n : Nat}, z ∈ flt p a n ↔ a ≤ z ∧ z < a + n ∧ p z = true
  | 0 => by simp [flt]; omega
  | n + 1 => by
    have ih := mem_flt (p := p) (a := a) (z := z) (n := n)
    unfold flt
    split
    · rename_i h
      rw [List.mem_append, ih, List.mem_singleton]
      constructor
      · rintro (⟨x, y, q⟩ | rfl)
        · exact ⟨x, by omega, q⟩
        · exact ⟨by omega, by omega, h⟩
      · rintro ⟨x, y, q⟩
        by_cases e : z = a + n
        · exact .inr e
        · exact .inl ⟨x, by omega, q⟩
    · rename_i h
      rw [ih]
      constructor
      · rintro ⟨x, y, q⟩
        exact ⟨x, by omega, q⟩
      · rintro ⟨x, y, q⟩
        refine ⟨x, ?_, q⟩
        by_cases e : z = a + n
        · subst e; exact absurd q h
        · omega
theorem flt_inc {p : Int → Bool} {a : Int} : ∀ {n : Nat}, (flt p a n).Pairwise (· < ·)
  | 0 => List.Pairwise.nil
  | n + 1 => by
    unfold flt
    split
    · rw [List.pairwise_append]
      refine ⟨flt_inc, List.pairwise_singleton .., ?_⟩
      intro x hx y hy
      rw [List.mem_singleton] at hy
      have := mem_flt.mp hx
      omega
    · exact flt_inc
theorem flt_len {p : Int → Bool} {a : Int} : ∀ {n : Nat}, (flt p a n).length ≤ n
  | 0 => Nat.le_refl _
  | n + 1 => by
    have := flt_len (p := p) (a := a) (n := n)
    unfold flt
    split
    · rw [List.length_append]; show _ + 1 ≤ _; omega
    · omega
/-- how many of the n numbers from a on -/
def cnt (p : Int → Bool) (a : Int) : Nat → Int
  | 0 => 0
  | n + 1 => cnt p a n + if p (a + n) then 1 else 0
theorem cnt_flt {p : Int → Bool} {a : Int} : ∀ {n : Nat}, cnt p a n = ((flt p a n).length : Nat)
  | 0 => rfl
  | n + 1 => by
    have ih := cnt_flt (p := p) (a := a) (n := n)
    unfold cnt flt
    split
    · rw [ih, List.length_append]; show _ = ((_ + 1 : Nat) : Int); omega
    · rw [ih]; omega
theorem cnt_nonneg {p : Int → Bool} {a : Int} {n : Nat} : 0 ≤ cnt p a n := by rw [cnt_flt]; omega
theorem cnt_congr {p q : Int → Bool} {a : Int} : ∀ {n : Nat}, (∀ z, a ≤ z → z < a + n → p z = q z) → cnt p a n = cnt q a n
  | 0, _ => rfl
  | n + 1, h => by
    unfold cnt
    rw [cnt_congr (n := n) fun z h1 h2 => h z h1 (by omega), h (a + n) (by omega) (by omega)]
theorem cnt_add {p : Int → Bool} {a : Int} {n : Nat} : ∀ {m : Nat}, cnt p a (n + m) = cnt p a n + cnt p (a + n) m
  | 0 => by simp [cnt]
  | m + 1 => by
    show cnt p a (n + m) + _ = _ + (cnt p (a + n) m + _)
    rw [cnt_add (m := m), show a + ((n.add m : Nat) : Int) = a + n + m by show a + ((n + m : Nat) : Int) = _; omega]
    omega
theorem cnt_shift {p : Int → Bool} {a T : Int} (h : ∀ z, p (z + T) = p z) : ∀ {n : Nat}, cnt p (a + T) n = cnt p a n
  | 0 => rfl
  | n + 1 => by
    unfold cnt
    rw [cnt_shift h (n := n), show a + T + (n : Int) = a + n + T by omega, h]
theorem cnt_zero {p : Int → Bool} {a : Int} {n : Nat} (h : ∀ z, a ≤ z → z < a + n → p z = false) : cnt p a n = 0 := by
  rw [cnt_congr (q := fun _ => false) h]
  induction n with
  | zero => rfl
  | succ n ih =>
    show cnt _ _ _ + 0 = 0
    rw [ih fun z a b => h z a (by omega)]
    rfl
/-- o is the first number from n on of which p holds -/
def Fst (p : Int → Prop) (n m : Int) : Prop := n ≤ m ∧ p m ∧ ∀ z, n ≤ z → p z → m ≤ z
theorem Fst.uniq {p : Int → Prop} {n m k : Int} (a : Fst p n m) (b : Fst p n k) : m = k := by
  have := a.2.2 k b.1 b.2.1
  have := b.2.2 m a.1 a.2.1
  omega
/-- the least of what leaves one of the rests -/
theorem fst_rests {rs : List Int} {T n m : Int} (hT : 1 ≤ T) (hr : ∀ r ∈ rs, 0 ≤ r ∧ r < T) (hm : m ∈ rs.map fun r => n + (r - n) % T) (hl : ∀ y, y ∈ rs.map (fun r => n + (r - n) % T) → m ≤ y) : Fst (fun z => z % T ∈ rs) n m := by
  have key : ∀ r ∈ rs, (n + (r - n) % T) % T = r := fun r h => by
    have h1 := hr r h
    rw [Int.add_emod_emod, show n + (r - n) = r by omega]
    exact Int.emod_eq_of_lt h1.1 h1.2
  obtain ⟨r, hr1, rfl⟩ := List.mem_map.mp hm
  have p0 := Int.emod_nonneg (r - n) (show T ≠ 0 by omega)
  refine ⟨by omega, ?_, ?_⟩
  · show _ % T ∈ rs
    rw [key r hr1]; exact hr1
  · intro z hz hp
    have h2 := hl _ (List.mem_map.mpr ⟨z % T, hp, rfl⟩)
    have : n + (z % T - n) % T ≤ z := by
      have e : (z % T - n) % T = (z - n) % T := by rw [Int.emod_sub_emod]
      rw [e]
      have h3 := Int.emod_add_mul_ediv (z - n) T
      have h4 : 0 ≤ (z - n) / T := Int.ediv_nonneg (by omega) (by omega)
      have h5 : 0 ≤ T * ((z - n) / T) := Int.mul_nonneg (by omega) h4
      omega
    omega
/-- the sum by which numbers that leave rests are counted -/
def csum (rs : List Int) (T a z : Int) : Int := (rs.map fun r => (z - 1 - r) / T - (a - 1 - r) / T).sum
theorem div_step {T x : Int} (hT : 1 ≤ T) : x / T - (x - 1) / T = if x % T = 0 then 1 else 0 := by
  have h1 := Int.emod_add_mul_ediv x T
  have h2 := Int.emod_nonneg x (show T ≠ 0 by omega)
  have h3 := Int.emod_lt_of_pos x (show 0 < T by omega)
  split
  · rename_i e
    have : (x - 1) / T = x / T - 1 := by
      refine (Int.ediv_emod_unique (r := T - 1) (q := x / T - 1) (by omega) |>.mpr ⟨?_, by omega, by omega⟩).1
      rw [Int.mul_sub, Int.mul_one]; omega
    omega
  · rename_i e
    have : (x - 1) / T = x / T := by
      exact (Int.ediv_emod_unique (r := x % T - 1) (q := x / T) (by omega) |>.mpr ⟨by omega, by omega, by omega⟩).1
    omega
theorem sum_ind : ∀ {rs : List Int} {x : Int}, rs.Nodup → (rs.map fun r => if x = r then (1 : Int) else 0).sum = if x ∈ rs then 1 else 0
  | [], x, _ => by simp
  | r :: rs, x, h => by
    rw [List.nodup_cons] at h
    rw [List.map_cons, List.sum_cons, sum_ind h.2]
    by_cases e : x = r
    · subst e
      simp [h.1]
    · simp [e]
theorem csum_cnt {rs : List Int} {T a : Int} (hT : 1 ≤ T) (hr : ∀ r ∈ rs, 0 ≤ r ∧ r < T) (nd : rs.Nodup) : ∀ {n : Nat}, csum rs T a (a + n) = cnt (fun z => decide (z % T ∈ rs)) a n
  | 0 => by
    unfold csum cnt
    rw [show a + ((0 : Nat) : Int) = a by omega]
    induction rs with
    | nil => rfl
    | cons r rs ih =>
      rw [List.map_cons, List.sum_cons, ih (fun x h => hr x (List.mem_cons_of_mem _ h)) (List.nodup_cons.mp nd).2]
      omega
  | n + 1 => by
    have ih := csum_cnt (a := a) hT hr nd (n := n)
    unfold cnt
    rw [← ih]
    unfold csum
    have e : ∀ (ls : List Int) (f g h : Int → Int), (∀ r ∈ ls, f r = g r + h r) → (ls.map f).sum = (ls.map g).sum + (ls.map h).sum := fun ls f g h => by
      induction ls with
      | nil => intro _; rfl
      | cons x ls ih =>
        intro q
        rw [List.map_cons, List.map_cons, List.map_cons, List.sum_cons, List.sum_cons, List.sum_cons, ih fun r m => q r (List.mem_cons_of_mem _ m), q x (List.mem_cons_self ..)]
        omega
    rw [e rs _ (fun r => (a + n - 1 - r) / T - (a - 1 - r) / T) (fun r => if (a + n) % T = r then (1 : Int) else 0) ?_, sum_ind nd]
    · by_cases q : (a + n) % T ∈ rs <;> simp [q]
    · intro r h
      have h1 := hr r h
      have h2 := div_step (x := a + n - r) hT
      rw [show a + ((n + 1 : Nat) : Int) - 1 - r = a + n - r by omega, show a + (n : Int) - 1 - r = a + n - r - 1 by omega]
      have h3 : ((a + n - r) % T = 0) ↔ (a + n) % T = r := by
        rw [← Int.emod_eq_emod_iff_emod_sub_eq_zero, Int.emod_eq_of_lt h1.1 h1.2]
      by_cases q : (a + n) % T = r
      · rw [if_pos q]; rw [if_pos (h3.mpr q)] at h2; omega
      · rw [if_neg q]; rw [if_neg (fun z => q (h3.mp z))] at h2; omega
/-- p comes again behind T -/
def Per (p : Int → Prop) (T : Int) : Prop := ∀ z k, p (z + T * k) ↔ p z
theorem per_mod {T : Int} {rs : List Int} : Per (fun z => z % T ∈ rs) T := fun z k => by
  show (z + T * k) % T ∈ rs ↔ _
  rw [Int.add_mul_emod_self_left]
/-- g lies between one and the next -/
def Gap (p : Int → Prop) (g : Int) : Prop := ∃ y, p y ∧ Fst p (y + 1) (y + g)
theorem Gap.congr {p q : Int → Prop} (h : ∀ z, p z ↔ q z) {g : Int} : Gap p g ↔ Gap q g := by
  have e : p = q := funext fun z => propext (h z)
  rw [e]
def difs (xs : List Int) : List Int := List.zipWith (fun a b => b - a) xs xs.tail
theorem difs_get {xs : List Int} {i : Nat} {x y : Int} (h1 : xs[i]? = some x) (h2 : xs[i + 1]? = some y) : (difs xs)[i]? = some (y - x) := by
  unfold difs
  rw [List.getElem?_zipWith, h1, List.getElem?_tail, h2]
theorem difs_len (xs : List Int) : (difs xs).length = xs.length - 1 := by
  unfold difs
  rw [List.length_zipWith, List.length_tail]; omega
theorem mem_difs {xs : List Int} {g : Int} : g ∈ difs xs ↔ ∃ (i : Nat) (x y : Int), xs[i]? = some x ∧ xs[i + 1]? = some y ∧ g = y - x := by
  constructor
  · intro h
    obtain ⟨i, hi⟩ := List.getElem?_of_mem h
    have hl : i < (difs xs).length := (List.getElem?_eq_some_iff.mp hi).1
    rw [difs_len] at hl
    have h1 : xs[i]? = some xs[i] := List.getElem?_eq_getElem (by omega)
    have h2 : xs[i + 1]? = some xs[i + 1] := List.getElem?_eq_getElem (by omega)
    have h3 := difs_get h1 h2
    rw [hi] at h3
    exact ⟨i, _, _, h1, h2, Option.some.inj h3⟩
  · rintro ⟨i, x, y, h1, h2, rfl⟩
    exact List.mem_of_getElem? (difs_get h1 h2)
theorem pw_lt {xs : List Int} (h : xs.Pairwise (· < ·)) {i j : Nat} {x y : Int} (hi : xs[i]? = some x) (hj : xs[j]? = some y) (hij : i < j) : x < y := by
  obtain ⟨a, rfl⟩ := List.getElem?_eq_some_iff.mp hi
  obtain ⟨b, rfl⟩ := List.getElem?_eq_some_iff.mp hj
  exact List.pairwise_iff_getElem.mp h i j a b hij
/-- a whole round of numbers -/
structure Rnd (p : Int → Prop) (a T : Int) (zs : List Int) : Prop where
  per : Per p T
  pos : 1 ≤ T
  inc : zs.Pairwise (· < ·)
  mem : ∀ z, z ∈ zs ↔ a ≤ z ∧ z < a + T ∧ p z
/-- a round and the first one of the next -/
def rnd (T : Int) (zs : List Int) : List Int := zs ++ (zs.take 1).map (· + T)
theorem Per.add {p : Int → Prop} {T : Int} (h : Per p T) (z : Int) : p (z + T) ↔ p z := by
  have := h z 1
  rwa [Int.mul_one] at this
theorem Rnd.ne {p : Int → Prop} {a T : Int} {zs : List Int} (R : Rnd p a T zs) : zs = [] ↔ ∀ z, ¬ p z := by
  constructor
  · intro e z hz
    have h0 := Int.emod_nonneg (z - a) (show T ≠ 0 by have := R.pos; omega)
    have h1 := Int.emod_lt_of_pos (z - a) (show 0 < T by have := R.pos; omega)
    have h2 := Int.emod_add_mul_ediv (z - a) T
    have := (R.mem (a + (z - a) % T)).mpr ⟨by omega, by omega, by rw [← R.per _ ((z - a) / T), show a + (z - a) % T + T * ((z - a) / T) = z by omega]; exact hz⟩
    rw [e] at this; exact absurd this (by simp)
  · intro h
    cases zs with
    | nil => rfl
    | cons x xs => exact absurd ((R.mem x).mp (List.mem_cons_self ..)).2.2 (h x)
theorem Rnd.inc2 {p : Int → Prop} {a T : Int} {zs : List Int} (R : Rnd p a T zs) : (rnd T zs).Pairwise (· < ·) := by
  unfold rnd
  rw [List.pairwise_append]
  refine ⟨R.inc, ?_, ?_⟩
  · cases zs with
    | nil => exact List.Pairwise.nil
    | cons x xs => exact List.pairwise_singleton ..
  · intro x hx y hy
    obtain ⟨z, hz, rfl⟩ := List.mem_map.mp hy
    have h1 := (R.mem x).mp hx
    have h2 := (R.mem z).mp (List.mem_of_mem_take hz)
    omega
theorem Rnd.next {p : Int → Prop} {a T : Int} {zs : List Int} (R : Rnd p a T zs) {i : Nat} {x y : Int} (h1 : (rnd T zs)[i]? = some x) (h2 : (rnd T zs)[i + 1]? = some y) : p x ∧ Fst p (x + 1) y := by
  have pw := R.inc2
  cases zs with
  | nil => simp [rnd] at h1
  | cons z0 zs =>
  have hp : ∀ z ∈ rnd T (z0 :: zs), p z := fun z hz => by
    rcases List.mem_append.mp hz with h | h
    · exact ((R.mem z).mp h).2.2
    · obtain ⟨w, hw, rfl⟩ := List.mem_map.mp h
      rw [R.per.add]
      exact ((R.mem w).mp (List.mem_of_mem_take hw)).2.2
  have h0 := (R.mem z0).mp (List.mem_cons_self ..)
  have hfirst : ∀ z ∈ z0 :: zs, z0 ≤ z := fun z hz => by
    rcases List.mem_cons.mp hz with e | e
    · omega
    · have := (List.pairwise_cons.mp R.inc).1 z e; omega
  have comp : ∀ z, p z → z0 ≤ z → z ≤ z0 + T → z ∈ rnd T (z0 :: zs) := fun z hz a1 a2 => by
    by_cases c : z < a + T
    · exact List.mem_append_left _ ((R.mem z).mpr ⟨by omega, c, hz⟩)
    · have : z - T ∈ z0 :: zs := (R.mem (z - T)).mpr ⟨by omega, by omega, by rw [← R.per.add, Int.sub_add_cancel]; exact hz⟩
      have := hfirst _ this
      have e : z = z0 + T := by omega
      subst e
      exact List.mem_append_right _ (by simp)
  have mx := List.mem_of_getElem? h1
  have my := List.mem_of_getElem? h2
  have rng : ∀ z ∈ rnd T (z0 :: zs), z0 ≤ z ∧ z ≤ z0 + T := fun z hz => by
    have Tp := R.pos
    rcases List.mem_append.mp hz with h | h
    · have := (R.mem z).mp h
      have := hfirst z h
      have h5 : z ≤ z0 + T := by
        have : z < a + T := ((R.mem z).mp h).2.1
        omega
      exact ⟨by omega, h5⟩
    · simp at h; omega
  refine ⟨hp x mx, by have := pw_lt pw h1 h2 (Nat.lt_succ_self i); omega, hp y my, fun z hz pz => ?_⟩
  by_cases c : y ≤ z
  · exact c
  · have hm := comp z pz (by have := rng x mx; omega) (by have := rng y my; omega)
    obtain ⟨j, hj⟩ := List.getElem?_of_mem hm
    rcases Nat.lt_trichotomy j i with q | q | q
    · have := pw_lt pw hj h1 q; omega
    · subst q; rw [h1] at hj; cases hj; omega
    · by_cases e : j = i + 1
      · subst e; rw [h2] at hj; cases hj; omega
      · have := pw_lt pw h2 hj (by omega); omega
theorem Rnd.gap {p : Int → Prop} {a T : Int} {zs : List Int} (R : Rnd p a T zs) (g : Int) : g ∈ difs (rnd T zs) ↔ Gap p g := by
  rw [mem_difs]
  constructor
  · rintro ⟨i, x, y, h1, h2, rfl⟩
    obtain ⟨a1, a2⟩ := R.next h1 h2
    exact ⟨x, a1, by rw [show x + (y - x) = y by omega]; exact a2⟩
  · rintro ⟨y, hy, hF⟩
    have h0 := Int.emod_nonneg (y - a) (show T ≠ 0 by have := R.pos; omega)
    have h1 := Int.emod_lt_of_pos (y - a) (show 0 < T by have := R.pos; omega)
    have h2 := Int.emod_add_mul_ediv (y - a) T
    generalize hk : (y - a) / T = k at h2
    generalize hr : (y - a) % T = r at h0 h1 h2
    have sh : ∀ z, p (z + T * k) ↔ p z := fun z => R.per z k
    have m : a + r ∈ zs := (R.mem _).mpr ⟨by omega, by omega, by rw [← sh, show a + r + T * k = y by omega]; exact hy⟩
    obtain ⟨i, hi⟩ := List.getElem?_of_mem m
    have hil := (List.getElem?_eq_some_iff.mp hi).1
    have r1 : (rnd T zs)[i]? = some (a + r) := by
      unfold rnd
      rw [List.getElem?_append_left hil]; exact hi
    have hl : i + 1 < (rnd T zs).length := by
      unfold rnd
      cases zs with
      | nil => simp at hil
      | cons x xs => simp at hil ⊢; omega
    have r2 : (rnd T zs)[i + 1]? = some (rnd T zs)[i + 1] := List.getElem?_eq_getElem hl
    have nx := (R.next r1 r2).2
    have F2 : Fst p (a + r + 1) (a + r + g) := by
      refine ⟨by have := hF.1; omega, ?_, fun z hz pz => ?_⟩
      · rw [← sh, show a + r + g + T * k = y + g by omega]; exact hF.2.1
      · have := hF.2.2 (z + T * k) (by omega) ((sh z).mpr pz)
        omega
    have e := nx.uniq F2
    exact ⟨i, _, _, r1, r2, by omega⟩
theorem Rnd.flt {p : Int → Bool} {a T : Int} (h : Per (fun z => p z = true) T) (hT : 1 ≤ T) : Rnd (fun z => p z = true) a T (flt p a T.toNat) :=
  ⟨h, hT, flt_inc, fun z => by rw [mem_flt]; constructor <;> rintro ⟨x, y, q⟩ <;> exact ⟨x, by omega, q⟩⟩
/-! ### at most three lengths -/
theorem least_of {P : Nat → Prop} (h : ∃ n, P n) : ∃ n, P n ∧ ∀ m, P m → n ≤ m := by
  obtain ⟨n, hn⟩ := h
  induction n using Nat.strongRecOn with
  | _ n ih =>
    by_cases c : ∃ m, m < n ∧ P m
    · obtain ⟨m, a, b⟩ := c
      exact ih m a b
    · exact ⟨n, hn, fun m hm => by
        rcases Nat.lt_or_ge m n with q | q
        · exact absurd ⟨m, q, hm⟩ c
        · exact q⟩
theorem small_mul {W k b : Int} (h1 : -W < W * k) (h2 : W * k < W) (hW : 0 < W) : k = 0 := by
  rcases Int.lt_trichotomy k 0 with q | q | q
  · have : W * k ≤ W * (-1) := Int.mul_le_mul_of_nonneg_left (by omega) (by omega)
    omega
  · exact q
  · have : W * 1 ≤ W * k := Int.mul_le_mul_of_nonneg_left (by omega) (by omega)
    omega
theorem three {S W b c : Int} (hb : 1 ≤ b) (hW : b ≤ W) : ∃ α β : Int, 1 ≤ α ∧ 1 ≤ β ∧ ∀ g, Gap (fun y => (S * y + c) % W < b) g → g = α ∨ g = β ∨ g = α + β := by
  obtain ⟨α, ⟨a1, δ, kα, d0, d1, hα⟩, amin⟩ := least_of (P := fun n => 1 ≤ n ∧ ∃ d k : Int, 0 ≤ d ∧ d < b ∧ S * (n : Int) = d + W * k) ⟨W.toNat, by omega, 0, S, by omega, by omega, by rw [Int.toNat_of_nonneg (by omega), Int.zero_add, Int.mul_comm]⟩
  obtain ⟨β, ⟨b1, ε, kβ, e0, e1, hβ⟩, bmin⟩ := least_of (P := fun n => 1 ≤ n ∧ ∃ d k : Int, 0 ≤ d ∧ d < b ∧ S * (n : Int) = -d + W * k) ⟨W.toNat, by omega, 0, S, by omega, by omega, by rw [Int.toNat_of_nonneg (by omega), Int.mul_comm]; omega⟩
  refine ⟨α, β, by omega, by omega, ?_⟩
  rintro g ⟨y, hy, hF⟩
  have pos : ∀ z, (∃ x k, 0 ≤ x ∧ x < b ∧ S * z + c = x + W * k) → (S * z + c) % W < b := by
    rintro z ⟨x, k, x0, x1, e⟩
    rw [e, Int.add_mul_emod_self_left, Int.emod_eq_of_lt x0 (by omega)]; exact x1
  have neg : ∀ z, (S * z + c) % W < b → ∃ x k, 0 ≤ x ∧ x < b ∧ S * z + c = x + W * k := fun z h =>
    ⟨(S * z + c) % W, (S * z + c) / W, Int.emod_nonneg _ (by omega), h, (Int.emod_add_mul_ediv _ _).symm⟩
  obtain ⟨x, k, x0, x1, ex⟩ := neg y hy
  obtain ⟨x', k', x0', x1', ex'⟩ := neg (y + g) hF.2.1
  have g1 : 1 ≤ g := by have := hF.1; omega
  rw [Int.mul_add] at ex'
  have lim : ∀ n : Int, 1 ≤ n → (∃ x k, 0 ≤ x ∧ x < b ∧ S * (y + n) + c = x + W * k) → g ≤ n := fun n hn h => by
    have := hF.2.2 (y + n) (by omega) (pos _ h)
    omega
  obtain ⟨G, rfl⟩ : ∃ G : Nat, g = G := ⟨g.toNat, by omega⟩
  have A : x + δ < b → (G : Int) ≤ α := fun h => lim α (by omega) ⟨x + δ, k + kα, by omega, h, by rw [Int.mul_add, Int.mul_add]; omega⟩
  have B : ε ≤ x → (G : Int) ≤ β := fun h => lim β (by omega) ⟨x - ε, k + kβ, by omega, by omega, by rw [Int.mul_add, Int.mul_add]; omega⟩
  have C : b ≤ x + δ → x < ε → (G : Int) ≤ α + β := fun h1 h2 => lim (α + β) (by omega) ⟨x + δ - ε, k + (kα + kβ), by omega, by omega, by rw [Int.mul_add, Int.mul_add, Int.mul_add, Int.mul_add]; omega⟩
  have sub : ∀ m : Nat, m < G → S * ((G - m : Nat) : Int) = S * (G : Int) - S * (m : Int) := fun m h => by
    rw [← Int.mul_sub]; congr 1; omega
  by_cases c1 : x ≤ x'
  · have h1 := amin G ⟨by omega, x' - x, k' - k, by omega, by omega, by rw [Int.mul_sub]; omega⟩
    by_cases c2 : x + δ < b
    · have := A c2; left; omega
    · by_cases c3 : α = G
      · exfalso
        subst c3
        have e : W * (kα - (k' - k)) = (x' - x) - δ := by rw [Int.mul_sub, Int.mul_sub]; omega
        have := small_mul (W := W) (k := kα - (k' - k)) (b := b) (by omega) (by omega) (by omega)
        rw [this] at e
        omega
      · have h2 := bmin (G - α) ⟨by omega, δ - (x' - x), k' - k - kα, by omega, by omega, by rw [sub α (by omega), Int.mul_sub, Int.mul_sub]; omega⟩
        by_cases c4 : ε ≤ x
        · have := B c4; omega
        · have := C (by omega) (by omega); right; right; omega
  · have h1 := bmin G ⟨by omega, x - x', k' - k, by omega, by omega, by rw [Int.mul_sub]; omega⟩
    by_cases c2 : ε ≤ x
    · have := B c2; right; left; omega
    · by_cases c3 : β = G
      · exfalso
        subst c3
        have e : W * (kβ - (k' - k)) = ε - (x - x') := by rw [Int.mul_sub, Int.mul_sub]; omega
        have := small_mul (W := W) (k := kβ - (k' - k)) (b := b) (by omega) (by omega) (by omega)
        rw [this] at e
        omega
      · have h2 := amin (G - β) ⟨by omega, ε - (x - x'), k' - k - kβ, by omega, by omega, by rw [sub β (by omega), Int.mul_sub, Int.mul_sub]; omega⟩
        by_cases c4 : x + δ < b
        · have := A c4; omega
        · have := C (by omega) (by omega); right; right; omega
/-- a rising list out of three numbers -/
theorem three_list {α β : Int} (ha : 1 ≤ α) (hb : 1 ≤ β) {L : List Int} (hL : L.Pairwise (· < ·)) (hm : ∀ g ∈ L, g = α ∨ g = β ∨ g = α + β) : L.length ≤ 3 ∧ ∀ x y z, L = [x, y, z] → z = x + y := by
  match L, hL, hm with
  | [], _, _ => exact ⟨by simp, by simp⟩
  | [_], _, _ => exact ⟨by simp, by simp⟩
  | [_, _], _, _ => exact ⟨by simp, by simp⟩
  | [x, y, z], h, m =>
    refine ⟨by simp, ?_⟩
    rintro x' y' z' e
    cases e
    simp at h m
    omega
  | x :: y :: z :: w :: r, h, m =>
    exfalso
    simp at h m
    omega
end Ly
set_option Elab.async false
set_option linter.all false
set_option maxHeartbeats 4000000
/-! lands alike, and the first year that parts them -/
namespace Ly
theorem bezout : ∀ (a b : Nat), ∃ x y : Int, (a : Int) * x + (b : Int) * y = (Nat.gcd a b : Nat) := by
  intro a b
  induction a, b using Nat.gcd.induction with
  | H0 n => exact ⟨0, 1, by simp⟩
  | H1 m n hm ih =>
    obtain ⟨x, y, h⟩ := ih
    refine ⟨y - (n / m : Nat) * x, x, ?_⟩
    rw [Nat.gcd_rec m n, ← h]
    have e : (n : Int) = (n % m : Nat) + (m : Int) * (n / m : Nat) := by
      have := Nat.mod_add_div n m
      exact_mod_cast this.symm
    have e2 : (n : Int) * x = (n % m : Nat) * x + (m : Int) * ((n / m : Nat) * x) := by
      rw [← Int.mul_assoc, ← Int.add_mul, ← e]
    rw [Int.mul_sub, e2]
    omega
theorem inv_of {a b : Int} (ha : 0 ≤ a) (hb : 0 ≤ b) (h : gcdI a b = 1) : ∃ x y : Int, a * x + b * y = 1 := by
  obtain ⟨x, y, e⟩ := bezout a.toNat b.toNat
  rw [Int.toNat_of_nonneg ha, Int.toNat_of_nonneg hb] at e
  exact ⟨x, y, by rw [e]; exact h⟩
/-- the least form of a land: its numbers -/
def lfT (t b : Int) : Int := t / gcdI b t
def lfB (t b : Int) : Int := b / gcdI b t
def lfS (t b s : Int) : Int := s / gcdI b t
structure Lf (d t b s t' b' s' : Int) : Prop where
  g : ∃ g, 1 ≤ g ∧ b = g * b' ∧ t = g * t' ∧ s' = s / g
  t0 : 0 ≤ t' ∧ t' < b'
  b0 : 1 ≤ b' ∧ b' ≤ 60
  one : ∃ x y, b' * x + t' * y = 1
theorem lf_of {d t b s : Int} (h : LandOk d t b s) : Lf d t b s (lfT t b) (lfB t b) (lfS t b s) := by
  have hb := h.b
  have ht := h.t
  have g1 : 1 ≤ gcdI b t := gcdI_pos (by omega)
  have db := gcdI_dvd_l (a := b) (b := t) (by omega)
  have dt := gcdI_dvd_r (a := b) (b := t) (by omega)
  have eb : b = gcdI b t * (b / gcdI b t) := (Int.mul_ediv_cancel' db).symm
  have et : t = gcdI b t * (t / gcdI b t) := (Int.mul_ediv_cancel' dt).symm
  have gd := gcdI_div (a := b) (b := t) (by omega) (by omega)
  unfold lfT lfB lfS
  generalize hg : gcdI b t = g at *
  have t0 : 0 ≤ t / g := Int.ediv_nonneg ht.1 (by omega)
  have b0 : 0 ≤ b / g := Int.ediv_nonneg (by omega) (by omega)
  have lt : t / g < b / g := by
    rcases Int.lt_or_le (t / g) (b / g) with q | q
    · exact q
    · have : g * (b / g) ≤ g * (t / g) := Int.mul_le_mul_of_nonneg_left q (by omega)
      omega
  have le : b / g ≤ 60 := by
    have : 1 * (b / g) ≤ g * (b / g) := Int.mul_le_mul_of_nonneg_right g1 b0
    omega
  exact ⟨⟨g, g1, eb, et, rfl⟩, ⟨t0, lt⟩, ⟨by omega, le⟩, inv_of b0 t0 gd⟩
/-- a year's first day by the least form -/
theorem Lf.day {d t b s t' b' s' : Int} (L : Lf d t b s t' b' s') (y : Int) : fday d t b s y = ((d * b' + t') * y + s') / b' := by
  obtain ⟨g, g1, eb, et, es⟩ := L.g
  unfold fday
  subst eb et es
  rw [← Int.ediv_ediv_of_nonneg (by omega)]
  congr 1
  rw [show (d * (g * b') + g * t') * y + s = s + g * ((d * b' + t') * y) by
    rw [← Int.mul_assoc d, Int.mul_comm d g, Int.mul_assoc g d, ← Int.mul_add, Int.mul_assoc]; omega]
  rw [Int.add_mul_ediv_left _ _ (by omega)]
  omega
theorem Lf.step_inv {d t b s t' b' s' : Int} (L : Lf d t b s t' b' s') : ∃ x y, b' * x + (d * b' + t') * y = 1 := by
  obtain ⟨x, y, e⟩ := L.one
  refine ⟨x - d * y, y, ?_⟩
  rw [Int.mul_sub, Int.add_mul, show b' * (d * y) = d * b' * y by rw [← Int.mul_assoc, Int.mul_comm b' d]]
  omega
theorem cross {S1 b1 S2 b2 : Int} (h1 : 1 ≤ b1) (h2 : 1 ≤ b2) (i1 : ∃ x y, b1 * x + S1 * y = 1) (i2 : ∃ x y, b2 * x + S2 * y = 1) (e : S1 * b2 = S2 * b1) : b1 = b2 ∧ S1 = S2 := by
  have d1 : b1 ∣ b2 := by
    obtain ⟨x, y, q⟩ := i1
    refine ⟨b2 * x + S2 * y, ?_⟩
    have : b2 * (b1 * x + S1 * y) = b2 := by rw [q, Int.mul_one]
    refine this.symm.trans ?_
    rw [Int.mul_add, Int.mul_add, ← Int.mul_assoc, ← Int.mul_assoc, ← Int.mul_assoc, ← Int.mul_assoc, Int.mul_comm b2 S1, e, Int.mul_comm b2 b1, Int.mul_comm S2 b1]
  have d2 : b2 ∣ b1 := by
    obtain ⟨x, y, q⟩ := i2
    refine ⟨b1 * x + S1 * y, ?_⟩
    have : b1 * (b2 * x + S2 * y) = b1 := by rw [q, Int.mul_one]
    refine this.symm.trans ?_
    rw [Int.mul_add, Int.mul_add, ← Int.mul_assoc, ← Int.mul_assoc, ← Int.mul_assoc, ← Int.mul_assoc, Int.mul_comm b1 S2, ← e, Int.mul_comm b1 b2, Int.mul_comm S1 b2]
  have l1 := Int.le_of_dvd (by omega) d1
  have l2 := Int.le_of_dvd (by omega) d2
  have eb : b1 = b2 := by omega
  subst eb
  exact ⟨rfl, Int.eq_of_mul_eq_mul_right (by omega) e⟩
/-- slopes that differ part by year 7200 -/
theorem part_slope {S1 b1 s1 S2 b2 s2 : Int} (h1 : 1 ≤ b1 ∧ b1 ≤ 60) (h2 : 1 ≤ b2 ∧ b2 ≤ 60) (lt : S2 * b1 < S1 * b2) (e0 : s1 / b1 = s2 / b2) (eY : (S1 * 7200 + s1) / b1 = (S2 * 7200 + s2) / b2) : False := by
  have bb : b1 * b2 ≤ 60 * 60 := Int.mul_le_mul h1.2 h2.2 (by omega) (by omega)
  generalize hm : s1 / b1 = m at e0
  generalize hn : (S1 * 7200 + s1) / b1 = n at eY
  have a1 := Int.emod_add_mul_ediv s1 b1
  have a2 := Int.emod_add_mul_ediv s2 b2
  have a3 := Int.emod_add_mul_ediv (S1 * 7200 + s1) b1
  have a4 := Int.emod_add_mul_ediv (S2 * 7200 + s2) b2
  have r1 := Int.emod_nonneg s1 (show b1 ≠ 0 by omega)
  have r2 := Int.emod_lt_of_pos s2 (show 0 < b2 by omega)
  have r3 := Int.emod_lt_of_pos (S1 * 7200 + s1) (show 0 < b1 by omega)
  have r4 := Int.emod_nonneg (S2 * 7200 + s2) (show b2 ≠ 0 by omega)
  rw [hm] at a1
  rw [← e0] at a2
  rw [hn] at a3
  rw [← eY] at a4
  -- b2 * s1 ≥ b1 b2 m ; b1 * s2 ≤ b1 b2 m + b1 b2 - b1
  have p1 : b2 * (b1 * m) ≤ b2 * s1 := Int.mul_le_mul_of_nonneg_left (by omega) (by omega)
  have p2 : b1 * s2 ≤ b1 * (b2 * m + b2) := Int.mul_le_mul_of_nonneg_left (by omega) (by omega)
  have p3 : b2 * (S1 * 7200 + s1) ≤ b2 * (b1 * n + b1 - 1) := Int.mul_le_mul_of_nonneg_left (by omega) (by omega)
  have p4 : b1 * (b2 * n) ≤ b1 * (S2 * 7200 + s2) := Int.mul_le_mul_of_nonneg_left (by omega) (by omega)
  have q1 : b2 * (b1 * m) = b1 * (b2 * m) := by rw [← Int.mul_assoc, ← Int.mul_assoc, Int.mul_comm b2 b1]
  have q2 : b2 * (b1 * n) = b1 * (b2 * n) := by rw [← Int.mul_assoc, ← Int.mul_assoc, Int.mul_comm b2 b1]
  have q3 : b2 * b1 = b1 * b2 := Int.mul_comm ..
  have q4 : b2 * (S1 * 7200) = (S1 * b2) * 7200 := by rw [← Int.mul_assoc, Int.mul_comm b2 S1]
  have q5 : b1 * (S2 * 7200) = (S2 * b1) * 7200 := by rw [← Int.mul_assoc, Int.mul_comm b1 S2]
  rw [Int.mul_add] at p2 p4
  rw [Int.mul_add, Int.mul_sub, Int.mul_add, Int.mul_one] at p3
  omega
/-- shifts that differ part by year 59 -/
theorem part_shift {S b s1 s2 : Int} (hb : 1 ≤ b ∧ b ≤ 60) (i : ∃ x y, b * x + S * y = 1) (lt : s1 < s2) : ∃ y, 0 ≤ y ∧ y < b ∧ (S * y + s1) / b ≠ (S * y + s2) / b := by
  obtain ⟨x, u, e⟩ := i
  refine ⟨(-s2 * u) % b, Int.emod_nonneg _ (by omega), Int.emod_lt_of_pos _ (by omega), ?_⟩
  have d : b ∣ S * ((-s2 * u) % b) + s2 := by
    have h := Int.emod_add_mul_ediv (-s2 * u) b
    have h2 : (-s2 * u) % b = -s2 * u - b * ((-s2 * u) / b) := by omega
    rw [h2]
    refine ⟨s2 * x - S * ((-s2 * u) / b), ?_⟩
    have h3 : s2 * (b * x + S * u) = s2 := by rw [e, Int.mul_one]
    rw [Int.mul_sub, Int.mul_sub]
    have h4 : S * (-s2 * u) = -(s2 * (S * u)) := by
      rw [← Int.mul_assoc, Int.mul_neg, Int.neg_mul, ← Int.mul_assoc s2, Int.mul_comm S s2]
    have h5 : S * (b * (-s2 * u / b)) = b * (S * (-s2 * u / b)) := by rw [← Int.mul_assoc, ← Int.mul_assoc, Int.mul_comm S b]
    have h6 : b * (s2 * x) = s2 * (b * x) := by rw [← Int.mul_assoc, ← Int.mul_assoc, Int.mul_comm b s2]
    rw [Int.mul_add] at h3
    omega
  generalize S * ((-s2 * u) % b) = A at d ⊢
  obtain ⟨k, hk⟩ := d
  have e2 : (A + s2) / b = k := by rw [hk, Int.mul_ediv_cancel_left _ (by omega)]
  have e1 : (A + s1) / b < k := by
    rw [Int.ediv_lt_iff_lt_mul (by omega), Int.mul_comm k b]
    omega
  omega
theorem parted {d t b s d2 t2 b2 s2 : Int} (h : LandOk d t b s) (h2 : LandOk d2 t2 b2 s2) (ne : ¬ (d = d2 ∧ lfT t b = lfT t2 b2 ∧ lfB t b = lfB t2 b2 ∧ lfS t b s = lfS t2 b2 s2)) :
    ∃ y, 0 ≤ y ∧ y ≤ 7200 ∧ fday d t b s y ≠ fday d2 t2 b2 s2 y := by
  have L := lf_of h
  have L2 := lf_of h2
  have i1 := L.step_inv
  have i2 := L2.step_inv
  generalize lfT t b = T1 at *
  generalize lfB t b = B1 at *
  generalize lfS t b s = S1 at *
  generalize lfT t2 b2 = T2 at *
  generalize lfB t2 b2 = B2 at *
  generalize lfS t2 b2 s2 = S2 at *
  by_cases c0 : fday d t b s 0 = fday d2 t2 b2 s2 0
  · by_cases cY : fday d t b s 7200 = fday d2 t2 b2 s2 7200
    · rw [L.day, L2.day, Int.mul_zero, Int.mul_zero, Int.zero_add, Int.zero_add] at c0
      rw [L.day, L2.day] at cY
      rcases Int.lt_trichotomy ((d * B1 + T1) * B2) ((d2 * B2 + T2) * B1) with q | q | q
      · exact (part_slope L2.b0 L.b0 q c0.symm cY.symm).elim
      · obtain ⟨eb, es⟩ := cross L.b0.1 L2.b0.1 i1 i2 q
        subst eb
        have t1 := L.t0
        have t2' := L2.t0
        have bp := L.b0
        have ed : d = d2 := by
          have z1 : (d * B1 + T1) / B1 = d := by rw [Int.add_comm, Int.add_mul_ediv_right _ _ (by omega), Int.ediv_eq_zero_of_lt t1.1 t1.2]; omega
          have z2 : (d2 * B1 + T2) / B1 = d2 := by rw [Int.add_comm, Int.add_mul_ediv_right _ _ (by omega), Int.ediv_eq_zero_of_lt t2'.1 t2'.2]; omega
          rw [← z1, ← z2, es]
        subst ed
        have et : T1 = T2 := by omega
        subst et
        have nS : S1 ≠ S2 := fun z => ne ⟨rfl, rfl, rfl, z⟩
        rcases Int.lt_or_lt_of_ne nS with w | w
        · obtain ⟨y, y0, y1, hy⟩ := part_shift L.b0 i1 w
          exact ⟨y, y0, by omega, by rw [L.day, L2.day]; exact hy⟩
        · obtain ⟨y, y0, y1, hy⟩ := part_shift L.b0 i1 w
          exact ⟨y, y0, by omega, by rw [L.day, L2.day]; exact fun z => hy z.symm⟩
      · exact (part_slope L.b0 L2.b0 q c0 cY).elim
    · exact ⟨7200, by decide, by decide, cY⟩
  · exact ⟨0, by decide, by decide, c0⟩
theorem alike_all {d t b s d2 t2 b2 s2 : Int} (h : LandOk d t b s) (h2 : LandOk d2 t2 b2 s2) (e : d = d2 ∧ lfT t b = lfT t2 b2 ∧ lfB t b = lfB t2 b2 ∧ lfS t b s = lfS t2 b2 s2) (y : Int) : fday d t b s y = fday d2 t2 b2 s2 y := by
  rw [(lf_of h).day, (lf_of h2).day, e.1, e.2.1, e.2.2.1, e.2.2.2]
end Ly
set_option Elab.async false
set_option linter.all false
set_option maxHeartbeats 4000000
/-! rounds of years: plain mathematics -/
namespace Ly
/-- behind how many years all comes again -/
def turnOf (d t b wk : Int) : Int := wk * b / gcdI (d * b + t) (wk * b)
theorem turn_facts {d t b s wk : Int} (h : LandOk d t b s) (hw : 1 ≤ wk ∧ wk ≤ 20) : 1 ≤ turnOf d t b wk ∧ turnOf d t b wk ≤ 1200 ∧ ∃ g r, 1 ≤ g ∧ d * b + t = g * r ∧ wk * b = g * turnOf d t b wk := by
  have hbb := h.b
  have hst := step_pos h
  have wb : 1 * 1 ≤ wk * b := Int.mul_le_mul hw.1 hbb.1 (by decide) (by omega)
  have wb2 : wk * b ≤ 20 * 60 := Int.mul_le_mul hw.2 hbb.2 (by omega) (by omega)
  have g1 : 1 ≤ gcdI (d * b + t) (wk * b) := gcdI_pos (by omega)
  have gS := gcdI_dvd_l (a := d * b + t) (b := wk * b) (by omega)
  have gW := gcdI_dvd_r (a := d * b + t) (b := wk * b) (by omega)
  unfold turnOf
  generalize gcdI (d * b + t) (wk * b) = g at g1 gS gW ⊢
  have e := (Int.mul_ediv_cancel' gW).symm
  refine ⟨?_, (ediv_abs g1 (B := 1200) (by omega) (by omega) (by omega)).2, g, (d * b + t) / g, g1, (Int.mul_ediv_cancel' gS).symm, e⟩
  rcases Int.lt_or_le (wk * b / g) 1 with z | z
  · have : g * (wk * b / g) ≤ g * 0 := Int.mul_le_mul_of_nonneg_left (by omega) (by omega)
    omega
  · exact z
theorem per_has {d t b s pl wk nm : Int} (h : LandOk d t b s) (hw : 1 ≤ wk ∧ wk ≤ 20) : Per (has d t b s pl wk nm) (turnOf d t b wk) := fun z k => by
  obtain ⟨_, _, g, r, g1, eS, eW⟩ := turn_facts h hw
  have hb := h.b
  unfold has fday
  have e : (d * b + t) * (z + turnOf d t b wk * k) + s = (d * b + t) * z + s + b * (wk * (r * k)) := by
    have e1 : (d * b + t) * (turnOf d t b wk * k) = b * (wk * (r * k)) := by
      rw [eS, show g * r * (turnOf d t b wk * k) = (g * turnOf d t b wk) * (r * k) by
        rw [Int.mul_assoc, Int.mul_assoc, ← Int.mul_assoc r, Int.mul_comm r, Int.mul_assoc]]
      rw [← eW, Int.mul_comm wk b, Int.mul_assoc]
    rw [Int.mul_add, e1]; omega
  rw [e, Int.add_mul_ediv_left _ _ (by omega), show ((d * b + t) * z + s) / b + wk * (r * k) + pl = ((d * b + t) * z + s) / b + pl + wk * (r * k) by omega, Int.add_mul_emod_self_left]
abbrev hasB (d t b s pl wk nm : Int) : Int → Bool := fun x => decide (has d t b s pl wk nm x)
theorem per_hasB {d t b s pl wk nm : Int} (h : LandOk d t b s) (hw : 1 ≤ wk ∧ wk ≤ 20) : Per (fun z => hasB d t b s pl wk nm z = true) (turnOf d t b wk) := fun z k => by
  have := per_has (pl := pl) (nm := nm) h hw z k
  simp only [decide_eq_true_iff]
  exact this
theorem rnd_has {d t b s pl wk nm : Int} (h : LandOk d t b s) (hw : 1 ≤ wk ∧ wk ≤ 20) (a : Int) : Rnd (has d t b s pl wk nm) a (turnOf d t b wk) (flt (hasB d t b s pl wk nm) a (turnOf d t b wk).toNat) :=
  ⟨per_has h hw, (turn_facts h hw).1, flt_inc, fun z => by
    have := (turn_facts h hw).1
    rw [mem_flt, decide_eq_true_iff]
    constructor <;> rintro ⟨x, y, q⟩ <;> exact ⟨x, by omega, q⟩⟩
theorem Rnd.fst {p : Int → Prop} {a T m : Int} {zs r : List Int} (R : Rnd p a T zs) (e : zs = m :: r) : Fst p a m := by
  subst e
  have h := (R.mem m).mp (List.mem_cons_self ..)
  refine ⟨h.1, h.2.2, fun z hz pz => ?_⟩
  by_cases c : z < a + T
  · rcases List.mem_cons.mp ((R.mem z).mpr ⟨hz, c, pz⟩) with e | e
    · omega
    · have := (List.pairwise_cons.mp R.inc).1 z e; omega
  · omega
theorem flt_ge {p : Int → Bool} {a k : Int} {n : Nat} (h0 : 0 ≤ k) (h1 : k ≤ n) : (flt p a n).filter (fun z => decide (z ≥ a + k)) = flt p (a + k) ((n : Int) - k).toNat := by
  refine pw_ext (flt_inc.filter _) flt_inc fun z => ?_
  rw [List.mem_filter, mem_flt, mem_flt, decide_eq_true_iff]
  constructor
  · rintro ⟨⟨x, y, q⟩, w⟩
    exact ⟨w, by omega, q⟩
  · rintro ⟨x, y, q⟩
    exact ⟨⟨by omega, by omega, q⟩, x⟩
theorem rnd_later {p : Int → Bool} {a T k m : Int} {r : List Int} (h : Per (fun z => p z = true) T) (hT : 1 ≤ T) (h0 : 0 ≤ k) (h1 : k ≤ T) (e : flt p (a + k) (T - k).toNat = []) (e2 : flt p a T.toNat = m :: r) : Fst (fun z => p z = true) (a + k) (m + T) := by
  have R := Rnd.flt (a := a) h hT
  have F := R.fst e2
  have hm := (R.mem m).mp (by rw [e2]; exact List.mem_cons_self ..)
  refine ⟨by omega, (h.add m).mpr hm.2.2, fun z hz pz => ?_⟩
  by_cases c : z < a + T
  · have : z ∈ flt p (a + k) (T - k).toNat := mem_flt.mpr ⟨hz, by omega, pz⟩
    rw [e] at this; exact absurd this (by simp)
  · have := F.2.2 (z - T) (by omega) ((h.add _).mp (by rw [Int.sub_add_cancel]; exact pz))
    omega
theorem csum_turns {T a k : Int} (hT : 1 ≤ T) : ∀ rs : List Int, csum rs T a (a + T * k) = k * rs.length
  | [] => by simp [csum]
  | r :: rs => by
    have ih := csum_turns (a := a) (k := k) hT rs
    unfold csum at ih ⊢
    rw [List.map_cons, List.sum_cons, ih, show a + T * k - 1 - r = a - 1 - r + T * k by omega, Int.add_mul_ediv_left _ _ (by omega), List.length_cons]
    have : k * ((rs.length + 1 : Nat) : Int) = k * (rs.length : Int) + k := by rw [show ((rs.length + 1 : Nat) : Int) = (rs.length : Int) + 1 by omega, Int.mul_add, Int.mul_one]
    omega
theorem cnt_turns {rs : List Int} {T a k : Int} (hT : 1 ≤ T) (hk : 0 ≤ k) (hr : ∀ r ∈ rs, 0 ≤ r ∧ r < T) (nd : rs.Nodup) : cnt (fun z => decide (z % T ∈ rs)) a (T * k).toNat = k * rs.length := by
  have h0 : 0 ≤ T * k := Int.mul_nonneg (by omega) hk
  rw [← csum_cnt hT hr nd, show ((T * k).toNat : Int) = T * k by omega]
  exact csum_turns hT rs
theorem yso_ex {d t b s pl wk nm : Int} (h : LandOk d t b s) (hw : 1 ≤ wk ∧ wk ≤ 20) (hn : 0 ≤ nm ∧ nm < wk) : ∃ ys, Yso d t b s pl wk nm ys (turnOf d t b wk) := by
  have hbb := h.b
  have hst := step_pos h
  have wb : 1 * 1 ≤ wk * b := Int.mul_le_mul hw.1 hbb.1 (by decide) (by omega)
  have gd := gcdI_div (a := d * b + t) (b := wk * b) (by omega) (by omega)
  have g1 : 1 ≤ gcdI (d * b + t) (wk * b) := gcdI_pos (by omega)
  obtain ⟨x, y, e⟩ := inv_of (Int.ediv_nonneg (by omega) (by omega)) (Int.ediv_nonneg (by omega) (by omega)) gd
  refine ⟨(fnd b s pl nm (gcdI (d * b + t) (wk * b)) x (wk * b / gcdI (d * b + t) (wk * b)) b.toNat).mergeSort (fun a b => decide (a ≤ b)), yso_of h hw.1 hn.1 hn.2 rfl rfl (bk := x) ⟨-y, ?_⟩ (List.mergeSort_perm _ _) ?_⟩
  · rw [Int.mul_neg]; omega
  · refine (List.pairwise_mergeSort (le := fun a b => decide (a ≤ b)) (fun a b c h1 h2 => ?_) (fun a b => ?_) _).imp fun h => of_decide_eq_true h
    · exact decide_eq_true (by have := of_decide_eq_true h1; have := of_decide_eq_true h2; omega)
    · rw [Bool.or_eq_true, decide_eq_true_iff, decide_eq_true_iff]; omega
theorem flt_has_len {d t b s pl wk nm : Int} (h : LandOk d t b s) (hw : 1 ≤ wk ∧ wk ≤ 20) (hn : 0 ≤ nm ∧ nm < wk) (a : Int) : (flt (hasB d t b s pl wk nm) a (turnOf d t b wk).toNat).length ≤ 60 := by
  obtain ⟨ys, Y⟩ := yso_ex (pl := pl) h hw hn
  have tp := Y.tpos
  have e := cnt_flt (p := hasB d t b s pl wk nm) (a := a) (n := (turnOf d t b wk).toNat)
  rw [cnt_congr (q := fun z => decide (z % turnOf d t b wk ∈ ys)) fun x _ _ => decide_eq_decide.mpr (Y.good x)] at e
  have e2 := cnt_turns (a := a) (k := 1) tp (by decide) Y.rng (Y.inc.imp fun h => by omega)
  rw [Int.mul_one] at e2
  have := Y.len
  omega
end Ly
set_option Elab.async false
set_option linter.all false
set_option maxHeartbeats 4000000
/-! measures that bar; all days of the week together; three lengths -/
namespace Ly
theorem sum_add {α : Type} : ∀ (ls : List α) (f g h : α → Int), (∀ r ∈ ls, f r = g r + h r) → (ls.map f).sum = (ls.map g).sum + (ls.map h).sum
  | [], f, g, h, _ => rfl
  | x :: ls, f, g, h, q => by
    rw [List.map_cons, List.map_cons, List.map_cons, List.sum_cons, List.sum_cons, List.sum_cons, sum_add ls f g h fun r m => q r (List.mem_cons_of_mem _ m), q x (List.mem_cons_self ..)]
    omega
theorem sum_one {m : Int} : ∀ {n : Nat}, 0 ≤ m → ((List.range n).map fun k : Nat => if m = (k : Int) then (1 : Int) else 0).sum = if m < n then 1 else 0
  | 0, h => by rw [if_neg (by omega)]; rfl
  | n + 1, h => by
    rw [List.range_succ, List.map_append, List.sum_append, sum_one h]
    simp only [List.map_cons, List.map_nil, List.sum_cons, List.sum_nil]
    by_cases e : m < (n : Int)
    · rw [if_pos e, if_neg (by omega), if_pos (by omega)]; rfl
    · by_cases e2 : m = (n : Int)
      · rw [if_neg e, if_pos e2, if_pos (by omega)]; rfl
      · rw [if_neg e, if_neg e2, if_neg (by omega)]; rfl
/-- all days of the week together have all years -/
theorem cnt_week {d t b s pl wk a : Int} (hw : 1 ≤ wk) : ∀ n : Nat, ((List.range wk.toNat).map fun k : Nat => cnt (hasB d t b s pl wk (k : Int)) a n).sum = n
  | 0 => by
    have : (List.range wk.toNat).map (fun k : Nat => cnt (hasB d t b s pl wk (k : Int)) a 0) = (List.range wk.toNat).map (fun _ => (0 : Int)) := rfl
    rw [this]
    generalize List.range wk.toNat = ls
    induction ls with
    | nil => rfl
    | cons x ls ih => rw [List.map_cons, List.sum_cons, ih]; rfl
  | n + 1 => by
    have m0 := Int.emod_nonneg (fday d t b s (a + n) + pl) (show wk ≠ 0 by omega)
    have m1 := Int.emod_lt_of_pos (fday d t b s (a + n) + pl) (show 0 < wk by omega)
    rw [sum_add _ _ (fun k : Nat => cnt (hasB d t b s pl wk (k : Int)) a n) (fun k : Nat => if (fday d t b s (a + n) + pl) % wk = (k : Int) then (1 : Int) else 0) fun r _ => ?_, cnt_week hw n, sum_one m0, if_pos (by omega)]
    · omega
    · show cnt _ a n + (if hasB d t b s pl wk (r : Int) (a + n) = true then 1 else 0) = _
      congr 1
      by_cases c : (fday d t b s (a + n) + pl) % wk = (r : Int)
      · rw [if_pos c, if_pos (show hasB d t b s pl wk (r : Int) (a + n) = true from decide_eq_true c)]
      · rw [if_neg c, if_neg (show ¬ hasB d t b s pl wk (r : Int) (a + n) = true from fun z => c (of_decide_eq_true z))]
/-- i is a measure that bars -/
def BarI (d t b s pl wk nm i : Int) : Prop := 1 ≤ i ∧ i ∣ d * b + t ∧ i ∣ wk * b ∧ ∀ j, 0 ≤ j → j < b → (nm * b + j) % i ≠ (s + pl * b) % i
theorem bar_none {d t b s pl wk nm i : Int} (h : LandOk d t b s) (hw : 1 ≤ wk ∧ wk ≤ 20) (hn : 0 ≤ nm ∧ nm < wk) (B : BarI d t b s pl wk nm i) (y : Int) : ¬ has d t b s pl wk nm y := by
  intro hy
  obtain ⟨j, j0, j1, hd⟩ := (has_iff h hw.1 hn.1 hn.2 y).mp hy
  refine B.2.2.2 j j0 j1 ?_
  rw [modeq]
  have h1 : i ∣ (d * b + t) * y := Int.dvd_trans B.2.1 ⟨y, rfl⟩
  have h2 := Int.dvd_trans B.2.2.1 hd
  have h3 := Int.dvd_sub h1 h2
  rwa [show (d * b + t) * y - ((d * b + t) * y - (nm * b + j - s - pl * b)) = nm * b + j - (s + pl * b) by omega] at h3
theorem bar_gcd {d t b s pl wk nm : Int} (h : LandOk d t b s) (hw : 1 ≤ wk ∧ wk ≤ 20) (hn : 0 ≤ nm ∧ nm < wk) (hno : ∀ y, ¬ has d t b s pl wk nm y) : BarI d t b s pl wk nm (gcdI (d * b + t) (wk * b)) := by
  have hbb := h.b
  have hst := step_pos h
  have wb : 1 * 1 ≤ wk * b := Int.mul_le_mul hw.1 hbb.1 (by decide) (by omega)
  have g1 : 1 ≤ gcdI (d * b + t) (wk * b) := gcdI_pos (by omega)
  have gS := gcdI_dvd_l (a := d * b + t) (b := wk * b) (by omega)
  have gW := gcdI_dvd_r (a := d * b + t) (b := wk * b) (by omega)
  have gd := gcdI_div (a := d * b + t) (b := wk * b) (by omega) (by omega)
  obtain ⟨x, y, e⟩ := inv_of (Int.ediv_nonneg (by omega) (by omega)) (Int.ediv_nonneg (by omega) (by omega)) gd
  refine ⟨g1, gS, gW, fun j j0 j1 ej => ?_⟩
  rw [modeq] at ej
  generalize gcdI (d * b + t) (wk * b) = g at g1 gS gW gd e ej
  have eS := (Int.mul_ediv_cancel' gS).symm
  have eW := (Int.mul_ediv_cancel' gW).symm
  have ej2 : g ∣ nm * b + j - s - pl * b := by rwa [show nm * b + j - s - pl * b = nm * b + j - (s + pl * b) by omega]
  have T1 : 1 ≤ wk * b / g := by
    rcases Int.lt_or_le (wk * b / g) 1 with z | z
    · have : g * (wk * b / g) ≤ g * 0 := Int.mul_le_mul_of_nonneg_left (by omega) (by omega)
      omega
    · exact z
  have := (solve (S := d * b + t) (W := wk * b) (g := g) (T := wk * b / g) (r := (d * b + t) / g) (bk := x) (by omega) eS eW ⟨-y, by rw [Int.mul_neg]; omega⟩ ((nm * b + j - s - pl * b) / g * x % (wk * b / g)) (nm * b + j - s - pl * b)).mpr ⟨ej2, by rw [Int.emod_emod_of_dvd _ (Int.dvd_refl _)]⟩
  exact hno _ ((has_iff h hw.1 hn.1 hn.2 _).mpr ⟨j, j0, j1, this⟩)
/-- the years with a day on a day of the week are those of an interval -/
theorem has_int {d t b s pl wk nm : Int} (h : LandOk d t b s) (hw : 1 ≤ wk) (hn : 0 ≤ nm ∧ nm < wk) (y : Int) : has d t b s pl wk nm y ↔ ((d * b + t) * y + (s + pl * b - nm * b)) % (wk * b) < b := by
  have hbb := h.b
  have wb : 1 * b ≤ wk * b := Int.mul_le_mul_of_nonneg_right hw (by omega)
  rw [has_iff h hw hn.1 hn.2]
  constructor
  · rintro ⟨j, j0, j1, k, hk⟩
    rw [show (d * b + t) * y + (s + pl * b - nm * b) = j + wk * b * k by omega, Int.add_mul_emod_self_left, Int.emod_eq_of_lt j0 (by omega)]
    exact j1
  · intro hh
    have e := Int.emod_add_mul_ediv ((d * b + t) * y + (s + pl * b - nm * b)) (wk * b)
    exact ⟨_, Int.emod_nonneg _ (by omega), hh, ((d * b + t) * y + (s + pl * b - nm * b)) / (wk * b), by omega⟩
theorem three_has {d t b s pl wk nm : Int} (h : LandOk d t b s) (hw : 1 ≤ wk ∧ wk ≤ 20) (hn : 0 ≤ nm ∧ nm < wk) {L : List Int} (hL : L.Pairwise (· < ·)) (hm : ∀ g, g ∈ L ↔ Gap (has d t b s pl wk nm) g) : L.length ≤ 3 ∧ ∀ x y z, L = [x, y, z] → z = x + y := by
  have hbb := h.b
  have wb : 1 * b ≤ wk * b := Int.mul_le_mul_of_nonneg_right hw.1 (by omega)
  obtain ⟨α, β, a1, b1, ht⟩ := three (S := d * b + t) (W := wk * b) (b := b) (c := s + pl * b - nm * b) hbb.1 (by omega)
  refine three_list a1 b1 hL fun g hg => ht g ?_
  rw [← Gap.congr (fun y => has_int h hw.1 hn y)]
  exact (hm g).mp hg
theorem gaps_nil {d t b s pl wk nm : Int} (h : LandOk d t b s) (hw : 1 ≤ wk ∧ wk ≤ 20) {L : List Int} (hm : ∀ g, g ∈ L ↔ Gap (has d t b s pl wk nm) g) : L = [] ↔ ∀ y, ¬ has d t b s pl wk nm y := by
  have R := rnd_has (pl := pl) (nm := nm) h hw 0
  constructor
  · intro e y hy
    have hne : flt (hasB d t b s pl wk nm) (y + 1) (turnOf d t b wk).toNat ≠ [] := fun z => (rnd_has (pl := pl) (nm := nm) h hw (y + 1)).ne.mp z y hy
    cases hf : flt (hasB d t b s pl wk nm) (y + 1) (turnOf d t b wk).toNat with
    | nil => exact hne hf
    | cons m r =>
      have F := (rnd_has (pl := pl) (nm := nm) h hw (y + 1)).fst hf
      have : m - y ∈ L := (hm _).mpr ⟨y, hy, by rw [show y + (m - y) = m by omega]; exact F⟩
      rw [e] at this; exact absurd this (by simp)
  · intro hno
    cases L with
    | nil => rfl
    | cons g L =>
      obtain ⟨y, hy, _⟩ := (hm g).mp (List.mem_cons_self ..)
      exact absurd hy (hno y)
end Ly
set_option Elab.async false
set_option linter.all false
set_option maxHeartbeats 4000000
/-! two lands: days with two places -/
namespace Ly
/-- the day z has the place pl -/
def At (d t b s pl z : Int) : Prop := ∃ y, z = fday d t b s y + pl
theorem fday_turns {d t b s : Int} (h : LandOk d t b s) (y m : Int) : fday d t b s (y + b * m) = fday d t b s y + (d * b + t) * m := by
  have hb := h.b
  unfold fday
  have e : (d * b + t) * (y + b * m) + s = ((d * b + t) * y + s) + b * ((d * b + t) * m) := by
    rw [Int.mul_add, ← Int.mul_assoc (d * b + t) b m, Int.mul_comm (d * b + t) b, Int.mul_assoc b]; omega
  rw [e, Int.add_mul_ediv_left _ _ (by omega)]
theorem fday_mono {d t b s : Int} (h : LandOk d t b s) (y : Int) : ∀ n : Nat, fday d t b s y + n ≤ fday d t b s (y + n)
  | 0 => by simp
  | n + 1 => by
    have := fday_mono h y n
    have h2 := fday_lt h (y + n)
    rw [show y + ((n + 1 : Nat) : Int) = y + n + 1 by omega]
    omega
theorem fday_le {d t b s : Int} (h : LandOk d t b s) {y z : Int} (hz : y ≤ z) : fday d t b s y + (z - y) ≤ fday d t b s z := by
  have := fday_mono h y (z - y).toNat
  rw [show y + ((z - y).toNat : Int) = z by omega] at this
  omega
/-- what days with a place leave by the step, year by year -/
def dso (d t b s pl : Int) : List Int := (List.range b.toNat).map fun k : Nat => (fday d t b s (k : Int) + pl) % (d * b + t)
theorem dso_len {d t b s pl : Int} : (dso d t b s pl).length = b.toNat := by unfold dso; rw [List.length_map, List.length_range]
theorem mem_dso {d t b s pl u : Int} : u ∈ dso d t b s pl ↔ ∃ k : Int, 0 ≤ k ∧ k < b ∧ u = (fday d t b s k + pl) % (d * b + t) := by
  unfold dso
  rw [List.mem_map]
  constructor
  · rintro ⟨k, hk, rfl⟩
    rw [List.mem_range] at hk
    exact ⟨k, by omega, by omega, rfl⟩
  · rintro ⟨k, k0, k1, rfl⟩
    exact ⟨k.toNat, List.mem_range.mpr (by omega), by rw [show ((k.toNat : Nat) : Int) = k by omega]⟩
theorem at_dso {d t b s pl : Int} (h : LandOk d t b s) (z : Int) : At d t b s pl z ↔ z % (d * b + t) ∈ dso d t b s pl := by
  have hb := h.b
  have hp := step_pos h
  rw [mem_dso]
  constructor
  · rintro ⟨y, rfl⟩
    have h1 := Int.emod_add_mul_ediv y b
    refine ⟨y % b, Int.emod_nonneg _ (by omega), Int.emod_lt_of_pos _ (by omega), ?_⟩
    have e := fday_turns h (y % b) (y / b)
    rw [h1] at e
    rw [e, show fday d t b s (y % b) + (d * b + t) * (y / b) + pl = fday d t b s (y % b) + pl + (d * b + t) * (y / b) by omega, Int.add_mul_emod_self_left]
  · rintro ⟨k, k0, k1, e⟩
    rw [modeq] at e
    obtain ⟨m, hm⟩ := e
    refine ⟨k + b * m, ?_⟩
    rw [fday_turns h]
    omega
theorem dso_rng {d t b s pl : Int} (h : LandOk d t b s) : ∀ u ∈ dso d t b s pl, 0 ≤ u ∧ u < d * b + t := fun u hu => by
  have hp := step_pos h
  obtain ⟨k, _, _, rfl⟩ := mem_dso.mp hu
  exact ⟨Int.emod_nonneg _ (by omega), Int.emod_lt_of_pos _ (by omega)⟩
theorem dso_nodup {d t b s pl : Int} (h : LandOk d t b s) : (dso d t b s pl).Nodup := by
  have hp := step_pos h
  have hb := h.b
  unfold dso
  rw [List.nodup_iff_pairwise_ne, List.pairwise_map]
  refine (List.pairwise_lt_range (n := b.toNat)).imp_of_mem ?_
  intro i j hi hj hij e
  rw [List.mem_range] at hi hj
  rw [modeq] at e
  have h1 := fday_le h (y := (i : Int)) (z := (j : Int)) (by omega)
  have h2 := fday_le h (y := (j : Int)) (z := (i : Int) + b) (by omega)
  rw [fday_round h] at h2
  have h3 : (d * b + t) ∣ (fday d t b s j + pl) - (fday d t b s i + pl) := by
    have := Int.dvd_neg.mpr e
    rwa [Int.neg_sub] at this
  have h4 := Int.le_of_dvd (by omega) h3
  omega
/-- days with both places -/
def Both (d t b s pl d2 t2 b2 s2 pl2 z : Int) : Prop := At d t b s pl z ∧ At d2 t2 b2 s2 pl2 z
/-- no day of the one leaves by i what one of the other does -/
def PrtI (d t b s pl d2 t2 b2 s2 pl2 i : Int) : Prop := ∀ k k2, 0 ≤ k → k < b → 0 ≤ k2 → k2 < b2 → (fday d t b s k + pl) % i ≠ (fday d2 t2 b2 s2 k2 + pl2) % i
theorem prt_dso {d t b s pl d2 t2 b2 s2 pl2 i : Int} (h1 : i ∣ d * b + t) (h2 : i ∣ d2 * b2 + t2) :
    PrtI d t b s pl d2 t2 b2 s2 pl2 i ↔ ∀ u ∈ dso d t b s pl, ∀ v ∈ dso d2 t2 b2 s2 pl2, u % i ≠ v % i := by
  constructor
  · intro h u hu v hv
    obtain ⟨k, k0, k1, rfl⟩ := mem_dso.mp hu
    obtain ⟨k2, k20, k21, rfl⟩ := mem_dso.mp hv
    rw [Int.emod_emod_of_dvd _ h1, Int.emod_emod_of_dvd _ h2]
    exact h k k2 k0 k1 k20 k21
  · intro h k k2 k0 k1 k20 k21
    have := h _ (mem_dso.mpr ⟨k, k0, k1, rfl⟩) _ (mem_dso.mpr ⟨k2, k20, k21, rfl⟩)
    rwa [Int.emod_emod_of_dvd _ h1, Int.emod_emod_of_dvd _ h2] at this
/-- the days found, one for each pair that fits -/
def sol (S g bk turn u v : Int) : Int := u + S * ((v - u) / g * bk % turn)
def cfnd (S g bk turn : Int) (us vs : List Int) : List Int := us.flatMap fun u => (vs.filter fun v => decide (v % g = u % g)).map (sol S g bk turn u)
structure Cmn (d t b s pl d2 t2 b2 s2 pl2 : Int) (rs : List Int) (T : Int) : Prop where
  tpos : 1 ≤ T ∧ T < 1000000000
  teq : T = (d * b + t) * ((d2 * b2 + t2) / gcdI (d * b + t) (d2 * b2 + t2))
  rng : ∀ r ∈ rs, 0 ≤ r ∧ r < T
  nodup : rs.Nodup
  good : ∀ z, Both d t b s pl d2 t2 b2 s2 pl2 z ↔ z % T ∈ rs
  len : rs.length ≤ 3600
theorem flat_len {us : List Int} {f : Int → List Int} {m : Nat} (h : ∀ u ∈ us, (f u).length ≤ m) : (us.flatMap f).length ≤ us.length * m := by
  induction us with
  | nil => simp
  | cons u us ih =>
    rw [List.flatMap_cons, List.length_append, List.length_cons, Nat.add_mul, Nat.one_mul]
    have h1 := ih fun x hx => h x (List.mem_cons_of_mem _ hx)
    have h2 := h u (List.mem_cons_self ..)
    omega
theorem cmn_of {d t b s pl d2 t2 b2 s2 pl2 g bk turn : Int} (h : LandOk d t b s) (h2 : LandOk d2 t2 b2 s2) (hg : g = gcdI (d * b + t) (d2 * b2 + t2)) (hT : turn = (d2 * b2 + t2) / g) (hb : turn ∣ (d * b + t) / g * bk - 1) :
    Cmn d t b s pl d2 t2 b2 s2 pl2 (cfnd (d * b + t) g bk turn (dso d t b s pl) (dso d2 t2 b2 s2 pl2)) ((d * b + t) * turn) := by
  have hp := step_pos h
  have hp2 := step_pos h2
  have g1 : 1 ≤ g := by rw [hg]; exact gcdI_pos (by omega)
  have eS : d * b + t = g * ((d * b + t) / g) := by
    have := gcdI_dvd_l (a := d * b + t) (b := d2 * b2 + t2) (by omega)
    rw [← hg] at this
    exact (Int.mul_ediv_cancel' this).symm
  have eW : d2 * b2 + t2 = g * turn := by
    have := gcdI_dvd_r (a := d * b + t) (b := d2 * b2 + t2) (by omega)
    rw [← hg] at this
    rw [hT]
    exact (Int.mul_ediv_cancel' this).symm
  have rU := dso_rng (pl := pl) h
  have rV := dso_rng (pl := pl2) h2
  have nU := dso_nodup (pl := pl) h
  have nV := dso_nodup (pl := pl2) h2
  have aU := at_dso (pl := pl) h
  have aV := at_dso (pl := pl2) h2
  have lU := dso_len (d := d) (t := t) (b := b) (s := s) (pl := pl)
  have lV := dso_len (d := d2) (t := t2) (b := b2) (s := s2) (pl := pl2)
  have hbb := h.b
  have hbb2 := h2.b
  have teq : turn = (d2 * b2 + t2) / gcdI (d * b + t) (d2 * b2 + t2) := by rw [hT, hg]
  generalize dso d t b s pl = us at rU nU aU lU ⊢
  generalize dso d2 t2 b2 s2 pl2 = vs at rV nV aV lV ⊢
  rw [show (d * b + t) * turn = (d * b + t) * ((d2 * b2 + t2) / gcdI (d * b + t) (d2 * b2 + t2)) by rw [← teq]]
  rw [← teq]
  have T1 : 1 ≤ turn := by
    rcases Int.lt_or_le turn 1 with z | z
    · have : g * turn ≤ g * 0 := Int.mul_le_mul_of_nonneg_left (by omega) (by omega)
      omega
    · exact z
  have T2 : turn ≤ 24060 := by
    have : 1 * turn ≤ g * turn := Int.mul_le_mul_of_nonneg_right g1 (by omega)
    omega
  generalize hS : d * b + t = S at *
  generalize hW : d2 * b2 + t2 = W at *
  have solv := fun (k aw : Int) => solve (S := S) (W := W) (g := g) (T := turn) (by omega) eS eW hb k aw
  have ST1 : 1 * 1 ≤ S * turn := Int.mul_le_mul hp.1 T1 (by decide) (by omega)
  have ST2 : S * turn ≤ 24060 * 24060 := Int.mul_le_mul hp.2 T2 (by omega) (by decide)
  -- what sol leaves
  have s0 : ∀ u v, u ∈ us → 0 ≤ sol S g bk turn u v ∧ sol S g bk turn u v < S * turn := fun u v hu => by
    have r := rU u hu
    unfold sol
    have m0 := Int.emod_nonneg ((v - u) / g * bk) (show turn ≠ 0 by omega)
    have m1 := Int.emod_lt_of_pos ((v - u) / g * bk) (show 0 < turn by omega)
    generalize (v - u) / g * bk % turn = k at m0 m1 ⊢
    have a1 : 0 ≤ S * k := Int.mul_nonneg (by omega) m0
    have a2 : S * k ≤ S * (turn - 1) := Int.mul_le_mul_of_nonneg_left (by omega) (by omega)
    rw [Int.mul_sub, Int.mul_one] at a2
    omega
  have s1 : ∀ u v, u ∈ us → sol S g bk turn u v % S = u := fun u v hu => by
    have r := rU u hu
    unfold sol
    rw [Int.add_mul_emod_self_left, Int.emod_eq_of_lt r.1 r.2]
  have s2' : ∀ u v, v ∈ vs → v % g = u % g → sol S g bk turn u v % W = v := fun u v hv e => by
    have r := rV v hv
    have hd : g ∣ v - u := modeq.mp e
    have h5 := (solv ((v - u) / g * bk % turn) (v - u)).mpr ⟨hd, by rw [Int.emod_emod_of_dvd _ (Int.dvd_refl _)]⟩
    unfold sol
    have : (u + S * ((v - u) / g * bk % turn)) % W = v % W := by
      rw [modeq]
      rwa [show u + S * ((v - u) / g * bk % turn) - v = S * ((v - u) / g * bk % turn) - (v - u) by omega]
    rw [this, Int.emod_eq_of_lt r.1 r.2]
  have mem : ∀ x, x ∈ cfnd S g bk turn us vs ↔ ∃ u v, u ∈ us ∧ v ∈ vs ∧ v % g = u % g ∧ x = sol S g bk turn u v := fun x => by
    unfold cfnd
    rw [List.mem_flatMap]
    constructor
    · rintro ⟨u, hu, hx⟩
      obtain ⟨v, hv, rfl⟩ := List.mem_map.mp hx
      rw [List.mem_filter, decide_eq_true_iff] at hv
      exact ⟨u, v, hu, hv.1, hv.2, rfl⟩
    · rintro ⟨u, v, hu, hv, e, rfl⟩
      exact ⟨u, hu, List.mem_map.mpr ⟨v, List.mem_filter.mpr ⟨hv, decide_eq_true e⟩, rfl⟩⟩
  have dW : W ∣ S * turn := ⟨S / g, by rw [eW]; conv => lhs; rw [eS]
                                       rw [Int.mul_assoc, Int.mul_assoc, Int.mul_comm (S / g) turn]⟩
  refine ⟨⟨by omega, by omega⟩, by rw [hS, hW, ← teq], fun r hr => ?_, ?_, fun z => ?_, ?_⟩
  · obtain ⟨u, v, hu, _, _, rfl⟩ := (mem r).mp hr
    exact s0 u v hu
  · unfold cfnd
    rw [List.nodup_iff_pairwise_ne, List.pairwise_flatMap]
    constructor
    · intro u hu
      rw [List.pairwise_map]
      refine ((nV.filter _).imp_of_mem ?_)
      intro v v' hv hv' hne e
      rw [List.mem_filter, decide_eq_true_iff] at hv hv'
      have e1 := s2' u v hv.1 hv.2
      have e2 := s2' u v' hv'.1 hv'.2
      rw [e, e2] at e1
      exact hne e1.symm
    · refine nU.imp_of_mem ?_
      intro u u' hu hu' hne x hx y hy e
      obtain ⟨v, _, rfl⟩ := List.mem_map.mp hx
      obtain ⟨v', _, rfl⟩ := List.mem_map.mp hy
      have e1 := s1 u v hu
      have e2 := s1 u' v' hu'
      rw [e, e2] at e1
      exact hne e1.symm
  · unfold Both
    rw [aU, aV, mem]
    have dS : S ∣ S * turn := ⟨turn, rfl⟩
    constructor
    · rintro ⟨hu, hv⟩
      refine ⟨z % S, z % W, hu, hv, ?_, ?_⟩
      · rw [Int.emod_emod_of_dvd _ ⟨turn, eW⟩, Int.emod_emod_of_dvd _ ⟨S / g, eS⟩]
      · have eg : z % W % g = z % S % g := by rw [Int.emod_emod_of_dvd _ ⟨turn, eW⟩, Int.emod_emod_of_dvd _ ⟨S / g, eS⟩]
        have x1 := s1 (z % S) (z % W) hu
        have x2 := s2' (z % S) (z % W) hv eg
        have x0 := s0 (z % S) (z % W) hu
        generalize sol S g bk turn (z % S) (z % W) = x at x0 x1 x2
        have h3 : x % S = z % S := x1
        have h4 : x % W = z % W := x2
        rw [modeq] at h3 h4
        obtain ⟨k, hk⟩ := h3
        have h5 := (solv k 0).mp (by rw [← hk, Int.sub_zero]; exact h4)
        rw [Int.zero_ediv, Int.zero_mul, Int.zero_emod] at h5
        obtain ⟨j, hj⟩ := (Int.dvd_iff_emod_eq_zero ..).mpr h5.2
        have : z = x + S * turn * (-j) := by
          rw [Int.mul_neg, Int.mul_assoc, ← hj, ← hk]; omega
        rw [this, Int.add_mul_emod_self_left, Int.emod_eq_of_lt x0.1 x0.2]
    · rintro ⟨u, v, hu, hv, e, ez⟩
      have y1 : z % S = u := by rw [← Int.emod_emod_of_dvd z dS, ez]; exact s1 u v hu
      have y2 : z % W = v := by rw [← Int.emod_emod_of_dvd z dW, ez]; exact s2' u v hv e
      rw [y1, y2]
      exact ⟨hu, hv⟩
  · refine Nat.le_trans (flat_len (m := 60) fun u _ => ?_) (by rw [lU]; omega)
    rw [List.length_map]
    exact Nat.le_trans (List.length_filter_le ..) (by rw [lV]; omega)
/-- the round of two lands -/
def lcmOf (d t b d2 t2 b2 : Int) : Int := (d * b + t) * ((d2 * b2 + t2) / gcdI (d * b + t) (d2 * b2 + t2))
theorem cmn_ex {d t b s pl d2 t2 b2 s2 pl2 : Int} (h : LandOk d t b s) (h2 : LandOk d2 t2 b2 s2) : ∃ rs, Cmn d t b s pl d2 t2 b2 s2 pl2 rs (lcmOf d t b d2 t2 b2) := by
  have hp := step_pos h
  have hp2 := step_pos h2
  have g1 : 1 ≤ gcdI (d * b + t) (d2 * b2 + t2) := gcdI_pos (by omega)
  have gd := gcdI_div (a := d * b + t) (b := d2 * b2 + t2) (by omega) (by omega)
  obtain ⟨x, y, e⟩ := inv_of (Int.ediv_nonneg (by omega) (by omega)) (Int.ediv_nonneg (by omega) (by omega)) gd
  exact ⟨_, cmn_of h h2 rfl rfl (bk := x) ⟨-y, by rw [Int.mul_neg]; omega⟩⟩
theorem both_prt {d t b s pl d2 t2 b2 s2 pl2 : Int} (h : LandOk d t b s) (h2 : LandOk d2 t2 b2 s2) : (∀ z, ¬ Both d t b s pl d2 t2 b2 s2 pl2 z) ↔ PrtI d t b s pl d2 t2 b2 s2 pl2 (gcdI (d * b + t) (d2 * b2 + t2)) := by
  have hp := step_pos h
  have hp2 := step_pos h2
  have gS := gcdI_dvd_l (a := d * b + t) (b := d2 * b2 + t2) (by omega)
  have gW := gcdI_dvd_r (a := d * b + t) (b := d2 * b2 + t2) (by omega)
  rw [prt_dso gS gW]
  constructor
  · intro hno u hu v hv e
    have g1 : 1 ≤ gcdI (d * b + t) (d2 * b2 + t2) := gcdI_pos (by omega)
    have gd := gcdI_div (a := d * b + t) (b := d2 * b2 + t2) (by omega) (by omega)
    obtain ⟨x, y, e2⟩ := inv_of (Int.ediv_nonneg (by omega) (by omega)) (Int.ediv_nonneg (by omega) (by omega)) gd
    have C := cmn_of (pl := pl) (pl2 := pl2) h h2 rfl rfl (bk := x) ⟨-y, by rw [Int.mul_neg]; omega⟩
    have m : sol (d * b + t) (gcdI (d * b + t) (d2 * b2 + t2)) x ((d2 * b2 + t2) / gcdI (d * b + t) (d2 * b2 + t2)) u v ∈ cfnd (d * b + t) (gcdI (d * b + t) (d2 * b2 + t2)) x ((d2 * b2 + t2) / gcdI (d * b + t) (d2 * b2 + t2)) (dso d t b s pl) (dso d2 t2 b2 s2 pl2) := by
      unfold cfnd
      exact List.mem_flatMap.mpr ⟨u, hu, List.mem_map.mpr ⟨v, List.mem_filter.mpr ⟨hv, decide_eq_true e.symm⟩, rfl⟩⟩
    have r := C.rng _ m
    exact hno _ ((C.good _).mpr (by rw [Int.emod_eq_of_lt r.1 r.2]; exact m))
  · rintro hp z ⟨hu, hv⟩
    have a1 := (at_dso h z).mp hu
    have a2 := (at_dso h2 z).mp hv
    refine hp _ a1 _ a2 ?_
    rw [Int.emod_emod_of_dvd _ gS, Int.emod_emod_of_dvd _ gW]
theorem prt_up {d t b s pl d2 t2 b2 s2 pl2 i g : Int} (hi : i ∣ g) (hp : PrtI d t b s pl d2 t2 b2 s2 pl2 i) : PrtI d t b s pl d2 t2 b2 s2 pl2 g := fun k k2 a b c e z => by
  refine hp k k2 a b c e ?_
  rw [← Int.emod_emod_of_dvd _ hi, z, Int.emod_emod_of_dvd _ hi]
theorem at_yof {d t b s pl : Int} (h : LandOk d t b s) (hp : 0 ≤ pl ∧ pl < d) (z : Int) : At d t b s pl z ↔ z - fday d t b s (yof d t b s z) = pl := by
  constructor
  · rintro ⟨y, rfl⟩
    have := flen2 h y
    rw [yof_eq h (y := y) (by omega) (by omega)]
    omega
  · intro e
    exact ⟨yof d t b s z, by omega⟩
theorem per_both {d t b s pl d2 t2 b2 s2 pl2 : Int} (h : LandOk d t b s) (h2 : LandOk d2 t2 b2 s2) : Per (Both d t b s pl d2 t2 b2 s2 pl2) (lcmOf d t b d2 t2 b2) := fun z k => by
  obtain ⟨rs, C⟩ := cmn_ex (pl := pl) (pl2 := pl2) h h2
  rw [C.good, C.good, Int.add_mul_emod_self_left]
theorem both_symm {d t b s pl d2 t2 b2 s2 pl2 : Int} : Both d t b s pl d2 t2 b2 s2 pl2 = Both d2 t2 b2 s2 pl2 d t b s pl := funext fun z => propext ⟨fun h => ⟨h.2, h.1⟩, fun h => ⟨h.2, h.1⟩⟩
theorem lcm_many {d t b s d2 t2 b2 s2 : Int} (h : LandOk d t b s) (h2 : LandOk d2 t2 b2 s2) : (d * b + t) * (d2 * b2 + t2) / gcdI (d * b + t) (d2 * b2 + t2) = lcmOf d t b d2 t2 b2 := by
  have hp2 := step_pos h2
  unfold lcmOf
  rw [Int.mul_ediv_assoc _ (gcdI_dvd_r (by omega))]
open Classical in
noncomputable def bothB (d t b s pl d2 t2 b2 s2 pl2 : Int) : Int → Bool := fun z => decide (Both d t b s pl d2 t2 b2 s2 pl2 z)
theorem bothB_iff {d t b s pl d2 t2 b2 s2 pl2 z : Int} : bothB d t b s pl d2 t2 b2 s2 pl2 z = true ↔ Both d t b s pl d2 t2 b2 s2 pl2 z := by
  unfold bothB
  exact @decide_eq_true_iff _ (Classical.propDecidable _)
theorem rnd_both {d t b s pl d2 t2 b2 s2 pl2 : Int} (h : LandOk d t b s) (h2 : LandOk d2 t2 b2 s2) (a : Int) : Rnd (Both d t b s pl d2 t2 b2 s2 pl2) a (lcmOf d t b d2 t2 b2) (flt (bothB d t b s pl d2 t2 b2 s2 pl2) a (lcmOf d t b d2 t2 b2).toNat) := by
  obtain ⟨rs, C⟩ := cmn_ex (pl := pl) (pl2 := pl2) h h2
  have := C.tpos
  refine ⟨per_both h h2, this.1, flt_inc, fun z => ?_⟩
  rw [mem_flt, bothB_iff]
  constructor <;> rintro ⟨x, y, q⟩ <;> exact ⟨x, by omega, q⟩
end Ly
set_option Elab.async false
set_option linter.all false
set_option maxHeartbeats 4000000
/-! long years; so many days later; weeks named on -/
namespace Ly
/-- the year z is long -/
def Lng (t b s z : Int) : Prop := tof t b s (z + 1) = tof t b s z + 1
theorem tof_le {d t b s : Int} (h : LandOk d t b s) {y z : Int} (hz : y ≤ z) : tof t b s y ≤ tof t b s z := by
  have hb := h.b
  have ht := h.t
  unfold tof
  refine Int.ediv_le_ediv (by omega) ?_
  have := Int.mul_le_mul_of_nonneg_left hz ht.1
  omega
theorem no_long {d t b s : Int} (h : LandOk d t b s) (h0 : t = 0) (z : Int) : ¬ Lng t b s z := by
  subst h0
  unfold Lng tof
  rw [Int.zero_mul, Int.zero_mul]
  omega
theorem fst_long {d t b s : Int} (h : LandOk d t b s) (h0 : t ≠ 0) (y : Int) : Fst (Lng t b s) y (-((s - (tof t b s y + 1) * b) / t) - 1) := by
  have hb := h.b
  have ht := h.t
  have t1 : 1 ≤ t := by omega
  generalize hW : tof t b s y + 1 = W
  -- the least number with t * m + s at least W * b
  have key : ∀ m : Int, W ≤ tof t b s m ↔ -((s - W * b) / t) ≤ m := fun m => by
    unfold tof
    rw [Int.le_ediv_iff_mul_le (by omega)]
    have e : -((s - W * b) / t) ≤ m ↔ -m ≤ (s - W * b) / t := by omega
    rw [e, Int.le_ediv_iff_mul_le (by omega), Int.neg_mul, Int.mul_comm m t]
    omega
  have k1 := (key (-((s - W * b) / t))).mpr (Int.le_refl _)
  have k2 := mt (key (-((s - W * b) / t) - 1)).mp (by omega)
  have k4 : ¬ -((s - W * b) / t) ≤ y := fun z => absurd ((key y).mpr z) (by omega)
  generalize -((s - W * b) / t) = m at key k1 k2 k4
  refine ⟨by omega, ?_, fun z hz hl => ?_⟩
  · unfold Lng
    rw [show m - 1 + 1 = m by omega]
    have := tof_step h (m - 1)
    rw [show m - 1 + 1 = m by omega] at this
    omega
  · unfold Lng at hl
    have := tof_le h hz
    have := (key (z + 1)).mp (by omega)
    omega
/-- so many days later -/
theorem fday_later {d t b s : Int} (h : LandOk d t b s) (by' y : Int) : fday d t b (s + by' * b) y = fday d t b s y + by' := by
  have hb := h.b
  unfold fday
  rw [← Int.add_assoc, Int.add_mul_ediv_right _ _ (by omega)]
theorem yof_later {d t b s : Int} (by' n : Int) : yof d t b (s + by' * b) (n + by') = yof d t b s n := by
  unfold yof
  congr 1
  rw [show n + by' + 1 = n + 1 + by' by omega, Int.add_mul]
  omega
theorem tof_later {d t b s : Int} (h : LandOk d t b s) (by' y : Int) : tof t b (s + by' * b) y = tof t b s y + by' := by
  have hb := h.b
  unfold tof
  rw [← Int.add_assoc, Int.add_mul_ediv_right _ _ (by omega)]
theorem long_later {d t b s : Int} (h : LandOk d t b s) (by' : Int) : Lng t b (s + by' * b) = Lng t b s := funext fun z => propext (by
  unfold Lng
  rw [tof_later h, tof_later h]
  omega)
/-- years counted from another one -/
theorem fday_back {d t b s : Int} (back y : Int) : fday d t b (s + back * (d * b + t)) y = fday d t b s (y + back) := by
  unfold fday
  congr 1
  rw [Int.mul_add (d * b + t) y back, Int.mul_comm back]
  omega
theorem tof_back {d t b s : Int} (h : LandOk d t b s) (back y : Int) : tof t b (s + back * (d * b + t)) y = tof t b s (y + back) + back * d := by
  have hb := h.b
  unfold tof
  rw [← Int.add_mul_ediv_right _ _ (show b ≠ 0 by omega)]
  congr 1
  rw [Int.mul_add t y back, Int.mul_add back, Int.mul_comm t back, Int.mul_assoc back d b]
  omega
theorem mod_named {x wk nm k : Int} (hn : 0 ≤ nm ∧ nm < wk) : (x + k) % wk = (nm + k) % wk ↔ x % wk = nm := by
  rw [modeq, show x + k - (nm + k) = x - nm by omega, ← modeq, Int.emod_eq_of_lt hn.1 hn.2]
theorem has_later {d t b s pl wk nm : Int} (h : LandOk d t b s) (hn : 0 ≤ nm ∧ nm < wk) (by' : Int) : has d t b (s + by' * b) pl wk ((nm + by') % wk) = has d t b s pl wk nm := funext fun z => propext (by
  unfold has
  rw [fday_later h, show fday d t b s z + by' + pl = fday d t b s z + pl + by' by omega, mod_named hn])
theorem has_called {d t b s pl wk nm o : Int} (hn : 0 ≤ nm ∧ nm < wk) : has d t b s o wk ((nm + o - pl) % wk) = has d t b s pl wk nm := funext fun z => propext (by
  unfold has
  rw [show fday d t b s z + o = fday d t b s z + pl + (o - pl) by omega, show nm + o - pl = nm + (o - pl) by omega, mod_named hn])
theorem at_later {d t b s pl : Int} (h : LandOk d t b s) (by' z : Int) : At d t b (s + by' * b) pl (z + by') ↔ At d t b s pl z := by
  unfold At
  constructor
  · rintro ⟨y, e⟩
    exact ⟨y, by rw [fday_later h] at e; omega⟩
  · rintro ⟨y, e⟩
    exact ⟨y, by rw [fday_later h]; omega⟩
theorem both_later {d t b s pl d2 t2 b2 s2 pl2 : Int} (h : LandOk d t b s) (h2 : LandOk d2 t2 b2 s2) (by' z : Int) : Both d t b (s + by' * b) pl d2 t2 b2 (s2 + by' * b2) pl2 (z + by') ↔ Both d t b s pl d2 t2 b2 s2 pl2 z := by
  unfold Both
  rw [at_later h, at_later h2]
end Ly
set_option Elab.async false
set_option linter.all false
set_option maxRecDepth 100000
set_option maxHeartbeats 4000000
/-! the base: what is forgotten behind a call, ranges of any size, lists read -/
namespace Ly
open PySem PySem.Spec PyProof.Rows L2

/-! ### forgetting -/
/-- no dict with tuple keys is tracked -/
def Pl : HO → Bool
  | .dT _ => false
  | .frz _ (.lst _) => true
  | .frz _ (.tup _) => true
  | .frz _ (.dK _) => true
  | .frz _ _ => false
  | _ => true
def NoT (H : Hp) : Prop := ∀ b o, H b = some o → Pl o = true
theorem NoT.upd {H : Hp} {p : Addr} {o : HO} (h : NoT H) (ho : Pl o = true) : NoT (upd H p o) := fun b u e => by
  by_cases hb : b = p
  · subst hb
    rw [upd_same] at e
    cases e
    exact ho
  · rw [upd_ne hb] at e
    exact h b u e
theorem NoT.tup {H : Hp} {p : Addr} {xs : List V} (h : NoT H) : NoT (L2.upd H p (.tup xs)) := h.upd rfl
theorem NoT.lst {H : Hp} {p : Addr} {xs : List V} (h : NoT H) : NoT (L2.upd H p (.lst xs)) := h.upd rfl
theorem NoT.dK {H : Hp} {p : Addr} {xs : List (Key × V)} (h : NoT H) : NoT (L2.upd H p (.dK xs)) := h.upd rfl
theorem NoT.of_only {H : Hp} (h : L2.Only H) : NoT H := fun b u e => by
  rcases h b with z | ⟨o, xs, z⟩
  · rw [z] at e; cases e
  · rw [z] at e; cases e; rfl
/-- the smaller heap H1 may stand for H' behind a call from H -/
structure Fg (H H' H1 : Hp) : Prop where
  sub : ∀ b o, H1 b = some o → H' b = some o
  tups : ∀ b xs, H b = some (.tup xs) → H1 b = some (.tup xs)
  frzs : ∀ b o u, H b = some (.frz o u) → H1 b = some (.frz o u)
  tbls : ∀ b ps, H b = some (.tbl ps) → ∃ more, H1 b = some (.tbl (ps ++ more))
  own : ∀ b C dx fs, H1 b = some (.ins C dx fs) → H1 dx = some (.own b)
  noT : NoT H1
theorem Fg.ok {P : Program} {w : World} {H H' H1 : Hp} {h : Heap} (f : Fg H H' H1) (ok : HOk P w H' h) : HOk P w H1 h := fun a o e => by
  have q := ok a o (f.sub a o e)
  have n := f.noT a o e
  cases o with
  | ins C dx fs =>
    obtain ⟨_, r⟩ := q
    exact ⟨f.own a C dx fs e, r⟩
  | dT kvs => exact absurd (show false = true from n) (by decide)
  | frz ob u =>
    obtain ⟨q1, q2⟩ := q
    refine ⟨q1, ?_⟩
    cases u with
    | lst xs => exact q2
    | tup xs => exact q2
    | dK xs => exact q2
    | _ => exact absurd (show false = true from n) (by decide)
  | _ => exact q
theorem Fg.un {fs : List Addr} {H H' H1 : Hp} {h h' : Heap} (f : Fg H H' H1) (u : Un fs [] H H' h h') : Un fs [] H H1 h h' where
  keep := u.keep
  slot := u.slot
  free := fun b o e n hx => by
    have q := u.free b o e n hx
    cases r : H1 b with
    | none => rfl
    | some x => rw [f.sub b x r] at q; cases q
  there := u.there
  tups := f.tups
  frzs := f.frzs
  tbls := f.tbls
section
variable {P : Program} {w : World} {K : PySem.W.Frag} {mg : Str → Option Value} {base : Heap} {CX : CXT} {k : Nat} {f : Addr} {fd : FuncData} {ps : List Str} {sp : Sp}
/-- behind a call what is not wanted may be forgotten -/
theorem FnOk.fg (F : FnOk P w K mg base CX k f fd ps sp) :
    FnOk P w K mg base CX k f fd ps (fun vs H Q E => sp vs H (fun v H' => ∃ H1, ((∀ b C dx fs, H b = some (.ins C dx fs) → H dx = some (.own b)) → Fg H H' H1) ∧ Q v H1) E) :=
  ⟨fun vs H Q E h => F.len vs H _ E h, fun A outer s H args us vs Q E hr he hb hv hs => by
    refine codeAny_mono (F.run A outer s H args us vs _ E hr he hb hv hs) fun r s' hq => ?_
    cases r with
    | error e => exact hq
    | ok fl =>
      cases fl with
      | ret u =>
        obtain ⟨v, H', os, bare, un, hok, rv, H1, hf, q⟩ := hq
        have hf' := hf fun b C dx fs e => by
          obtain ⟨z, _⟩ := he.hok b _ e
          exact z
        exact ⟨v, H1, os, bare, hf'.un un, hf'.ok hok, rv, q⟩
      | next => exact hq
      | brk => exact hq
      | cont => exact hq⟩
/-- all is as it was -/
theorem Fg.same {H H' : Hp} (n : NoT H) (s : Same H H') : (∀ b C dx fs, H b = some (.ins C dx fs) → H dx = some (.own b)) → Fg H H' H := fun o =>
  ⟨s, fun _ _ e => e, fun _ _ _ e => e, fun _ _ e => ⟨#[], by rw [e]; simp⟩, o, n⟩
/-- what is wanted behind a body that may leave things behind -/
def fgQ (H : Hp) (Q : VK) : VK := fun v H' => ∃ H1, ((∀ b C dx fs, H b = some (.ins C dx fs) → H dx = some (.own b)) → Fg H H' H1) ∧ Q v H1
theorem fg_same {H H' : Hp} {Q : VK} {v : V} (n : NoT H) (s : Same H H') (q : Q v H) : fgQ H Q v H' := ⟨H, Fg.same n s, q⟩
theorem fg_all {H H' : Hp} {Q : VK} {v : V} (n : NoT H) (s : Same H H') (n' : NoT H') (o : ∀ b C dx fs, H' b = some (.ins C dx fs) → H b = some (.ins C dx fs)) (q : Q v H') : fgQ H Q v H' :=
  ⟨H', fun ow => ⟨fun _ _ e => e, fun b xs e => s b _ e, fun b o u e => s b _ e, fun b ps e => ⟨#[], by rw [s b _ e]; simp⟩, fun b C dx fs e => s _ _ (ow b C dx fs (o b C dx fs e)), n'⟩, q⟩
theorem Fun.okF {x qual : Str} {st : Stmt} {N : List Str} (F : Fun K x qual st f fd) (S : FnScope N ps (defScope st)) (len : ∀ vs H Q E, sp vs H Q E → vs.length = ps.length)
    (hbody : ∀ (cdv : Value) (A : Around) (outer : List Env) (s : Shared) (H : Hp) (vs : List V) (Q : VK) (E : XK), Room k (A.deeper (envOfC qual (defScope st) s.heap.objs.size f cdv)) → sp vs H Q E →
      ∃ t, PSs (cxOf CX0 P w K mg base N qual (defScope st) f cdv A outer s H E).nox (defBody st) t ∧ t { nx := fun _ H' => fgQ H Q .non H', rt := fgQ H Q } (start N vs) H) : FnOk P w K mg base CX0 (k + 1) f fd ps sp := by
  have F2 : FnOk P w K mg base CX0 (k + 1) f fd ps (fun vs H Q2 E => ∃ Q, Q2 = fgQ H Q ∧ sp vs H Q E) := by
    refine F.ok S (fun vs H Q E h => ?_) (fun cdv A outer s H vs Q E hr h => ?_)
    · obtain ⟨Q0, _, h⟩ := h
      exact len vs H Q0 E h
    · obtain ⟨Q0, rfl, h⟩ := h
      exact hbody cdv A outer s H vs Q0 E hr h
  exact (FnOk.fg F2).imp fun vs H Q E h => ⟨Q, rfl, h⟩
theorem Fun.okFX {x qual : Str} {st : Stmt} {N : List Str} (F : Fun K x qual st f fd) (S : FnScope N ps (defScope st)) (len : ∀ vs H Q E, sp vs H Q E → vs.length = ps.length)
    (hbody : ∀ (cdv : Value) (A : Around) (outer : List Env) (s : Shared) (H : Hp) (vs : List V) (Q : VK) (E : XK), Room k (A.deeper (envOfC qual (defScope st) s.heap.objs.size f cdv)) → sp vs H Q E →
      ∃ t, PSs (cxOf (L2.CX P w) P w K mg base N qual (defScope st) f cdv A outer s H E) (defBody st) t ∧ t { nx := fun _ H' => fgQ H Q .non H', rt := fgQ H Q } (start N vs) H) : FnOk P w K mg base (L2.CX P w) (k + 1) f fd ps sp := by
  have F2 : FnOk P w K mg base (L2.CX P w) (k + 1) f fd ps (fun vs H Q2 E => ∃ Q, Q2 = fgQ H Q ∧ sp vs H Q E) := by
    refine F.okX S (fun vs H Q E h => ?_) (fun cdv A outer s H vs Q E hr h => ?_)
    · obtain ⟨Q0, _, h⟩ := h
      exact len vs H Q0 E h
    · obtain ⟨Q0, rfl, h⟩ := h
      exact hbody cdv A outer s H vs Q0 E hr h
  exact (FnOk.fg F2).imp fun vs H Q E h => ⟨Q, rfl, h⟩

/-! ### a def by its name -/
/-- the def x stands in the module and keeps its promise -/
def Df (P : Program) (w : World) (K : PySem.W.Frag) (mg : Str → Option Value) (base : Heap) (CX : CXT) (x : Str) (k : Nat) (ps : List Str) (sp : Sp) : Prop :=
  ∃ (f : Addr) (fd : FuncData), FnOk P w K mg base CX k f fd ps sp ∧ mg x = some (.ref f) ∧ PySem.W.keepIn K (.ref f) = true ∧ Binds K fd ps []
/-- the def x as it stands in the text -/
def Tx (K : PySem.W.Frag) (mg : Str → Option Value) (x : Str) (st : Stmt) (ps : List Str) : Prop :=
  ∃ (f : Addr) (fd : FuncData), Fun K x x st f fd ∧ mg x = some (.ref f) ∧ Binds K fd ps []
theorem Df.imp {P : Program} {w : World} {K : PySem.W.Frag} {mg : Str → Option Value} {base : Heap} {CX : CXT} {x : Str} {k : Nat} {ps : List Str} {sp sp' : Sp} (D : Df P w K mg base CX x k ps sp)
    (h : ∀ vs H Q E, sp' vs H Q E → sp vs H Q E) : Df P w K mg base CX x k ps sp' := by
  obtain ⟨f, fd, F, a, b, c⟩ := D
  exact ⟨f, fd, F.imp h, a, b, c⟩
theorem Df.mono {P : Program} {w : World} {K : PySem.W.Frag} {mg : Str → Option Value} {base : Heap} {CX : CXT} {x : Str} {j k : Nat} {ps : List Str} {sp : Sp} (D : Df P w K mg base CX x j ps sp) (h : j ≤ k) : Df P w K mg base CX x k ps sp := by
  obtain ⟨f, fd, F, a, b, c⟩ := D
  exact ⟨f, fd, F.mono h, a, b, c⟩
end
section
variable {X : Cx} {CX : CXT} {k j : Nat} {ps : List Str} {sp : Sp} {E : XK} {x : Str} {p pos : Pos} {e : Expr} {es : List Expr} {t : TA}
theorem pe_callD (D : Df X.prog X.w X.K X.mg X.base CX x k ps sp) (hr : Room j X.A) (hj : k ≤ j) (hg : Gl X x) (hx : Passes CX X E) (ha : PA X (e :: es) t)
    (hdb : (x == ("__debug__" : Str)) = false := by decide) (he : starEach (e :: es) X.env = (false, eval e X.env) :: starEach es X.env := by rfl) (hpl : (backTo pos (starEach es X.env)).any (·.1) = false := by rfl) :
    PE X (.Call (.Name x p) (e :: es) [] pos) (tCall sp [] E t) := by
  obtain ⟨f, fd, F, hm, hk, hb⟩ := D
  exact pe_call F (hr.mono hj) hg hm hk hb .nil hx ha hdb he hpl
end

/-! ### ranges of any size -/
theorem turn_long {P : Program} {w : World} {K : PySem.W.Frag} {tg : Expr} (it : Addr) (lo : Int) (n : Nat) : Turn P w K tg (Itr lo n) [it] it (fun i h => IsLongIter h it (lo + (i : Nat) * 1) ((n : Int) - (i : Nat)) 1) where
  mem := by simp
  obj := fun i h st b hb => by
    have e : b = it := by simpa using hb
    subst e
    exact ⟨_, st, fun v z => by
      have z' : Data.fields _ = Data.cell v := z
      cases z'⟩
  keep := fun i h h' st k => k it (by simp) _ st
  item := by
    intro X hP hw hK hc i pins s σ H E I hf st hg
    subst hP hw hK
    obtain ⟨f0, f1, f2, f3, f4, f5⟩ := hf it (by simp)
    have W := Walks.longrange (prog := X.prog) (w := X.w) (I.ok.hd hc) it lo 1 n
    refine W.item i s _ _ hg st fun v h' tk hv st' kk => ?_
    obtain ⟨t, rfl⟩ := hv
    have I1 : Inv X pins σ H { s with heap := h', toks := tk } := I.turned (fun b o hb e => kk b o (by simpa using hb) e) f0 f1 f3 f4 f5
    refine ⟨_, rfl, go_of (s := { s with heap := h', toks := tk }) (n := "longrange_iterator") st' rfl rfl (by decide) ⟨.int (lo + i), H, I1, ⟨t, ?_⟩, ⟨rfl, rfl⟩, st', fun b hb => (hf b hb).1⟩⟩
    rw [Int.mul_one]
  done := by
    intro X hP hw hK hc i pins s σ H E I hf st hg
    subst hP hw hK
    obtain ⟨f0, f1, f2, f3, f4, f5⟩ := hf it (by simp)
    exact wpAny_pyNext_long_end (I.ok.hd hc) st (by have : n ≤ i := hg; omega) fun h' eb => ⟨rfl, I.turned (t' := s.toks) (fun b o hb e => eb b o hb e) f0 f1 f3 f4 f5⟩
  self := fun _ _ _ _ _ st h => wpAny_pyIter_longiter st h
section
variable {X : Cx} {tg : Expr}
theorem range_itW {pins : List (Addr × Obj)} {σ : L2.St} {H : Hp} {s : Shared} {R : It → Hp → Prop} {E : Value → Shared → Prop} {lo hi : Int} {t u v : Tok} {tk : Nat} (I : Inv X pins σ H s)
    (q : R (Itr lo (hi - lo).toNat) H) : wpAny (model X.prog X.w) X.A (pyIter (.ref s.heap.objs.size)) (PIE X pins σ tg R) E { s with heap := s.heap.push { cls := .type "range", data := .fields #[.int lo t, .int hi u, .int 1 v] }, toks := tk } := by
  have I1 : Inv X pins σ H { s with heap := s.heap.push { cls := .type "range", data := .fields #[.int lo t, .int hi u, .int 1 v] }, toks := tk } := I.kept fun b o e => Heap.get?_push_of_some _ e
  have e1 : lo + ((0 : Nat) : Int) * 1 = lo := by simp
  have e2 : (((hi - lo).toNat : Nat) : Int) - ((0 : Nat) : Int) = Builtin.Range.rangeSize lo hi 1 := by rw [rangeSize_one]; split <;> omega
  have fp : ∀ b ∈ [(s.heap.push { cls := .type "range", data := .fields #[.int lo t, .int hi u, .int 1 v] }).objs.size], FpOk X pins H b := fun b hb => by
    have e : b = (s.heap.push { cls := .type "range", data := .fields #[.int lo t, .int hi u, .int 1 v] }).objs.size := by simpa using hb
    subst e
    exact I1.fpOk (Nat.le_refl _) (I1.hok.fresh (Nat.le_refl _))
  cases hsm : Builtin.Range.small lo hi 1 with
  | true =>
    refine wpAny_pyIter_range (IsRange.new ..) hsm ?_
    refine ⟨(s.heap.push { cls := .type "range", data := .fields #[.int lo t, .int hi u, .int 1 v] }).objs.size, [(s.heap.push { cls := .type "range", data := .fields #[.int lo t, .int hi u, .int 1 v] }).objs.size], _, _, H, rfl,
      I1.kept (t' := tk) fun b o e => Heap.get?_push_of_some _ e, turn_range _ lo (hi - lo).toNat, ?_, fp, q⟩
    show IsRangeIter _ _ (lo + ((0 : Nat) : Int) * 1) ((((hi - lo).toNat : Nat) : Int) - ((0 : Nat) : Int)) 1
    rw [e1, e2]
    exact Heap.get?_push_size _ rfl
  | false =>
    refine wpAny_pyIter_longrange (IsRange.new ..) hsm ?_
    refine ⟨(s.heap.push { cls := .type "range", data := .fields #[.int lo t, .int hi u, .int 1 v] }).objs.size, [(s.heap.push { cls := .type "range", data := .fields #[.int lo t, .int hi u, .int 1 v] }).objs.size], _, _, H, rfl,
      I1.kept (t' := tk) fun b o e => Heap.get?_push_of_some _ e, turn_long _ lo (hi - lo).toNat, ?_, fp, q⟩
    show IsLongIter _ _ (lo + ((0 : Nat) : Int) * 1) ((((hi - lo).toNat : Nat) : Int) - ((0 : Nat) : Int)) 1
    rw [e1, e2]
    exact Heap.get?_push_size _ rfl
def iRgW1 (ta : TA) : TI := fun σ H R => ta σ H fun vs H1 => ∃ j : Int, vs = [.int j] ∧ R (Itr 0 j.toNat) H1
def iRgW2 (ta : TA) : TI := fun σ H R => ta σ H fun vs H1 => ∃ i j : Int, vs = [.int i, .int j] ∧ R (Itr i (j - i).toNat) H1
theorem pi_rgW1 {a : Expr} {ta : TA} {p pos : Pos} (hg : Gl X "range") (hm : X.mg "range" = none) (ha : PA X [a] ta) (hs : starEach [a] X.env = [(false, eval a X.env)] := by rfl) : PI X tg (.Call (.Name "range" p) [a] [] pos) (iRgW1 ta) := by
  refine ⟨fun pins s σ H R I h => ?_⟩
  refine Call_ (ld_blt I hg hm boot_range (PyProof.Rows.callWith_type1 (thn (ha.run pos pins s σ H _ I h) fun us s1 ⟨vs, H1, I1, r1, q1⟩ => ?_) hs rfl))
  obtain ⟨j, e, q⟩ := q1
  subst e
  cases r1 with
  | cons r rr =>
    cases rr
    obtain ⟨t, rfl⟩ := r
    exact call_range_1 (range_itW I1 (by simpa using q))
theorem pi_rgW2 {a b : Expr} {ta : TA} {p pos : Pos} (hg : Gl X "range") (hm : X.mg "range" = none) (ha : PA X [a, b] ta) (hs : starEach [a, b] X.env = [(false, eval a X.env), (false, eval b X.env)] := by rfl) (hs2 : starEach [b] X.env = [(false, eval b X.env)] := by rfl) :
    PI X tg (.Call (.Name "range" p) [a, b] [] pos) (iRgW2 ta) := by
  refine ⟨fun pins s σ H R I h => ?_⟩
  refine Call_ (ld_blt I hg hm boot_range (PyProof.Rows.callWith_type1 (thn (ha.run pos pins s σ H _ I h) fun us s1 ⟨vs, H1, I1, r1, q1⟩ => ?_) (by rw [hs, hs2]) (by rw [hs2]; rfl)))
  obtain ⟨i, j, e, q⟩ := q1
  subst e
  cases r1 with
  | cons r rr =>
    cases rr with
    | cons r' rr =>
      cases rr
      obtain ⟨t, rfl⟩ := r
      obtain ⟨t', rfl⟩ := r'
      exact call_range_2 (range_itW I1 q)

/-! ### list + list, whatever they are -/
def rCatS (K : PySem.W.Frag) : R2 := fun x y H Q => ∃ l b xs zs, x = .ref l ∧ y = .ref b ∧ SqL K H l xs ∧ SqL K H b zs ∧ xs.length + zs.length ≤ sizeLine ∧ ∀ p, H p = none → Q (.ref p) (upd H p (.lst (xs ++ zs)))
theorem op_catS : OpR X (binaryOp .Add) (rCatS X.K) := by
  intro pins s σ H x y v u Q I rx ry h
  obtain ⟨l, b, xs, zs, rfl, rfl, hH, hB, hz, q⟩ := h
  cases rx
  cases ry
  obtain ⟨its, r, ⟨o, n, e, hc, hd, hs⟩, _⟩ := I.list hH
  obtain ⟨its2, r2, ⟨o2, n2, e2, hc2, hd2, hs2⟩, _⟩ := I.list hB
  obtain ⟨cls, dd, data, sl⟩ := o
  obtain ⟨cls2, dd2, data2, sl2⟩ := o2
  simp only at hc hd hc2 hd2 hs hs2
  subst hc hc2 hs hs2
  have ea : its.toArray ++ its2.toArray = (its ++ its2).toArray := by simp
  have l1 := r.length
  have l2 := r2.length
  refine concat_meets ⟨_, e, rfl⟩ ⟨_, e2, rfl⟩ noFill_list_add seq_list_add PySem.F.slot_list_add PySem.F.entry_list_add (PySem.F.args_list_add_2 _ _) (list_addW l b its.toArray its2.toArray n n2 dd dd2 sl sl2 (by rw [List.size_toArray, List.size_toArray]; omega)) ⟨e, e2, ?_⟩
  rw [ea]
  exact ⟨.ref _, _, I.lnew (t' := s.toks) (r.append r2) (by rw [List.length_append]; omega), rfl, q _ I.fresh⟩
end
end Ly
set_option Elab.async false
set_option linter.all false
set_option maxRecDepth 100000
set_option maxHeartbeats 4000000
/-! enumerate of a tuple -/
namespace PySem
open Sem (wp)
open AutoSeq1 (wpAny_loadPart')
theorem ly_meets_enumT (l : Addr) (items : Array Value) (n : Nat) (dct : Option Addr) (sl : Array (Option Value)) :
    Meets (Builtin.«enumerate.__new__» ⟨[.type "enumerate", .ref l], []⟩) (fun _ R s => s.heap.get? l = some { cls := .type "tuple", dict := dct, data := .seq items n, slots := sl } ∧
      R (.ok (.ret (.ref (s.heap.push { cls := .type "tuple_iterator", data := .fields #[.ref l, .int 0 0] }).objs.size)))
        { s with heap := (s.heap.push { cls := .type "tuple_iterator", data := .fields #[.ref l, .int 0 0] }).push { cls := .type "enumerate", data := .fields #[.none, .bool false, .ref s.heap.objs.size, rawInt 0, .none, .none] } }) :=
  .of_wp fun prog w A R s h => by
    obtain ⟨hp, g, d, tk, os⟩ := s; obtain ⟨hl, h⟩ := h
    have hsub := sub_enumerate
    have hL : Heap.IsTuple (Shared.heap ⟨hp, g, d, tk, os⟩) l items := ⟨_, hl, rfl, n, rfl⟩
    wp_walk using wpAny_loadPart' hl
    refine wpAny_stack_any fun st => wpAny_pure ?_
    split
    · rename_i c _ _ _ _ _
      cases (c == Value.type "enumerate")
      · wp_walk using wpAny_loadPart' hl, wpAny_pyIter_tuple hL
        exact ⟨_, rfl, h⟩
      · wp_walk using wpAny_loadPart' hl, wpAny_pyIter_tuple hL
        exact ⟨_, rfl, h⟩
    · wp_walk using wpAny_loadPart' hl, wpAny_pyIter_tuple hL
      exact ⟨_, rfl, h⟩
section
variable {prog : Program} {w : World} {A : Around} {E : Value → Shared → Prop} {s : Shared}
theorem ly_call_enumT {l : Addr} {items : Array Value} {Q : Value → Shared → Prop} (hL : s.heap.IsTuple l items)
    (h : ∀ h', IsEnum h' (s.heap.objs.size + 1) s.heap.objs.size 0 .none → h'.IsTupleIter s.heap.objs.size l 0 → h'.objs.size = s.heap.objs.size + 2 →
      (∀ b o, s.heap.get? b = some o → h'.get? b = some o) → Q (.ref (s.heap.objs.size + 1)) { s with heap := h' }) :
    wpAny (model prog w) A (call (.type "enumerate") [.ref l]) Q E s := by
  obtain ⟨⟨c, dct, dt, sl⟩, hl, hc, n, hd⟩ := hL
  replace hc : c = .type "tuple" := hc
  replace hd : dt = .seq items n := hd
  subst hc hd
  refine callType_new F.called_enumerate (by decide) (F.typeCall_enumerate_1 _) (F.newCall_enumerate_1 _) (fun obj => F.args_object_init_2 obj _) F.entry_enumerate_new
    (ly_meets_enumT l items n dct sl) ⟨hl, ?_⟩
  have hz : (s.heap.push { cls := .type "tuple_iterator", data := .fields #[.ref l, .int 0 0] }).objs.size = s.heap.objs.size + 1 := Heap.size_push ..
  show _ ∧ _
  rw [hz]
  have he : IsEnum ((s.heap.push { cls := .type "tuple_iterator", data := .fields #[.ref l, .int 0 0] }).push
      { cls := .type "enumerate", data := .fields #[.none, .bool false, .ref s.heap.objs.size, rawInt 0, .none, .none] }) (s.heap.objs.size + 1) s.heap.objs.size 0 .none := by
    have := Heap.get?_push_size (s.heap.push { cls := .type "tuple_iterator", data := .fields #[.ref l, .int 0 0] })
      (o := { cls := .type "enumerate", data := .fields #[.none, .bool false, .ref s.heap.objs.size, rawInt 0, .none, .none] }) rfl
    rw [hz] at this; exact this
  refine ⟨⟨_, he, rfl⟩, h _ he ⟨_, Heap.get?_push_of_some _ (Heap.get?_push_size _ rfl), rfl, rfl⟩ (by rw [Heap.size_push, hz]) fun b o x => Heap.get?_push_of_some _ (Heap.get?_push_of_some _ x)⟩
end
end PySem
namespace Ly
open PySem PySem.Spec PyProof.Rows L2
def IteT (K : PySem.W.Frag) (a : Addr) : It :=
  ⟨fun i H => ∃ (xs : List V) (x : V), SqT K H a xs ∧ xs[i]? = some x, fun i H v H' => ∃ T x, v = .ref T ∧ H T = none ∧ H' = upd H T (.tup [.int (i : Nat), x]) ∧ ∀ xs, SqT K H a xs → xs[i]? = some x, fun i H => ∃ xs : List V, SqT K H a xs ∧ xs.length ≤ i⟩
theorem turn_enumT {P : Program} {w : World} {K : PySem.W.Frag} {elts : List Expr} {kk : Nat} {tpos : Pos} (a e it : Addr) :
    Turn P w K (.Tuple elts kk tpos) (IteT K a) [e, it] e (fun i h => (∃ old, IsEnum h e it ((i : Nat) : Int) old) ∧ h.IsTupleIter it a i ∧ e ≠ it) where
  mem := by simp
  obj := fun i h st b hb => by
    obtain ⟨⟨old, he⟩, ⟨o, ho, hc, hd⟩, _⟩ := st
    have e' : b = e ∨ b = it := by simpa using hb
    rcases e' with z | z
    · rw [z]; exact ⟨_, he, fun v q => nomatch q⟩
    · rw [z]; exact ⟨o, ho, fun v q => by rw [hd] at q; cases q⟩
  keep := fun i h h' st k => let ⟨⟨old, he⟩, hi, hne⟩ := st; ⟨⟨old, k e (by simp) _ he⟩, hi.at fun o q => k it (by simp) o q, hne⟩
  item := by
    intro X hP hw hK hc i pins s σ H E I hf st hg
    subst hP hw hK
    obtain ⟨⟨old, he⟩, hit, hne⟩ := st
    obtain ⟨xs, x, hq, hx⟩ := hg
    obtain ⟨its, rv, p, hz⟩ := I.tuple hq
    obtain ⟨u, hu, ru⟩ := rv.get hx
    have hel : e < s.heap.objs.size := Heap.lt_size he
    have hil : it < s.heap.objs.size := by obtain ⟨_, q, _⟩ := hit; exact Heap.lt_size q
    have hpt : s.heap.IsTuple a its.toArray := p
    have hai : a ≠ it := fun z => by
      obtain ⟨o, ho, hc1, _⟩ := hpt
      obtain ⟨o2, ho2, hc2, _⟩ := hit
      rw [z, ho2] at ho; cases ho
      rw [hc1] at hc2; exact absurd hc2 (by decide)
    have hae : a ≠ e := fun z => by
      obtain ⟨o, ho, hc1, _⟩ := hpt
      have he2 := he
      unfold IsEnum at he2
      rw [z, he2] at ho; cases ho
      exact absurd (show Value.type "enumerate" = Value.type "tuple" from hc1) (by decide)
    have D := Draws.tuple (prog := X.prog) (w := X.w) (A := X.A.in1) (I.ok.hd hc) it a hai its.toArray
    have hlt : i < its.toArray.size := by
      rw [List.size_toArray]
      exact (List.getElem?_eq_some_iff.mp hu).1
    refine wpAny_pyNext_enum_itemD D he ⟨hit, hpt⟩ hlt hne (by simp; exact ⟨hne, Ne.symm hae⟩) fun x' h' tk hx' ho hst' hT hsz hk => ?_
    have hxu : x' = u := by
      have h1 : its.toArray[i]? = some u := by simpa using hu
      rw [h1] at hx'
      exact (Option.some.inj hx').symm
    subst hxu
    refine ⟨_, rfl, wpAny_letOwnedTupleGo_enum (s := { s with heap := h', toks := tk + 1 }) ho fun h'' he' sb => ?_⟩
    have hT2 : h''.get? s.heap.objs.size = some { cls := .type "tuple", data := .seq #[.int i tk, x'] } := (sb.2 _ (Nat.ne_of_gt hel)).trans hT
    have new : ObjOk X.prog X.w (upd H s.heap.objs.size (.tup [.int (i : Nat), x])) h'' s.heap.objs.size (.tup [.int (i : Nat), x]) :=
      ⟨by show 2 ≤ sizeLine; decide, [.int i tk, x'], .cons ⟨_, rfl⟩ (.cons ru .nil), ⟨_, hT2, rfl, _, rfl⟩⟩
    have I1 : Inv X pins σ (upd H s.heap.objs.size (.tup [.int (i : Nat), x])) { s with heap := h'', toks := tk + 1 } :=
      I.turnedNew (ch := [e, it]) (fun b ob hb q => (sb.2 b (fun z => hb (by simp [z]))).trans (hk b ob (fun z => hb (by simp [z])) (fun z => hb (by simp [z])) q)) hf (Nat.le_refl _) new
    refine ⟨.ref s.heap.objs.size, _, I1, rfl, ⟨_, x, rfl, I.hok.fresh (Nat.le_refl _), rfl, fun ys hy => by rw [I.tuple_inj hy hq]; exact hx⟩, ⟨⟨x', ?_⟩, hst'.1.at fun o q => (sb.2 it (Ne.symm hne)).trans q, hne⟩, fun b hb => ?_⟩
    · have e1 : ((i + 1 : Nat) : Int) = (i : Int) + 1 := by omega
      rw [e1]; exact he'
    · have hb' : b < s.heap.objs.size := by
        have e' : b = e ∨ b = it := by simpa using hb
        rcases e' with z | z
        · rw [z]; exact hel
        · rw [z]; exact hil
      rw [upd_ne (Nat.ne_of_lt hb')]
      exact (hf b hb).1
  done := by
    intro X hP hw hK hc i pins s σ H E I hf st hg
    subst hP hw hK
    obtain ⟨⟨old, he⟩, hit, hne⟩ := st
    obtain ⟨xs, hq, hx⟩ := hg
    obtain ⟨its, rv, p, hz⟩ := I.tuple hq
    obtain ⟨f0, f1, f2, f3, f4, f5⟩ := hf it (by simp)
    have hl := rv.length
    have hpt : s.heap.IsTuple a its.toArray := p
    have hai : a ≠ it := fun z => by
      obtain ⟨o, ho, hc1, _⟩ := hpt
      obtain ⟨o2, ho2, hc2, _⟩ := hit
      rw [z, ho2] at ho; cases ho
      rw [hc1] at hc2; exact absurd hc2 (by decide)
    have hT : s.TypeIs (.ref e) "enumerate" := ⟨_, he, rfl⟩
    unfold pyNext
    refine wpAny_bind (wpAny_attempt (wpAny_callSpecial?_slot (name := Str.ofString "__next__") hT F.slot_enumerate_next
      (wpAny_call_entry F.slot_enumerate_next hT F.entry_enumerate_next ?_ (F.args_enumerate_next_1 _))))
    show wpAny _ _ (field (.ref e) 2 >>= _) _ _ _
    refine wpAny_bind (wpAny_field he rfl (x := .ref it) rfl ?_)
    refine wpAny_bind (wpAny_nextOf_tuple_end (A := X.A.in1) (I.ok.hd hc) hit hpt (by simp; omega) fun h' x he' hx' => ?_)
    obtain ⟨o, ho, hc'⟩ := hx'
    refine wpAny_bind (wpAny_isInstance (T := "StopIteration") (b := true) ⟨o, ho, hc'⟩ isSubtype_stop ?_)
    exact wpAny_pure ⟨rfl, I.turned (t' := s.toks) (fun b o hb q => he' b o hb q) f0 f1 f3 f4 f5⟩
  self := fun A i s Q E st h => let ⟨⟨_, he⟩, _⟩ := st; wpAny_pyIter_enum he h
/-- enumerate(xs), a list or a tuple -/
def iEnumS (K : PySem.W.Frag) (ta : TA) : TI := fun σ H R => ta σ H fun vs H1 => ∃ a xs, vs = [.ref a] ∧ ((SqL K H1 a xs ∧ R (Ite K a) H1) ∨ (SqT K H1 a xs ∧ R (IteT K a) H1))
theorem pi_enumS {X : Cx} {e : Expr} {ta : TA} {p pos tpos : Pos} {elts : List Expr} {kk : Nat} (hg : Gl X "enumerate") (hm : X.mg "enumerate" = none) (ha : PA X [e] ta) (hs : starEach [e] X.env = [(false, eval e X.env)] := by rfl) :
    PI X (.Tuple elts kk tpos) (.Call (.Name "enumerate" p) [e] [] pos) (iEnumS X.K ta) := by
  refine ⟨fun pins s σ H R I h => ?_⟩
  refine Call_ (ld_blt I hg hm boot_enumerate (PyProof.Rows.callWith_type1 (thn (ha.run pos pins s σ H _ I h) fun us s1 ⟨vs, H1, I1, r1, q1⟩ => ?_) hs rfl))
  obtain ⟨a, xs, ex, q⟩ := q1
  subst ex
  cases r1 with
  | cons r rr =>
    cases rr
    cases r
    have fp : ∀ b ∈ [s1.heap.objs.size + 1, s1.heap.objs.size], FpOk X pins H1 b := fun b hb => by
      have e' : b = s1.heap.objs.size + 1 ∨ b = s1.heap.objs.size := by simpa using hb
      have hle : s1.heap.objs.size ≤ b := by
        rcases e' with z | z
        · rw [z]; exact Nat.le_add_right _ _
        · rw [z]; exact Nat.le_refl _
      exact I1.fpOk hle (I1.hok.fresh hle)
    rcases q with ⟨hq, q⟩ | ⟨hq, q⟩
    · obtain ⟨its, rv, p', hz⟩ := I1.list hq
      refine call_enumerate_list p'.isList fun h' he hit hsz hk => wpAny_pyIter_enum he ?_
      have I2 : Inv X pins σ H1 { s1 with heap := h' } := I1.kept (t' := s1.toks) hk
      exact ⟨s1.heap.objs.size + 1, [s1.heap.objs.size + 1, s1.heap.objs.size], _, _, H1, rfl, I2, turn_enum a (s1.heap.objs.size + 1) s1.heap.objs.size, ⟨⟨.none, he⟩, hit, Nat.succ_ne_self _⟩, fp, q⟩
    · obtain ⟨its, rv, p', hz⟩ := I1.tuple hq
      refine ly_call_enumT p' fun h' he hit hsz hk => wpAny_pyIter_enum he ?_
      have I2 : Inv X pins σ H1 { s1 with heap := h' } := I1.kept (t' := s1.toks) hk
      exact ⟨s1.heap.objs.size + 1, [s1.heap.objs.size + 1, s1.heap.objs.size], _, _, H1, rfl, I2, turn_enumT a (s1.heap.objs.size + 1) s1.heap.objs.size, ⟨⟨.none, he⟩, hit, Nat.succ_ne_self _⟩, fp, q⟩
end Ly
set_option Elab.async false
set_option linter.all false
set_option maxRecDepth 100000
set_option maxHeartbeats 4000000
/-! what is known of values: kinds, lands, decks -/
namespace Ly
open PySem PySem.Spec PyProof.Rows L2

/-! ### kinds -/
inductive Kn (K : PySem.W.Frag) (H : Hp) : V → String → Prop where
  | non : Kn K H .non "NoneType"
  | bl (b : Bool) : Kn K H (.bl b) "bool"
  | int (i : Int) : Kn K H (.int i) "int"
  | str (x : Str) : Kn K H (.str x) "str"
  | lst {a : Addr} {xs : List V} : SqL K H a xs → Kn K H (.ref a) "list"
  | tup {a : Addr} {xs : List V} : SqT K H a xs → Kn K H (.ref a) "tuple"
theorem Kn.ty {K : PySem.W.Frag} {H : Hp} {x : V} {n : String} (h : Kn K H x n) : TyX K H x (.type n) := by
  cases h with
  | non => exact .base .non
  | bl b => exact .base (.bl b)
  | int i => exact .base (.int i)
  | str x => exact .base (.str x)
  | lst h =>
    rcases h with (h | ⟨o, h⟩) | ⟨o, its, n, hk, hc, _⟩
    · exact .base (.lst h)
    · exact .base (.frz h)
    · exact .kList hk hc
  | tup h =>
    rcases h with (h | ⟨o, h⟩) | ⟨o, its, n, hk, hc, _⟩
    · exact .base (.tup h)
    · exact .fTuple h
    · exact .kTuple hk hc
def kindIs (n m : String) : Bool := n == m || (n == "bool" && m == "int")
theorem Kn.kit {K : PySem.W.Frag} {H : Hp} {x : V} {n m : String} (h : Kn K H x n) (hm : m ∈ ["int", "bool", "str", "list", "tuple"]) : PySem.W.kitOne K (.type n) (.type m) = some (kindIs n m) := by
  have hm' : m = "int" ∨ m = "bool" ∨ m = "str" ∨ m = "list" ∨ m = "tuple" := by simpa using hm
  have hn : n = "NoneType" ∨ n = "bool" ∨ n = "int" ∨ n = "str" ∨ n = "list" ∨ n = "tuple" := by
    cases h <;> simp
  rcases hn with rfl | rfl | rfl | rfl | rfl | rfl <;> rcases hm' with rfl | rfl | rfl | rfl | rfl <;> exact kit_ty (by decide +kernel)
def isFrom : V → Int → Int → Bool
  | .int i, lo, hi => decide (lo ≤ i) && decide (i ≤ hi)
  | _, _, _ => false
theorem isFrom_int (i lo hi : Int) : isFrom (.int i) lo hi = (decide (lo ≤ i) && decide (i ≤ hi)) := rfl
theorem isFrom_yes {i lo hi : Int} (h1 : lo ≤ i) (h2 : i ≤ hi) : isFrom (.int i) lo hi = true := by
  rw [isFrom_int, decide_eq_true h1, decide_eq_true h2]; rfl
theorem isFrom_no1 {i lo hi : Int} (h1 : ¬ lo ≤ i) : isFrom (.int i) lo hi = false := by
  rw [isFrom_int, decide_eq_false h1]; rfl
theorem isFrom_mid {i lo hi : Int} (h1 : lo ≤ i) : isFrom (.int i) lo hi = decide (i ≤ hi) := by
  rw [isFrom_int, decide_eq_true h1]; rfl

/-! ### growth -/
theorem Same.nt {H H' : Hp} (_ : Same H H') : True := trivial
theorem Same.t {K : PySem.W.Frag} {H H' : Hp} {a : Addr} {xs : List V} (e : Same H H') (h : SqT K H a xs) : SqT K H' a xs := by
  rcases h with (h | ⟨o, h⟩) | h
  · exact .inl (.inl (e _ _ h))
  · exact .inl (.inr ⟨o, e _ _ h⟩)
  · exact .inr h
theorem Same.l {K : PySem.W.Frag} {H H' : Hp} {a : Addr} {xs : List V} (e : Same H H') (h : SqL K H a xs) : SqL K H' a xs := L2.Same.seq e h
theorem same_new {H : Hp} {p : Addr} {o : HO} (h : H p = none) : Same H (upd H p o) := fun b x e => by
  rw [upd_ne (ne_of_none e h)]
  exact e
/-- the list at d may change, all else is kept -/
structure Gr (d : Addr) (H H' : Hp) : Prop where
  keep : ∀ b o, b ≠ d → H b = some o → H' b = some o
  lst : (∃ xs, H d = some (.lst xs))
  nt : NoT H → NoT H'
theorem Gr.ne {d : Addr} {H H' : Hp} (g : Gr d H H') {b : Addr} {o : HO} (h : H b = some o) (ho : ∀ xs, o ≠ .lst xs) : b ≠ d := fun e => by
  obtain ⟨xs, q⟩ := g.lst
  rw [e, q] at h
  exact ho xs (Option.some.inj h).symm
theorem Gr.t {K : PySem.W.Frag} {d : Addr} {H H' : Hp} {a : Addr} {xs : List V} (g : Gr d H H') (h : SqT K H a xs) : SqT K H' a xs := by
  rcases h with (h | ⟨o, h⟩) | h
  · exact .inl (.inl (g.keep _ _ (g.ne h fun _ z => nomatch z) h))
  · exact .inl (.inr ⟨o, g.keep _ _ (g.ne h fun _ z => nomatch z) h⟩)
  · exact .inr h
theorem Gr.l {K : PySem.W.Frag} {d : Addr} {H H' : Hp} {a : Addr} {xs : List V} (g : Gr d H H') (hne : a ≠ d) (h : SqL K H a xs) : SqL K H' a xs := by
  rcases h with (h | ⟨o, h⟩) | h
  · exact .inl (.inl (g.keep _ _ hne h))
  · exact .inl (.inr ⟨o, g.keep _ _ hne h⟩)
  · exact .inr h
theorem Gr.trans {d : Addr} {H H1 H2 : Hp} (a : Gr d H H1) (b : Gr d H1 H2) : Gr d H H2 := ⟨fun c o n e => b.keep c o n (a.keep c o n e), a.lst, fun n => b.nt (a.nt n)⟩
theorem Gr.refl {d : Addr} {H : Hp} {xs : List V} (h : H d = some (.lst xs)) : Gr d H H := ⟨fun _ _ _ e => e, ⟨xs, h⟩, fun n => n⟩
theorem Gr.put {d : Addr} {H H' : Hp} {ys : List V} (g : Gr d H H') : Gr d H (upd H' d (.lst ys)) := ⟨fun b o n e => by rw [upd_ne n]; exact g.keep b o n e, g.lst, fun n => (g.nt n).lst⟩
theorem Gr.new {d : Addr} {H H' : Hp} {p : Addr} {o : HO} (g : Gr d H H') (h : H' p = none) (ho : Pl o = true) : Gr d H (upd H' p o) := ⟨fun b x n e => by
  have q := g.keep b x n e
  rw [upd_ne (ne_of_none q h)]
  exact q, g.lst, fun n => (g.nt n).upd ho⟩
theorem Gr.same {d : Addr} {H H1 H2 : Hp} (g : Gr d H H1) (s : Same H1 H2) (n : NoT H1 → NoT H2) : Gr d H H2 := ⟨fun b o n e => s b o (g.keep b o n e), g.lst, fun k => n (g.nt k)⟩
theorem Gr.free {d : Addr} {H H' : Hp} {p : Addr} (g : Gr d H H') {ys : List V} (hd : H' d = some (.lst ys)) (h : H' p = none) : H p = none := by
  cases q : H p with
  | none => rfl
  | some o =>
    by_cases e : p = d
    · rw [e, hd] at h; cases h
    · rw [g.keep p o e q] at h; cases h

/-! ### the deck -/
def Dk (n : Nat) (H : Hp) (d : Addr) : Prop := NoT H ∧ ∃ x y z : Int, H d = some (.lst [.int x, .int y, .int z]) ∧ 0 ≤ y ∧ y < 2147483579 ∧ 0 ≤ z ∧ z ≤ (n : Int)
theorem Dk.nt {n : Nat} {H : Hp} {d : Addr} (h : Dk n H d) : NoT H := h.1
theorem Dk.mono {n m : Nat} {H : Hp} {d : Addr} (h : Dk n H d) (e : n ≤ m) : Dk m H d := by
  obtain ⟨a, x, y, z, h1, h2, h3, h4, h5⟩ := h
  exact ⟨a, x, y, z, h1, h2, h3, h4, by omega⟩
theorem Dk.lst {n : Nat} {H : Hp} {d : Addr} (h : Dk n H d) : ∃ xs, H d = some (.lst xs) := by
  obtain ⟨_, x, y, z, h1, _⟩ := h
  exact ⟨_, h1⟩
/-- a new thing beside the deck -/
theorem Dk.new {n : Nat} {H : Hp} {d p : Addr} {o : HO} (h : Dk n H d) (hp : H p = none) (ho : Pl o = true) : Dk n (upd H p o) d := by
  obtain ⟨a, x, y, z, h1, h2⟩ := h
  exact ⟨a.upd ho, x, y, z, by rw [upd_ne (ne_of_none h1 hp)]; exact h1, h2⟩
theorem Dk.same {n : Nat} {H H' : Hp} {d : Addr} (h : Dk n H d) (s : Same H H') (n' : NoT H') : Dk n H' d := by
  obtain ⟨a, x, y, z, h1, h2⟩ := h
  exact ⟨n', x, y, z, s _ _ h1, h2⟩
theorem Dk.ne_t {n : Nat} {H : Hp} {d a : Addr} {xs : List V} (h : Dk n H d) (ht : H a = some (.tup xs)) : a ≠ d := fun e => by
  obtain ⟨_, x, y, z, h1, _⟩ := h
  rw [e, h1] at ht; cases ht

/-! ### lands -/
/-- the land at a -/
def Ld (K : PySem.W.Frag) (H : Hp) (a : Addr) (d t b s : Int) : Prop := SqT K H a [.int d, .int t, .int b, .int s]
end Ly
set_option Elab.async false
set_option linter.all false
set_option maxRecDepth 100000
set_option maxHeartbeats 4000000
/-! the same data; comprehensions over enumerate -/
namespace Ly
open PySem PySem.Spec PyProof.Rows L2
/-- x and y are the same data, at most k deep -/
inductive Sm (K : PySem.W.Frag) (H : Hp) : Nat → V → V → Prop where
  | non (k : Nat) : Sm K H k .non .non
  | bl (k : Nat) (b : Bool) : Sm K H k (.bl b) (.bl b)
  | int (k : Nat) (i : Int) : Sm K H k (.int i) (.int i)
  | str (k : Nat) (x : Str) (h : PyData.strOk x = true) : Sm K H k (.str x) (.str x)
  | lst {k : Nat} {a b : Addr} {xs ys : List V} : SqL K H a xs → SqL K H b ys → xs.length = ys.length → (∀ (i : Nat) x y, xs[i]? = some x → ys[i]? = some y → Sm K H k x y) → Sm K H (k + 1) (.ref a) (.ref b)
  | tup {k : Nat} {a b : Addr} {xs ys : List V} : SqT K H a xs → SqT K H b ys → xs.length = ys.length → (∀ (i : Nat) x y, xs[i]? = some x → ys[i]? = some y → Sm K H k x y) → Sm K H (k + 1) (.ref a) (.ref b)
theorem Sm.mono {K : PySem.W.Frag} {H H' : Hp} (s : Same H H') : ∀ {k : Nat} {x y : V}, Sm K H k x y → Sm K H' k x y := by
  intro k x y h
  induction h with
  | non k => exact .non k
  | bl k b => exact .bl k b
  | int k i => exact .int k i
  | str k x h => exact .str k x h
  | lst h1 h2 h3 _ ih => exact .lst (Same.l s h1) (Same.l s h2) h3 ih
  | tup h1 h2 h3 _ ih => exact .tup (Same.t s h1) (Same.t s h2) h3 ih
theorem Sm.kinds {K : PySem.W.Frag} {H : Hp} {k : Nat} {x y : V} (h : Sm K H k x y) : ∃ n, Kn K H x n ∧ Kn K H y n := by
  cases h with
  | non => exact ⟨_, .non, .non⟩
  | bl _ b => exact ⟨_, .bl b, .bl b⟩
  | int _ i => exact ⟨_, .int i, .int i⟩
  | str _ x _ => exact ⟨_, .str x, .str x⟩
  | lst h1 h2 => exact ⟨_, .lst h1, .lst h2⟩
  | tup h1 h2 => exact ⟨_, .tup h1, .tup h2⟩
theorem Sm.up {K : PySem.W.Frag} {H : Hp} : ∀ {k j : Nat} {x y : V}, Sm K H k x y → k ≤ j → Sm K H j x y := by
  intro k j x y h
  induction h generalizing j with
  | non k => intro _; exact .non _
  | bl k b => intro _; exact .bl _ b
  | int k i => intro _; exact .int _ i
  | str k x h => intro _; exact .str _ x h
  | lst h1 h2 h3 _ ih =>
    intro e
    obtain ⟨j, rfl⟩ : ∃ i, j = i + 1 := ⟨j - 1, by omega⟩
    exact .lst h1 h2 h3 fun i x y a b => ih i x y a b (by omega)
  | tup h1 h2 h3 _ ih =>
    intro e
    obtain ⟨j, rfl⟩ : ∃ i, j = i + 1 := ⟨j - 1, by omega⟩
    exact .tup h1 h2 h3 fun i x y a b => ih i x y a b (by omega)
/-- lists of ints -/
theorem Sm.ints {K : PySem.W.Frag} {H : Hp} {a b : Addr} {ns : List Int} (h1 : SqL K H a (ns.map V.int)) (h2 : SqL K H b (ns.map V.int)) : Sm K H 1 (.ref a) (.ref b) :=
  .lst h1 h2 rfl fun i x y e1 e2 => by
    rw [e1] at e2
    cases e2
    rw [List.getElem?_map] at e1
    cases q : ns[i]? with
    | none => rw [q] at e1; cases e1
    | some z => rw [q] at e1; cases e1; exact .int 0 z
theorem Sm.tints {K : PySem.W.Frag} {H : Hp} {a b : Addr} {ns : List Int} (h1 : SqT K H a (ns.map V.int)) (h2 : SqT K H b (ns.map V.int)) : Sm K H 1 (.ref a) (.ref b) :=
  .tup h1 h2 rfl fun i x y e1 e2 => by
    rw [e1] at e2
    cases e2
    rw [List.getElem?_map] at e1
    cases q : ns[i]? with
    | none => rw [q] at e1; cases e1
    | some z => rw [q] at e1; cases e1; exact .int 0 z
def sortOf (n : String) : Int := if n = "bool" then 1 else if n = "int" then 2 else if n = "str" then 3 else if n = "list" then 4 else if n = "tuple" then 5 else 6
/-! ### comprehensions over enumerate -/
section
variable {K : PySem.W.Frag} {a : Addr} {xs : List V} {g : TG} {tt : TT} {te : TE} {vs : List Nat} {σ : L2.St} {H1 : Hp} {D : Addr} {Qd : Hp → Prop}
theorem lc_enumL (Pv : Nat → Hp → Prop) (h0 : Pv 0 (upd H1 D (.lst []))) (hl : ∀ i H, i ≤ xs.length → Pv i H → SqL K H a xs)
    (hs : ∀ (i : Nat) x T H, xs[i]? = some x → H T = none → Pv i H → g (.ref T) (wipe σ vs) (upd H T (.tup [.int (i : Nat), x])) fun σ2 H2 => wipe σ2 vs = wipe σ vs ∧ tt σ2 H2 fun b H3 =>
      if b = true then te σ2 H3 fun y H4 => ∃ acc, H4 D = some (.lst acc) ∧ acc.length < sizeLine ∧ Pv (i + 1) (upd H4 D (.lst (acc ++ [y]))) else Pv (i + 1) H3) (hd : ∀ H, Pv xs.length H → Qd H) :
    ∃ W : Nat → Nat → Hp → Prop, (∃ m, W 0 m (upd H1 D (.lst []))) ∧ ∀ i m H, W i m H →
      ((Ite K a).stop i H ∧ Qd H) ∨ ((Ite K a).go i H ∧ ∃ Nx : Hp → Prop, (∀ H', Nx H' → ∃ m', m' < m ∧ W (i + 1) m' H') ∧ ∀ x H', (Ite K a).yld i H x H' → g x (wipe σ vs) H' fun σ2 H2 => wipe σ2 vs = wipe σ vs ∧ tt σ2 H2 fun b H3 =>
        if b = true then te σ2 H3 fun y H4 => ∃ acc, H4 D = some (.lst acc) ∧ acc.length < sizeLine ∧ Nx (upd H4 D (.lst (acc ++ [y]))) else Nx H3) := by
  refine ⟨fun i m H => m = xs.length - i ∧ i ≤ xs.length ∧ Pv i H, ⟨xs.length, by simp, Nat.zero_le _, h0⟩, ?_⟩
  rintro i m H ⟨rfl, hi, p⟩
  have q := hl i H hi p
  by_cases hlt : i < xs.length
  · refine .inr ⟨⟨xs, xs[i], q, by simp [hlt]⟩, Pv (i + 1), fun H' p' => ⟨xs.length - (i + 1), by omega, rfl, hlt, p'⟩, fun x H' y => ?_⟩
    obtain ⟨T, z, e1, e2, e3, y⟩ := y
    subst e1 e3
    exact hs i z T _ (y xs q) e2 p
  · have e : i = xs.length := by omega
    subst e
    exact .inl ⟨⟨xs, q, Nat.le_refl _⟩, hd H p⟩
theorem lc_enumT (Pv : Nat → Hp → Prop) (h0 : Pv 0 (upd H1 D (.lst []))) (hl : ∀ i H, i ≤ xs.length → Pv i H → SqT K H a xs)
    (hs : ∀ (i : Nat) x T H, xs[i]? = some x → H T = none → Pv i H → g (.ref T) (wipe σ vs) (upd H T (.tup [.int (i : Nat), x])) fun σ2 H2 => wipe σ2 vs = wipe σ vs ∧ tt σ2 H2 fun b H3 =>
      if b = true then te σ2 H3 fun y H4 => ∃ acc, H4 D = some (.lst acc) ∧ acc.length < sizeLine ∧ Pv (i + 1) (upd H4 D (.lst (acc ++ [y]))) else Pv (i + 1) H3) (hd : ∀ H, Pv xs.length H → Qd H) :
    ∃ W : Nat → Nat → Hp → Prop, (∃ m, W 0 m (upd H1 D (.lst []))) ∧ ∀ i m H, W i m H →
      ((IteT K a).stop i H ∧ Qd H) ∨ ((IteT K a).go i H ∧ ∃ Nx : Hp → Prop, (∀ H', Nx H' → ∃ m', m' < m ∧ W (i + 1) m' H') ∧ ∀ x H', (IteT K a).yld i H x H' → g x (wipe σ vs) H' fun σ2 H2 => wipe σ2 vs = wipe σ vs ∧ tt σ2 H2 fun b H3 =>
        if b = true then te σ2 H3 fun y H4 => ∃ acc, H4 D = some (.lst acc) ∧ acc.length < sizeLine ∧ Nx (upd H4 D (.lst (acc ++ [y]))) else Nx H3) := by
  refine ⟨fun i m H => m = xs.length - i ∧ i ≤ xs.length ∧ Pv i H, ⟨xs.length, by simp, Nat.zero_le _, h0⟩, ?_⟩
  rintro i m H ⟨rfl, hi, p⟩
  have q := hl i H hi p
  by_cases hlt : i < xs.length
  · refine .inr ⟨⟨xs, xs[i], q, by simp [hlt]⟩, Pv (i + 1), fun H' p' => ⟨xs.length - (i + 1), by omega, rfl, hlt, p'⟩, fun x H' y => ?_⟩
    obtain ⟨T, z, e1, e2, e3, y⟩ := y
    subst e1 e3
    exact hs i z T _ (y xs q) e2 p
  · have e : i = xs.length := by omega
    subst e
    exact .inl ⟨⟨xs, q, Nat.le_refl _⟩, hd H p⟩
end
end Ly
namespace Ly
open PySem
theorem sh_bl (b : Bool) : SeqAt.shaped (.bool b) = true := by first | rfl | (cases b <;> decide)
theorem sh_int (i : Int) : SeqAt.shaped (.int i) = true := by first | rfl | simp [SeqAt.shaped, PyData.canLay0, PyData.depth]
theorem sh_str {x : Str} (h : PyData.strOk x = true) : SeqAt.shaped (.str x) = true := by simp [SeqAt.shaped, PyData.canLay0, PyData.depth, h]
theorem ev_bl (b : Bool) : PyData.eqv (.bool b) (.bool b) = true := by simp [PyData.eqv]
theorem ev_int (i : Int) : PyData.eqv (.int i) (.int i) = true := by simp [PyData.eqv]
theorem ev_str (x : Str) : PyData.eqv (.str x) (.str x) = true := by simp [PyData.eqv]
end Ly
set_option Elab.async false
set_option linter.all false
set_option maxRecDepth 100000
set_option maxHeartbeats 4000000
namespace Ly
open PySem PySem.Spec PyProof.Rows L2
theorem cells_int {ns : List Int} {k : Int} {i : Nat} {x : V} (h : (cutV ([V.int 0] ++ ns.map V.int) none (some k))[i]? = some x) : ∃ c, x = .int c := by
  have m := List.mem_of_getElem? h
  unfold cutV at m
  have m2 := List.mem_of_mem_drop (List.mem_of_mem_take m)
  rcases List.mem_append.mp m2 with e | e
  · exact ⟨0, by simpa using e⟩
  · obtain ⟨c, _, e⟩ := List.mem_map.mp e
    exact ⟨c, e.symm⟩
theorem sz63 {n : Nat} (h : n ≤ 63) : 1 + n ≤ sizeLine := by rw [sizeLine_eq]; omega
theorem sz_small {n : Nat} (h : n < 100000) : n < sizeLine := by rw [sizeLine_eq]; omega
/-- so many ones -/
def ones (n : Nat) : List V := List.replicate n (.int 1)
theorem ones_len (n : Nat) : (ones n).length = n := List.length_replicate
theorem ones_succ (n : Nat) : ones n ++ [.int 1] = ones (n + 1) := by
  unfold ones
  rw [List.replicate_succ']
end Ly
set_option Elab.async false
set_option linter.all false
set_option maxRecDepth 100000
set_option maxHeartbeats 4000000
/-! set(list), comprehensions over zip -/
namespace Ly
open PySem PySem.Spec PyProof.Rows L2
/-- an empty set object of this world -/
abbrev set0 (w : World) : Obj := { cls := .type "set", dict := none, data := .set #[] 0 (.fresh 0 0 (!w.params.followText "set-order")) }
section
variable {P : Program} {w : World} {A : Around} {E : Value → Shared → Prop} {s : Shared}
theorem set_of_ints {l : Addr} {items : Array Value} (ns : List Int) {Q : Value → Shared → Prop} (hh : A.handled = none) (hl : s.heap.IsList l items) (hit : IntsAre items.toList ns) (hb : ns.length + 1 < scanBound)
    (fin : ∀ (h' : Heap) (tk c : Nat), SetR w h' s.heap.objs.size (fun j => decide (j ∈ ns)) c → c ≤ ns.length → (∀ b o, s.heap.get? b = some o → h'.get? b = some o) → Q (.ref s.heap.objs.size) { s with heap := h', toks := tk }) :
    wpAny (model P w) A (call (.type "set") [.ref l]) Q E s := by
  have zn : items.size = ns.length := by
    rw [← Array.length_toList]
    exact IntsAre.length hit
  obtain ⟨c, tl, hmro⟩ := F.called_set.mro
  have m1 := F.called_set.made
  have m2 := F.called_set.sub
  refine wpAny_call (codeAny_of_tree ?_)
  show wpAny _ _ (callAny (.type "set") _) _ _ _
  refine wpAny_pure ⟨Code.quiet_builtin _ (by decide +kernel), codeAny_builtin F.entry_type_call ?_⟩
  rw [Around.under_plain (weight_type_call_type "set" [.ref l] []) rfl]
  have m3 := F.called_set.notType
  have m4 := F.called_set.canCreate
  have m5 := F.typeCall_set_1 (.ref l)
  repeat (any_goals (first | assumption | wp_step))
  refine codeAny_mono (code_set_led1 (.ref l) (E := E) (Q₁ := fun ob t => ob = .ref s.heap.objs.size ∧ t = { s with heap := s.heap.push (set0 w) }) ⟨rfl, rfl⟩) fun r s1 hr => ?_
  cases r with
  | error e => exact hr
  | ok fl =>
    cases fl with
    | ret ob =>
      obtain ⟨rfl, rfl⟩ := hr
      have g0 : (s.heap.push (set0 w)).get? s.heap.objs.size = some (set0 w) := Heap.get?_push_size _ rfl
      have ty : Shared.TypeIs { s with heap := s.heap.push (set0 w) } (.ref s.heap.objs.size) "set" := ⟨_, g0, rfl⟩
      have i1 := F.called_set.init.lookup
      have i2 := F.called_set.init.bind (.ref s.heap.objs.size)
      repeat (any_goals (first | assumption | wp_step))
      refine codeAny_mono (codeAny_call_builtin (R := wants (fun r t => r = .none ∧ ∃ h' tk c, t = { s with heap := h', toks := tk } ∧ SetR w h' s.heap.objs.size (fun j => decide (j ∈ ns)) c ∧ c ≤ ns.length ∧
          (∀ b o, s.heap.get? b = some o → h'.get? b = some o)) E) F.called_set.init.plain F.entry_set_init (check_set_init_1 ty ?_)) fun r2 s2 hr2 => ?_
      · obtain ⟨⟨oc, od, odt, osl⟩, ho, e1, nl, e2⟩ := hl
        simp only at e1 e2
        subst e1; subst e2
        have ho' : (s.heap.push (set0 w)).get? l = some { cls := .type "list", dict := od, data := .seq items nl, slots := osl } := Heap.get?_push_of_some _ ho
        have n1 := F.sub_list_set
        have n2 := F.sub_list_frozenset
        have n3 : (Value.type "list" == Value.type "dict") = false := by decide
        have hl1 : (s.heap.push (set0 w)).IsList l items := ⟨_, ho', rfl, nl, rfl⟩
        unfold Builtin.«set.__init__» noKeywords Builtin.Frozenset.updateFrom
        generalize hPI : pyIter = PI
        wp_walk
        subst hPI
        refine wpAny_pyIter_list hl1 ?_
        refine wpAny_bind (wpAny_runValue ?_)
        have lt : l < s.heap.objs.size := Heap.lt_size ho
        have h3 : A.in1.in1.in1.handled = none := by simp [hh]
        have ne : l ≠ (s.heap.push (set0 w)).objs.size := by
          rw [Heap.size_push]; exact Nat.ne_of_lt (Nat.lt_succ_of_lt lt)
        have nf : s.heap.objs.size ∉ [(s.heap.push (set0 w)).objs.size, l] := by
          rw [Heap.size_push]
          simp only [List.mem_cons, List.not_mem_nil, or_false, not_or]
          exact ⟨Nat.ne_of_lt (Nat.lt_succ_self _), Nat.ne_of_gt lt⟩
        have val : ∀ (i : Nat) (v : Value), items[i]? = some v → ∃ k t, ns[i]? = some k ∧ v = .int k t := fun i v hv => by
          have hi : i < ns.length := by rw [← zn]; exact (Array.getElem?_eq_some_iff.mp hv).1
          obtain ⟨t, e⟩ := PyProof.Rows.IntsAre.int_at hit i v (by rw [Array.getElem?_toList]; exact hv)
          refine ⟨ns[i], t, List.getElem?_eq_getElem hi, ?_⟩
          rw [e, List.getD_eq_getElem?_getD, List.getElem?_eq_getElem hi] <;> rfl
        refine set_update_ints ((Walks.list h3 _ l ne items).toS) s.heap.objs.size nf ns zn hb val (items.size - 0) 0 _ (by omega) (Nat.zero_le _)
          ⟨⟨_, Heap.get?_push_size _ rfl, rfl, rfl⟩, (hl1.push _)⟩ ⟨0, Nat.le_refl 0, setR_new_at (Heap.get?_push_of_some _ g0)⟩ fun s' c' hm hc' hS' => ?_
        obtain ⟨h', g2, d', tk', os'⟩ := s'
        have eg : g2 = s.gens := hm.gens
        have ed : d' = s.drawn := hm.drawn
        have eo : os' = s.os := hm.os
        subst eg; subst ed; subst eo
        show wpAny _ _ _ _ _ _
        refine wpAny_pure ?_
        show wpAny _ _ (ret Value.none) _ _ _
        rw [zn] at hc'
        refine wpAny_pure ⟨rfl, h', tk', c', rfl, hS', hc', fun b o e => ?_⟩
        have b0 : b < s.heap.objs.size := Heap.lt_size e
        refine hm.heap b o ?_ (Heap.get?_push_of_some _ (Heap.get?_push_of_some _ e))
        rw [Heap.size_push]
        simp only [List.mem_cons, List.not_mem_nil, or_false, not_or]
        exact ⟨Nat.ne_of_lt b0, Nat.ne_of_lt (Nat.lt_succ_of_lt b0)⟩
      · cases r2 with
        | error e => exact hr2
        | ok fl2 =>
          cases fl2 with
          | ret r =>
            obtain ⟨rfl, h', tk, c', rfl, a1, a2, a3⟩ := hr2
            repeat (any_goals (first | assumption | wp_step))
            exact fin _ _ _ a1 a2 a3
          | _ => exact hr2.elim
    | _ => exact hr.elim
end
section
variable {X : Cx}
/-- set(xs), a list of ints -/
def rSetOf (K : PySem.W.Frag) (w : World) : List V → Hp → VK → Prop := fun vs H Q => ∃ (a : Addr) (ns : List Int), vs = [.ref a] ∧ SqL K H a (ns.map V.int) ∧ ns.length ≤ 2000 ∧
  ∀ p c, H p = none → c ≤ ns.length → Q (.ref p) (upd H p (SetO w p (fun j => decide (j ∈ ns)) c))
theorem cr_setOf (hc : X.calm = true) : CallR X (.type "set") (rSetOf X.K X.w) := by
  intro pins s σ H vs us Q I r h
  obtain ⟨a, ns, rfl, hq, hl, q⟩ := h
  obtain rfl := Vals.ref1 r
  obtain ⟨its, rv, p, hz⟩ := I.list hq
  refine set_of_ints (items := its.toArray) ns (I.ok.hd hc) p.isList (by simpa using Vals.ints rv) (by unfold scanBound; omega) fun h' tk c hS hc' hk => ?_
  exact ⟨.ref _, upd H s.heap.objs.size (SetO X.w s.heap.objs.size (fun j => decide (j ∈ ns)) c), I.laid hk (Nat.le_refl _) (setO_new hS), rfl, q _ c I.fresh hc'⟩
theorem pl_set {w : World} {p : Addr} {S : Int → Bool} {n : Nat} : Pl (SetO w p S n) = true := rfl
end
/-! ### comprehensions over zip of two lists -/
section
variable {K : PySem.W.Frag} {a b : Addr} {xs ys : List V} {g : TG} {tt : TT} {te : TE} {vs : List Nat} {σ : L2.St} {H1 : Hp} {D : Addr} {Qd : Hp → Prop}
theorem lc_zipL (Pv : Nat → Hp → Prop) (h0 : Pv 0 (upd H1 D (.lst []))) (hl : ∀ i H, Pv i H → SqL K H a xs ∧ SqL K H b ys)
    (hs : ∀ (i : Nat) x y T H, xs[i]? = some x → ys[i]? = some y → H T = none → Pv i H → g (.ref T) (wipe σ vs) (upd H T (.tup [x, y])) fun σ2 H2 => wipe σ2 vs = wipe σ vs ∧ tt σ2 H2 fun b H3 =>
      if b = true then te σ2 H3 fun y H4 => ∃ acc, H4 D = some (.lst acc) ∧ acc.length < sizeLine ∧ Pv (i + 1) (upd H4 D (.lst (acc ++ [y]))) else Pv (i + 1) H3) (hd : ∀ H, Pv (min xs.length ys.length) H → Qd H) :
    ∃ W : Nat → Nat → Hp → Prop, (∃ m, W 0 m (upd H1 D (.lst []))) ∧ ∀ i m H, W i m H →
      ((Itz K a b).stop i H ∧ Qd H) ∨ ((Itz K a b).go i H ∧ ∃ Nx : Hp → Prop, (∀ H', Nx H' → ∃ m', m' < m ∧ W (i + 1) m' H') ∧ ∀ x H', (Itz K a b).yld i H x H' → g x (wipe σ vs) H' fun σ2 H2 => wipe σ2 vs = wipe σ vs ∧ tt σ2 H2 fun b H3 =>
        if b = true then te σ2 H3 fun y H4 => ∃ acc, H4 D = some (.lst acc) ∧ acc.length < sizeLine ∧ Nx (upd H4 D (.lst (acc ++ [y]))) else Nx H3) := by
  refine ⟨fun i m H => m = min xs.length ys.length - i ∧ i ≤ min xs.length ys.length ∧ Pv i H, ⟨min xs.length ys.length, by simp, Nat.zero_le _, h0⟩, ?_⟩
  rintro i m H ⟨rfl, hi, p⟩
  obtain ⟨q1, q2⟩ := hl i H p
  by_cases hlt : i < min xs.length ys.length
  · have l1 : i < xs.length := by omega
    have l2 : i < ys.length := by omega
    refine .inr ⟨⟨xs, ys, xs[i], ys[i], q1, q2, List.getElem?_eq_getElem l1, List.getElem?_eq_getElem l2⟩, Pv (i + 1), fun H' p' => ⟨min xs.length ys.length - (i + 1), by omega, rfl, hlt, p'⟩, fun x H' z => ?_⟩
    obtain ⟨T, u, v, e1, e2, e3, f1, f2⟩ := z
    subst e1 e3
    exact hs i u v T _ (f1 xs q1) (f2 ys q2) e2 p
  · have e : i = min xs.length ys.length := by omega
    subst e
    exact .inl ⟨⟨xs, ys, q1, q2, by omega⟩, hd H p⟩
end
end Ly
set_option Elab.async false
set_option linter.all false
set_option maxRecDepth 100000
set_option maxHeartbeats 4000000
/-! comparisons of lists of ints; comprehensions -/
namespace Ly
open PySem PySem.Spec PyProof.Rows L2
theorem dp_ints {K : PySem.W.Frag} {H : Hp} : ∀ ns : List Int, DpAll K H (ns.map V.int) (ns.map PyData.int)
  | [] => .nil
  | n :: ns => .cons (.int n) (dp_ints ns)
theorem eqv_ints : ∀ ns ms : List Int, PyData.eqvAll (ns.map PyData.int) (ms.map PyData.int) = decide (ns = ms)
  | [], [] => by simp [PyData.eqvAll]
  | [], _ :: _ => by simp [PyData.eqvAll]
  | _ :: _, [] => by simp [PyData.eqvAll]
  | a :: r, b :: t => by
    simp only [List.map_cons, PyData.eqvAll, PyData.eqv, eqv_ints r t]
    by_cases h : a = b <;> by_cases h' : r = t <;> simp [h, h']
theorem sh_ints (ns : List Int) : SeqAt.shaped (.list (ns.map PyData.int)) = true := PySem.W.ke_shaped_ints ns
theorem sh_tints (ns : List Int) : SeqAt.shaped (.tuple (ns.map PyData.int)) = true := by
  simp [SeqAt.shaped, PyData.canLay0, PyData.depth, PySem.W.ke_canLayAll0, PySem.W.ke_depthAll]
section
variable {K : PySem.W.Frag} {H : Hp} {a b : Addr} {ns ms : List Int} {Q : VK}
theorem ne_ints (h1 : SqL K H a (ns.map V.int)) (h2 : SqL K H b (ms.map V.int)) (q : Q (.bl (!decide (ns = ms))) H) : rNeD K (.ref a) (.ref b) H Q :=
  ⟨_, _, .lst h1 (dp_ints ns), .lst h2 (dp_ints ms), sh_ints _, sh_ints _, by
    rw [show PyData.eqv (.list (ns.map PyData.int)) (.list (ms.map PyData.int)) = decide (ns = ms) by rw [← eqv_ints]; simp only [PyData.eqv]]
    exact q⟩
theorem eq_ints (h1 : SqL K H a (ns.map V.int)) (h2 : SqL K H b (ms.map V.int)) (q : Q (.bl (decide (ns = ms))) H) : rEqD K (.ref a) (.ref b) H Q :=
  ⟨_, _, .lst h1 (dp_ints ns), .lst h2 (dp_ints ms), sh_ints _, sh_ints _, by
    rw [show PyData.eqv (.list (ns.map PyData.int)) (.list (ms.map PyData.int)) = decide (ns = ms) by rw [← eqv_ints]; simp only [PyData.eqv]]
    exact q⟩
theorem ne_tints (h1 : SqT K H a (ns.map V.int)) (h2 : SqT K H b (ms.map V.int)) (q : Q (.bl (!decide (ns = ms))) H) : rNeD K (.ref a) (.ref b) H Q :=
  ⟨_, _, .tup h1 (dp_ints ns), .tup h2 (dp_ints ms), sh_tints _, sh_tints _, by
    rw [show PyData.eqv (.tuple (ns.map PyData.int)) (.tuple (ms.map PyData.int)) = decide (ns = ms) by rw [← eqv_ints]; simp only [PyData.eqv]]
    exact q⟩
theorem eq_tints (h1 : SqT K H a (ns.map V.int)) (h2 : SqT K H b (ms.map V.int)) (q : Q (.bl (decide (ns = ms))) H) : rEqD K (.ref a) (.ref b) H Q :=
  ⟨_, _, .tup h1 (dp_ints ns), .tup h2 (dp_ints ms), sh_tints _, sh_tints _, by
    rw [show PyData.eqv (.tuple (ns.map PyData.int)) (.tuple (ms.map PyData.int)) = decide (ns = ms) by rw [← eqv_ints]; simp only [PyData.eqv]]
    exact q⟩
theorem ne_nil (h1 : SqL K H a (ns.map V.int)) (h2 : SqL K H b []) (q : Q (.bl (!decide (ns = []))) H) : rNeD K (.ref a) (.ref b) H Q := ne_ints (ms := []) h1 h2 q
theorem eq_nil (h1 : SqL K H a (ns.map V.int)) (h2 : SqL K H b []) (q : Q (.bl (decide (ns = []))) H) : rEqD K (.ref a) (.ref b) H Q := eq_ints (ms := []) h1 h2 q
end
/-- one more thing behind what is made -/
theorem acc_put {H : Hp} {D : Addr} {acc acc' : List V} {y : V} (hl : acc.length < sizeLine) (e : acc ++ [y] = acc') : ∃ a, (upd H D (.lst acc)) D = some (.lst a) ∧ a.length < sizeLine ∧ upd (upd H D (.lst acc)) D (.lst (a ++ [y])) = upd H D (.lst acc') := by
  subst e
  exact ⟨acc, upd_same, hl, by rw [upd_upd]⟩
theorem take_put {xs : List Int} {i : Nat} {x : Int} (h : xs[i]? = some x) : (xs.take i).map V.int ++ [.int x] = (xs.take (i + 1)).map V.int := by
  rw [List.take_succ, h, List.map_append]; rfl
theorem take_len {xs : List Int} {i : Nat} (h : xs.length < 100000) : ((xs.take i).map V.int).length < sizeLine := by
  rw [List.length_map, List.length_take]
  exact sz_small (by omega)
/-- [f(x) for x in xs], ints -/
theorem lc_mapI {K : PySem.W.Frag} {a : Addr} {ns : List Int} {f : Int → Int} {g : Nat} {te : TE} {vs : List Nat} {σ : L2.St} {H : Hp} {D : Addr} {Qd : Hp → Prop} (hS : SqL K H a (ns.map V.int)) (hD : H D = none) (hl : ns.length < 100000)
    (hw : ∀ x, wipe ((wipe σ vs).set g (some x)) vs = wipe σ vs)
    (he : ∀ (i : Nat) n H', ns[i]? = some n → Same H H' → ∀ Q : VK, Q (.int (f n)) H' → te ((wipe σ vs).set g (some (.int n))) H' Q)
    (hd : Qd (upd H D (.lst ((ns.map f).map V.int)))) :
    ∃ W : Nat → Nat → Hp → Prop, (∃ m, W 0 m (upd H D (.lst []))) ∧ ∀ i m H, W i m H →
      ((Itl K a).stop i H ∧ Qd H) ∨ ((Itl K a).go i H ∧ ∃ Nx : Hp → Prop, (∀ H', Nx H' → ∃ m', m' < m ∧ W (i + 1) m' H') ∧ ∀ x H', (Itl K a).yld i H x H' → gName g x (wipe σ vs) H' fun σ2 H2 => wipe σ2 vs = wipe σ vs ∧ tYes σ2 H2 fun b H3 =>
        if b = true then te σ2 H3 fun y H4 => ∃ acc, H4 D = some (.lst acc) ∧ acc.length < sizeLine ∧ Nx (upd H4 D (.lst (acc ++ [y]))) else Nx H3) := by
  refine lc_list (xs := ns.map V.int) (fun i H' => H' = upd H D (.lst (((ns.map f).take i).map V.int))) rfl (fun i H' _ p => by subst p; exact Same.l (same_new hD) hS) (fun i x H' hx p => ?_) (fun H' p => ?_)
  · subst p
    rw [List.getElem?_map] at hx
    cases q : ns[i]? with
    | none => rw [q] at hx; cases hx
    | some n =>
      rw [q] at hx
      cases hx
      refine ⟨hw _, ?_⟩
      show te _ _ _
      refine he i n _ q (same_new hD) _ ?_
      exact acc_put (take_len (by rw [List.length_map]; exact hl)) (take_put (x := f n) (by rw [List.getElem?_map, q]; rfl))
  · subst p
    rw [List.length_map, List.take_of_length_le (by rw [List.length_map]; exact Nat.le_refl _)]
    exact hd
/-- [x for x in range(..) if p(x)] -/
theorem lc_flt {lo : Int} {n : Nat} {p : Int → Bool} {g : Nat} {tt : TT} {vs : List Nat} {σ : L2.St} {H : Hp} {D : Addr} {Qd : Hp → Prop} (hD : H D = none) (hl : n < 100000)
    (hw : ∀ x, wipe ((wipe σ vs).set g (some x)) vs = wipe σ vs) (hi : ∀ x, ((wipe σ vs).set g (some x))[g]? = some (some x))
    (ht : ∀ (i : Nat) H', i < n → Same H H' → ∀ Q : Bool → Hp → Prop, Q (p (lo + i)) H' → tt ((wipe σ vs).set g (some (.int (lo + i)))) H' Q)
    (hd : Qd (upd H D (.lst ((flt p lo n).map V.int)))) :
    ∃ W : Nat → Nat → Hp → Prop, (∃ m, W 0 m (upd H D (.lst []))) ∧ ∀ i m H, W i m H →
      ((Itr lo n).stop i H ∧ Qd H) ∨ ((Itr lo n).go i H ∧ ∃ Nx : Hp → Prop, (∀ H', Nx H' → ∃ m', m' < m ∧ W (i + 1) m' H') ∧ ∀ x H', (Itr lo n).yld i H x H' → gName g x (wipe σ vs) H' fun σ2 H2 => wipe σ2 vs = wipe σ vs ∧ tt σ2 H2 fun b H3 =>
        if b = true then tVar g σ2 H3 fun y H4 => ∃ acc, H4 D = some (.lst acc) ∧ acc.length < sizeLine ∧ Nx (upd H4 D (.lst (acc ++ [y]))) else Nx H3) := by
  refine lc_range (lo := lo) (n := n) (fun i H' => H' = upd H D (.lst ((flt p lo i).map V.int))) rfl (fun i H' hi' q => ?_) (fun H' q => ?_)
  · subst q
    refine ⟨hw _, ht i _ hi' (same_new hD) _ ?_⟩
    have fl := flt_len (p := p) (a := lo) (n := i)
    cases c : p (lo + i) with
    | true =>
      refine iteT ⟨_, hi _, ?_⟩
      refine acc_put (by rw [List.length_map]; exact sz_small (by omega)) ?_
      show _ = ((if p (lo + i) = true then _ else _ : List Int).map V.int)
      rw [if_pos c, List.map_append]
      rfl
    | false =>
      refine iteF ?_
      show _ = upd H D (.lst ((if p (lo + i) = true then _ else _ : List Int).map V.int))
      rw [if_neg (by rw [c]; decide)]
  · subst q
    exact hd
/-- [x for x in xs if p(x)], ints -/
theorem lc_fltL {K : PySem.W.Frag} {a : Addr} {ns : List Int} {p : Int → Bool} {g : Nat} {tt : TT} {vs : List Nat} {σ : L2.St} {H : Hp} {D : Addr} {Qd : Hp → Prop} (hS : SqL K H a (ns.map V.int)) (hD : H D = none) (hl : ns.length < 100000)
    (hw : ∀ x, wipe ((wipe σ vs).set g (some x)) vs = wipe σ vs) (hi : ∀ x, ((wipe σ vs).set g (some x))[g]? = some (some x))
    (ht : ∀ (i : Nat) n H', ns[i]? = some n → Same H H' → ∀ Q : Bool → Hp → Prop, Q (p n) H' → tt ((wipe σ vs).set g (some (.int n))) H' Q)
    (hd : Qd (upd H D (.lst ((ns.filter p).map V.int)))) :
    ∃ W : Nat → Nat → Hp → Prop, (∃ m, W 0 m (upd H D (.lst []))) ∧ ∀ i m H, W i m H →
      ((Itl K a).stop i H ∧ Qd H) ∨ ((Itl K a).go i H ∧ ∃ Nx : Hp → Prop, (∀ H', Nx H' → ∃ m', m' < m ∧ W (i + 1) m' H') ∧ ∀ x H', (Itl K a).yld i H x H' → gName g x (wipe σ vs) H' fun σ2 H2 => wipe σ2 vs = wipe σ vs ∧ tt σ2 H2 fun b H3 =>
        if b = true then tVar g σ2 H3 fun y H4 => ∃ acc, H4 D = some (.lst acc) ∧ acc.length < sizeLine ∧ Nx (upd H4 D (.lst (acc ++ [y]))) else Nx H3) := by
  refine lc_list (xs := ns.map V.int) (fun i H' => H' = upd H D (.lst (((ns.take i).filter p).map V.int))) rfl (fun i H' _ p => by subst p; exact Same.l (same_new hD) hS) (fun i x H' hx q => ?_) (fun H' q => ?_)
  · subst q
    rw [List.getElem?_map] at hx
    cases q : ns[i]? with
    | none => rw [q] at hx; cases hx
    | some n =>
      rw [q] at hx
      cases hx
      have e : ns.take (i + 1) = ns.take i ++ [n] := by rw [List.take_succ, q]; rfl
      refine ⟨hw _, ht i n _ q (same_new hD) _ ?_⟩
      cases c : p n with
      | true =>
        refine iteT ⟨_, hi _, ?_⟩
        refine acc_put ?_ ?_
        · rw [List.length_map]
          refine sz_small (Nat.lt_of_le_of_lt (List.length_filter_le ..) ?_)
          rw [List.length_take]; omega
        · rw [e, List.filter_append, List.map_append]
          simp [c]
      | false =>
        refine iteF ?_
        rw [e, List.filter_append]
        simp [c]
  · subst q
    rw [List.length_map, List.take_of_length_le (Nat.le_refl _)]
    exact hd
/-- [f(x, y) for x, y in zip(xs, ys)], ints -/
theorem lc_zipI {K : PySem.W.Frag} {a b : Addr} {ns ms : List Int} {f : Int → Int → Int} {i1 i2 : Nat} {te : TE} {vs : List Nat} {σ : L2.St} {H : Hp} {D : Addr} {Qd : Hp → Prop} (h1 : SqL K H a (ns.map V.int)) (h2 : SqL K H b (ms.map V.int)) (hD : H D = none) (nt : NoT H) (hl : ns.length < 100000)
    (hw : ∀ x y, wipe (((wipe σ vs).set i1 (some x)).set i2 (some y)) vs = wipe σ vs)
    (he : ∀ n m H', Same H H' → ∀ Q : VK, Q (.int (f n m)) H' → te (((wipe σ vs).set i1 (some (.int n))).set i2 (some (.int m))) H' Q)
    (hd : ∀ H', Same H H' → NoT H' → H' D = some (.lst ((List.zipWith f ns ms).map V.int)) → Qd H') :
    ∃ W : Nat → Nat → Hp → Prop, (∃ m, W 0 m (upd H D (.lst []))) ∧ ∀ i m H, W i m H →
      ((Itz K a b).stop i H ∧ Qd H) ∨ ((Itz K a b).go i H ∧ ∃ Nx : Hp → Prop, (∀ H', Nx H' → ∃ m', m' < m ∧ W (i + 1) m' H') ∧ ∀ x H', (Itz K a b).yld i H x H' → gTup K 2 (gCons (gName i1) (gCons (gName i2) gNil)) x (wipe σ vs) H' fun σ2 H2 => wipe σ2 vs = wipe σ vs ∧ tYes σ2 H2 fun b H3 =>
        if b = true then te σ2 H3 fun y H4 => ∃ acc, H4 D = some (.lst acc) ∧ acc.length < sizeLine ∧ Nx (upd H4 D (.lst (acc ++ [y]))) else Nx H3) := by
  refine lc_zipL (xs := ns.map V.int) (ys := ms.map V.int) (fun i H' => Same H H' ∧ NoT H' ∧ H' D = some (.lst (((List.zipWith f ns ms).take i).map V.int))) ⟨same_new hD, nt.lst, upd_same⟩ (fun i H' p => ⟨Same.l p.1 h1, Same.l p.1 h2⟩) (fun i x y T H' hx' hy' hT p => ?_) (fun H' p => ?_)
  · obtain ⟨p1, p2, p3⟩ := p
    rw [List.getElem?_map] at hx' hy'
    cases qx : ns[i]? with
    | none => rw [qx] at hx'; cases hx'
    | some n =>
      cases qy : ms[i]? with
      | none => rw [qy] at hy'; cases hy'
      | some m =>
        rw [qx] at hx'
        rw [qy] at hy'
        cases hx'
        cases hy'
        have s2 : Same H (upd H' T (.tup [.int n, .int m])) := p1.trans (same_new hT)
        have zg : (List.zipWith f ns ms)[i]? = some (f n m) := by rw [List.getElem?_zipWith, qx, qy]
        refine ⟨T, _, rfl, SqT.of upd_same, rfl, _, _, rfl, _, _, rfl, rfl, hw _ _, ?_⟩
        show te _ _ _
        refine he n m _ s2 _ ⟨_, same_new hT _ _ p3, ?_, ?_, p2.tup.lst, ?_⟩
        · rw [List.length_map, List.length_take, List.length_zipWith]
          exact sz_small (by omega)
        · intro b o e
          by_cases c : b = D
          · subst c; rw [hD] at e; cases e
          · rw [upd_ne c]; exact s2 b o e
        · rw [upd_same, take_put zg]
  · refine hd H' p.1 p.2.1 ?_
    rw [p.2.2, List.take_of_length_le (by rw [List.length_zipWith, List.length_map, List.length_map]; omega)]
theorem cutV_nat {xs : List V} {k : Nat} : cutV xs none (some (k : Int)) = xs.take k := by
  unfold cutV
  rw [HT.sIx_none, HT.sIx_nat, List.drop_zero, Nat.sub_zero]
  by_cases h : k ≤ xs.length
  · rw [Nat.min_eq_left h]
  · rw [Nat.min_eq_right (by omega), List.take_of_length_le (Nat.le_refl _), List.take_of_length_le (by omega)]
theorem cutV_from {xs : List V} {k : Nat} : cutV xs (some (k : Int)) none = xs.drop k := by
  unfold cutV
  rw [HT.sIx_none, HT.sIx_nat]
  rw [List.take_of_length_le (by rw [List.length_drop]; omega)]
  by_cases h : k ≤ xs.length
  · rw [Nat.min_eq_left h]
  · rw [Nat.min_eq_right (by omega), List.drop_of_length_le (Nat.le_refl _), List.drop_of_length_le (by omega)]
theorem cut_to {ns : List Int} {k : Nat} : cutV (ns.map V.int) none (some (k : Int)) = (ns.take k).map V.int := by rw [cutV_nat, List.map_take]
theorem cut_from {ns : List Int} {k : Nat} : cutV (ns.map V.int) (some (k : Int)) none = (ns.drop k).map V.int := by rw [cutV_from, List.map_drop]
/-- zip(zs, zs[1:] + [z0 + T]) or zip(round, round[1:]): the differences -/
theorem zip_rnd1 {T : Int} {zs : List Int} : List.zipWith (fun a b => b - a) zs (zs.drop 1 ++ (zs.take 1).map (· + T)) = difs (rnd T zs) := by
  unfold difs rnd
  cases zs with
  | nil => rfl
  | cons z zs =>
    simp only [List.take_succ_cons, List.take_zero, List.map_cons, List.map_nil, List.drop_succ_cons, List.drop_zero, List.cons_append, List.tail_cons]
    rw [← List.cons_append]
    have : ∀ (xs ys : List Int) (w : Int), xs.length = ys.length → List.zipWith (fun a b => b - a) (xs ++ [w]) ys = List.zipWith (fun a b : Int => b - a) xs ys := fun xs => by
      induction xs with
      | nil => intro ys w h; cases ys with | nil => rfl | cons y ys => simp at h
      | cons x xs ih =>
        intro ys w h
        cases ys with
        | nil => simp at h
        | cons y ys =>
          simp only [List.cons_append, List.zipWith_cons_cons]
          rw [ih ys w (by simpa using h)]
    rw [this (z :: zs) (zs ++ [z + T]) (z + T) (by simp)]
theorem rnd_len {T : Int} {zs : List Int} : (rnd T zs).length ≤ zs.length + 1 := by
  unfold rnd
  rw [List.length_append, List.length_map, List.length_take]; omega
theorem rnd_of {d t b s pl wk nm T : Int} {ys : List Int} (Y : Yso d t b s pl wk nm ys T) : Rnd (has d t b s pl wk nm) 0 T ys := by
  have tp := Y.tpos
  refine ⟨fun z k => ?_, tp, Y.inc, fun z => ?_⟩
  · rw [Y.good, Y.good, Int.add_mul_emod_self_left]
  · constructor
    · intro h
      have r := Y.rng z h
      refine ⟨r.1, by omega, (Y.good z).mpr ?_⟩
      rw [Int.emod_eq_of_lt r.1 r.2]; exact h
    · rintro ⟨a, b', c⟩
      have := (Y.good z).mp c
      rwa [Int.emod_eq_of_lt a (by omega)] at this
end Ly
set_option Elab.async false
set_option linter.all false
set_option maxRecDepth 100000
set_option maxHeartbeats 4000000
/-! the next one, or None -/
namespace Ly
open PySem PySem.Spec PyProof.Rows L2
/-- o is the first from y on, or None -/
def Nxt (p : Int → Prop) (y : Int) (o : V) : Prop := (o = .non ∧ ∀ z, ¬ p z) ∨ ∃ m, o = .int m ∧ Fst p y m
theorem Rnd.nxt {p : Int → Prop} {a T : Int} {zs : List Int} (R : Rnd p a T zs) : ∃ o, Nxt p a o ∧ (zs = [] → o = .non) ∧ ∀ m r, zs = m :: r → o = .int m := by
  cases zs with
  | nil => exact ⟨.non, .inl ⟨rfl, R.ne.mp rfl⟩, fun _ => rfl, fun m r e => (nomatch e)⟩
  | cons m r => exact ⟨.int m, .inr ⟨m, rfl, R.fst rfl⟩, fun e => (nomatch e), fun m' r' e => by cases e; rfl⟩
theorem Rnd.head {p : Int → Prop} {a T : Int} {zs : List Int} {o : V} (R : Rnd p a T zs) (n : Nxt p a o) : (zs = [] → o = .non) ∧ ∀ m r, zs = m :: r → o = .int m := by
  constructor
  · intro e
    rcases n with ⟨rfl, _⟩ | ⟨m, rfl, h⟩
    · rfl
    · exact absurd h.2.1 (R.ne.mp e m)
  · intro m r e
    have F := R.fst e
    rcases n with ⟨rfl, h⟩ | ⟨k, rfl, h⟩
    · exact absurd F.2.1 (h m)
    · rw [h.uniq F]
theorem Nxt.uniq {p : Int → Prop} {y : Int} {o o' : V} (a : Nxt p y o) (b : Nxt p y o') : o = o' := by
  rcases a with ⟨rfl, h⟩ | ⟨m, rfl, h⟩
  · rcases b with ⟨rfl, _⟩ | ⟨m, rfl, h'⟩
    · rfl
    · exact absurd h'.2.1 (h m)
  · rcases b with ⟨rfl, h'⟩ | ⟨m', rfl, h'⟩
    · exact absurd h.2.1 (h' m)
    · rw [h.uniq h']
theorem Nxt.sm {K : PySem.W.Frag} {H : Hp} {k : Nat} {p : Int → Prop} {y : Int} {o : V} (a : Nxt p y o) : Sm K H k o o := by
  rcases a with ⟨rfl, _⟩ | ⟨m, rfl, _⟩
  · exact .non k
  · exact .int k m
/-- xs[0] if xs != [] else .. -/
theorem hd_if {K : PySem.W.Frag} {i : Nat} {σ : L2.St} {H : Hp} {Q : VK} {a : Addr} {ns : List Int} {tb : TE} {o : V} (hσ : σ[i]? = some (some (.ref a))) (hS : SqL K H a (ns.map V.int)) (nt : NoT H)
    (h1 : ∀ m r, ns = m :: r → o = .int m) (h2 : ns = [] → ∀ H', Same H H' → NoT H' → tb σ H' Q) (q : ∀ H', Same H H' → NoT H' → Q o H') :
    tIf (tTest (tOp (rNeD K) (tVar i) (tLst tNil))) (tOp (rIxL K) (tVar i) (tC (.int 0))) tb σ H Q := by
  refine ⟨_, hσ, Nat.zero_le _, fun e he => ne_nil (Same.l (same_new he) hS) (SqL.of upd_same) ⟨_, rfl, ?_⟩⟩
  cases ns with
  | nil =>
    rw [decide_eq_true rfl]
    exact iteF (h2 rfl _ (same_new he) nt.lst)
  | cons m r =>
    rw [decide_eq_false (by simp)]
    refine iteT ⟨_, hσ, a, _, 0, .int m, rfl, rfl, Same.l (same_new he) hS, atI_nat (xs := (m :: r).map V.int) (j := 0) (v := .int m) rfl, ?_⟩
    rw [← h1 m r rfl]
    exact q _ (same_new he) nt.lst
/-- xs[0] if xs != [] else None -/
theorem hd_or {K : PySem.W.Frag} {i : Nat} {σ : L2.St} {H : Hp} {Q : VK} {a : Addr} {ns : List Int} {o : V} (hσ : σ[i]? = some (some (.ref a))) (hS : SqL K H a (ns.map V.int)) (nt : NoT H)
    (h : (ns = [] → o = .non) ∧ ∀ m r, ns = m :: r → o = .int m) (q : ∀ H', Same H H' → NoT H' → Q o H') :
    tIf (tTest (tOp (rNeD K) (tVar i) (tLst tNil))) (tOp (rIxL K) (tVar i) (tC (.int 0))) (tC .non) σ H Q :=
  hd_if hσ hS nt h.2 (fun e H' s n => by have := q H' s n; rw [h.1 e] at this; exact this) q
end Ly
namespace Ly
open PySem PySem.Spec PyProof.Rows L2
/-- xs[0] + n if xs != [] else None -/
theorem hd_if2 {K : PySem.W.Frag} {i j : Nat} {σ : L2.St} {H : Hp} {Q : VK} {a : Addr} {ns : List Int} {n : Int} {o : V} (hσ : σ[i]? = some (some (.ref a))) (hn : σ[j]? = some (some (.int n))) (hS : SqL K H a (ns.map V.int)) (nt : NoT H)
    (h1 : ∀ m r, ns = m :: r → o = .int (m + n)) (h2 : ns = [] → o = .non) (q : ∀ H', Same H H' → NoT H' → Q o H') :
    tIf (tTest (tOp (rNeD K) (tVar i) (tLst tNil))) (tOp (rI0 fun x y => .int (x + y)) (tOp (rIxL K) (tVar i) (tC (.int 0))) (tVar j)) (tC .non) σ H Q := by
  refine ⟨_, hσ, Nat.zero_le _, fun e he => ne_nil (Same.l (same_new he) hS) (SqL.of upd_same) ⟨_, rfl, ?_⟩⟩
  cases ns with
  | nil =>
    rw [decide_eq_true rfl]
    have := q _ (same_new (o := .lst []) he) nt.lst
    rw [h2 rfl] at this
    exact iteF this
  | cons m r =>
    rw [decide_eq_false (by simp)]
    refine iteT ⟨_, hσ, a, _, 0, .int m, rfl, rfl, Same.l (same_new he) hS, atI_nat (xs := (m :: r).map V.int) (j := 0) (v := .int m) rfl, _, hn, _, _, rfl, rfl, ?_⟩
    show Q (.int (m + n)) _
    rw [← h1 m r rfl]
    exact q _ (same_new he) nt.lst
theorem hd_if3 {K : PySem.W.Frag} {i j k : Nat} {σ : L2.St} {H : Hp} {Q : VK} {a b : Addr} {ns ms : List Int} {n : Int} {o : V} (hσ : σ[i]? = some (some (.ref a))) (hS : SqL K H a (ns.map V.int)) (h0 : ∀ m r, ns = m :: r → o = .int m)
    (hτ : σ[k]? = some (some (.ref b))) (hn : σ[j]? = some (some (.int n))) (hT : SqL K H b (ms.map V.int)) (nt : NoT H)
    (h1 : ns = [] → ∀ m r, ms = m :: r → o = .int (m + n)) (h2 : ns = [] → ms = [] → o = .non) (q : ∀ H', Same H H' → NoT H' → Q o H') :
    tIf (tTest (tOp (rNeD K) (tVar i) (tLst tNil))) (tOp (rIxL K) (tVar i) (tC (.int 0))) (tIf (tTest (tOp (rNeD K) (tVar k) (tLst tNil))) (tOp (rI0 fun x y => .int (x + y)) (tOp (rIxL K) (tVar k) (tC (.int 0))) (tVar j)) (tC .non)) σ H Q :=
  hd_if hσ hS nt h0 (fun e H' s n => hd_if2 hτ hn (Same.l s hT) n (h1 e) (h2 e) fun H'' s' n' => q H'' (s.trans s') n') q
theorem Nxt.scal {p : Int → Prop} {y : Int} {o : V} (a : Nxt p y o) : scal o o = true := by
  rcases a with ⟨rfl, _⟩ | ⟨m, rfl, _⟩ <;> rfl
end Ly
set_option Elab.async false
set_option linter.all false
set_option maxRecDepth 100000
set_option maxHeartbeats 4000000
/-! comprehensions over a range; kinds kept -/
namespace Ly
open PySem PySem.Spec PyProof.Rows L2
theorem Kn.same {K : PySem.W.Frag} {H H' : Hp} {x : V} {n : String} (s : Same H H') (h : Kn K H x n) : Kn K H' x n := by
  cases h with
  | non => exact .non
  | bl b => exact .bl b
  | int i => exact .int i
  | str x => exact .str x
  | lst h => exact .lst (Same.l s h)
  | tup h => exact .tup (Same.t s h)
/-- [f(x) for x in range(..)] -/
theorem lc_rgV {lo : Int} {n : Nat} {f : Nat → V} {g : Nat} {te : TE} {vs : List Nat} {σ : L2.St} {H : Hp} {D : Addr} {Qd : Hp → Prop} (hD : H D = none) (hl : n < 100000)
    (hw : ∀ x, wipe ((wipe σ vs).set g (some x)) vs = wipe σ vs)
    (he : ∀ (i : Nat) H', i < n → Same H H' → ((∃ ys : List V, H' = upd H D (.lst ys)) → ∀ Q : VK, Q (f i) H' → te ((wipe σ vs).set g (some (.int (lo + i)))) H' Q))
    (hd : Qd (upd H D (.lst ((List.range n).map f)))) :
    ∃ W : Nat → Nat → Hp → Prop, (∃ m, W 0 m (upd H D (.lst []))) ∧ ∀ i m H, W i m H →
      ((Itr lo n).stop i H ∧ Qd H) ∨ ((Itr lo n).go i H ∧ ∃ Nx : Hp → Prop, (∀ H', Nx H' → ∃ m', m' < m ∧ W (i + 1) m' H') ∧ ∀ x H', (Itr lo n).yld i H x H' → gName g x (wipe σ vs) H' fun σ2 H2 => wipe σ2 vs = wipe σ vs ∧ tYes σ2 H2 fun b H3 =>
        if b = true then te σ2 H3 fun y H4 => ∃ acc, H4 D = some (.lst acc) ∧ acc.length < sizeLine ∧ Nx (upd H4 D (.lst (acc ++ [y]))) else Nx H3) := by
  refine lc_range (lo := lo) (n := n) (fun i H' => H' = upd H D (.lst ((List.range i).map f))) rfl (fun i H' hi' q => ?_) (fun H' q => ?_)
  · subst q
    refine ⟨hw _, ?_⟩
    show te _ _ _
    refine he i _ hi' (same_new hD) ⟨_, rfl⟩ _ ?_
    refine acc_put (by rw [List.length_map, List.length_range]; exact sz_small (by omega)) ?_
    rw [List.range_succ, List.map_append]; rfl
  · subst q
    exact hd
theorem all_range {n : Nat} {p : Nat → Bool} : ((List.range n).map p).all id = true ↔ ∀ k, k < n → p k = true := by
  rw [List.all_eq_true]
  constructor
  · intro h k hk
    exact h (p k) (List.mem_map.mpr ⟨k, List.mem_range.mpr hk, rfl⟩)
  · intro h x hx
    obtain ⟨k, hk, rfl⟩ := List.mem_map.mp hx
    exact h k (List.mem_range.mp hk)
/-- a thing that bars -/
def Bar (d t b s pl wk nm : Int) (x : V) : Prop := ∃ i, x = .int i ∧ BarI d t b s pl wk nm i
end Ly
set_option Elab.async false
set_option linter.all false
set_option maxRecDepth 100000
set_option maxHeartbeats 4000000
/-! one statement at a time, the rest kept away -/
namespace Ly
open PySem PySem.Spec PyProof.Rows L2
section
variable {c : TT} {t rest : TS} {te : TE} {ta : TA} {g : TG} {D : Ends} {σ : L2.St} {H : Hp} {i j : Nat}
/-- things may be made beside -/
def Sn (H : Hp) : Hp → Prop := fun H' => Same H H' ∧ NoT H'
theorem Sn.refl {H : Hp} (nt : NoT H) : Sn H H := ⟨Same.refl _, nt⟩
theorem sq_if (R : Hp → Prop) (h : ∀ Q : Bool → Hp → Prop, (∀ H', R H' → Q false H') → c σ H Q) (q : ∀ H', R H' → rest D σ H') : tSeq (tIfS c t tNext) rest D σ H :=
  h _ fun H' r => iteF (q H' r)
theorem sq_ifL (R : Hp → Prop) (h : ∀ Q : Bool → Hp → Prop, (∀ H', R H' → Q false H') → c σ H Q) (q : ∀ H', R H' → D.nx σ H') : tIfS c t tNext D σ H :=
  h _ fun H' r => iteF (q H' r)
theorem sq_set (R : V → Hp → Prop) (h : ∀ Q : VK, (∀ v H', R v H' → Q v H') → te σ H Q) (q : ∀ v H', R v H' → rest D (σ.set i (some v)) H') : tSeq (tAsg te (gName i)) rest D σ H :=
  h _ fun v H' r => q v H' r
theorem sq_asg (R : V → Hp → Prop) (h : ∀ Q : VK, (∀ v H', R v H' → Q v H') → te σ H Q) (q : ∀ v H', R v H' → g v σ H' (rest D)) : tSeq (tAsg te g) rest D σ H :=
  h _ fun v H' r => q v H' r
theorem sq_par (R : V → V → Hp → Prop) (h : ∀ Q : List V → Hp → Prop, (∀ v w H', R v w H' → Q [v, w] H') → ta σ H Q) (q : ∀ v w H', R v w H' → rest D ((σ.set i (some v)).set j (some w)) H') : tSeq (tPar i j ta) rest D σ H :=
  h _ fun v w H' r => ⟨v, w, rfl, q v w H' r⟩
end
end Ly
namespace Ly
open PySem PySem.Spec PyProof.Rows L2
theorem sq_st {t rest : TS} {D : Ends} {σ : L2.St} {H : Hp} (R : L2.St → Hp → Prop) (h : ∀ D' : Ends, (∀ σ' H', R σ' H' → D'.nx σ' H') → t D' σ H) (q : ∀ σ' H', R σ' H' → rest D σ' H') : tSeq t rest D σ H := h _ q
end Ly
namespace Ly
open PySem PySem.Spec PyProof.Rows L2
theorem flat_ints (ns : List Int) : (ns.map V.int).all flatV = true := by
  rw [List.all_eq_true]
  intro x hx
  obtain ⟨n, _, rfl⟩ := List.mem_map.mp hx
  rfl
theorem inV_int {g : Int} {ns : List Int} : inV (.int g) (ns.map V.int) = decide (g ∈ ns) := by
  unfold inV
  rw [Bool.eq_iff_iff, List.any_eq_true, decide_eq_true_iff]
  constructor
  · rintro ⟨x, hx, e⟩
    obtain ⟨n, hn, rfl⟩ := List.mem_map.mp hx
    have : n = g := by simpa [eqV] using e
    subst this; exact hn
  · intro h
    exact ⟨.int g, List.mem_map.mpr ⟨g, h, rfl⟩, by simp [eqV]⟩
/-- the next one is at most a round away -/
theorem fst_near {p : Int → Prop} {T y m : Int} (per : Per p T) (hT : 1 ≤ T) (F : Fst p y m) : m < y + T := by
  have h0 := Int.emod_nonneg (m - y) (show T ≠ 0 by omega)
  have h1 := Int.emod_lt_of_pos (m - y) (show 0 < T by omega)
  have h2 := Int.emod_add_mul_ediv (m - y) T
  have := F.2.2 (y + (m - y) % T) (by omega) (by
    rw [← per _ ((m - y) / T), show y + (m - y) % T + T * ((m - y) / T) = m by omega]
    exact F.2.1)
  omega
end Ly
namespace Ly
open PySem PySem.Spec PyProof.Rows L2
theorem sq_st0 {t rest : TS} {D : Ends} {σ : L2.St} {H : Hp} (R : Hp → Prop) (h : ∀ D' : Ends, (∀ H', R H' → D'.nx σ H') → t D' σ H) (q : ∀ H', R H' → rest D σ H') : tSeq t rest D σ H := h _ q
end Ly
set_option Elab.async false
set_option linter.all false
set_option maxRecDepth 100000
set_option maxHeartbeats 4000000
/-! parted lands -/
namespace Ly
open PySem PySem.Spec PyProof.Rows L2
/-- o is the first year from 0 on that parts two lands, or None -/
def Pt (f g : Int → Int) (o : V) : Prop := (o = .non ∧ ∀ y, f y = g y) ∨ ∃ y, o = .int y ∧ (0 ≤ y ∧ y ≤ 7200) ∧ f y ≠ g y ∧ ∀ k, 0 ≤ k → k < y → f k = g k
theorem Pt.uniq {f g : Int → Int} {o o' : V} (a : Pt f g o) (b : Pt f g o') : o = o' := by
  rcases a with ⟨rfl, h⟩ | ⟨y, rfl, y0, hy, hl⟩
  · rcases b with ⟨rfl, _⟩ | ⟨m, rfl, _, hm, _⟩
    · rfl
    · exact absurd (h m) hm
  · rcases b with ⟨rfl, h⟩ | ⟨m, rfl, m0, hm, hl'⟩
    · exact absurd (h y) hy
    · have h1 : ¬ m < y := fun z => hm (hl m m0.1 z)
      have h2 : ¬ y < m := fun z => hy (hl' y y0.1 z)
      rw [show y = m by omega]
theorem Pt.symm {f g : Int → Int} {o : V} (a : Pt f g o) : Pt g f o := by
  rcases a with ⟨rfl, h⟩ | ⟨y, rfl, y0, hy, hl⟩
  · exact .inl ⟨rfl, fun y => (h y).symm⟩
  · exact .inr ⟨y, rfl, y0, fun z => hy z.symm, fun k a b => (hl k a b).symm⟩
theorem Pt.scal {f g : Int → Int} {o : V} (a : Pt f g o) : scal o o = true := by
  rcases a with ⟨rfl, _⟩ | ⟨m, rfl, _⟩ <;> rfl
end Ly
namespace Ly
open PySem PySem.Spec PyProof.Rows L2
theorem sq_str {t rest : TS} {D : Ends} {σ : L2.St} {H : Hp} (R : L2.St → Hp → Prop) (h : ∀ N : L2.St → Hp → Prop, (∀ σ' H', R σ' H' → N σ' H') → t { D with nx := N } σ H) (q : ∀ σ' H', R σ' H' → rest D σ' H') : tSeq t rest D σ H := h _ q
end Ly
namespace Ly
open PySem PySem.Spec PyProof.Rows L2
theorem yesT {σ : L2.St} {H : Hp} {A B : Hp → Prop} (h : A H) : tYes σ H fun b H3 => if b = true then A H3 else B H3 := iteT (B := B H) h
end Ly
set_option Elab.async false
set_option linter.all false
set_option maxRecDepth 100000
set_option maxHeartbeats 4000000
/-! dicts whose values are lists; dict comprehensions over lists -/
namespace Ly
open PySem PySem.Spec PyProof.Rows L2
theorem putK_len {κ : Type} [DecidableEq κ] (kvs : List (κ × V)) (k : κ) (v : V) : (putK kvs k v).length ≤ kvs.length + 1 := by
  unfold putK
  split
  · rw [List.length_map]; omega
  · rw [List.length_append]; exact Nat.le_refl _
/-- {k(x): True for x in xs}, ints -/
theorem dc_ints {K : PySem.W.Frag} {a : Addr} {ns : List Int} {f : Int → Int} {g : Nat} {tk : TE} {vs : List Nat} {σ : L2.St} {H : Hp} {D : Addr} {Qd : Hp → Prop} (hS : SqL K H a (ns.map V.int)) (hD : H D = none) (hl : ns.length < 100000)
    (hw : ∀ x, wipe ((wipe σ vs).set g (some x)) vs = wipe σ vs)
    (he : ∀ (i : Nat) n H', ns[i]? = some n → Same H H' → ∀ Q : VK, Q (.int (f n)) H' → tk ((wipe σ vs).set g (some (.int n))) H' Q)
    (hd : ∀ kvs : List (Key × V), (∀ r : Int, (valV kvs (Sum.inl r)).isSome = decide (r ∈ ns.map f)) → Qd (upd H D (.dK kvs))) :
    ∃ W : Nat → Nat → Hp → Prop, (∃ m, W 0 m (upd H D (.dK []))) ∧ ∀ i m H, W i m H →
      ((Itl K a).stop i H ∧ Qd H) ∨ ((Itl K a).go i H ∧ ∃ Nx : Hp → Prop, (∀ H', Nx H' → ∃ m', m' < m ∧ W (i + 1) m' H') ∧ ∀ x H', (Itl K a).yld i H x H' → gName g x (wipe σ vs) H' fun σ2 H2 => wipe σ2 vs = wipe σ vs ∧ tYes σ2 H2 fun b H3 =>
        if b = true then tk σ2 H3 fun y H4 => tC (.bl true) σ2 H4 fun z H5 => ∃ kvs k, y = kV k ∧ H5 D = some (.dK kvs) ∧ kvs.length < sizeLine ∧ Nx (upd H5 D (.dK (putK kvs k z))) else Nx H3) := by
  refine ⟨fun i m H' => m = ns.length - i ∧ i ≤ ns.length ∧ ∃ kvs : List (Key × V), H' = upd H D (.dK kvs) ∧ kvs.length ≤ i ∧ ∀ r : Int, (valV kvs (Sum.inl r)).isSome = decide (r ∈ (ns.take i).map f), ⟨ns.length, by simp, Nat.zero_le _, [], rfl, Nat.le_refl _, fun r => by simp [valV_nil]⟩, ?_⟩
  rintro i m H' ⟨rfl, hi, kvs, rfl, hk, hv⟩
  have q := Same.l (same_new (o := .dK kvs) hD) hS
  by_cases hlt : i < ns.length
  · have hx : (ns.map V.int)[i]? = some (.int ns[i]) := by rw [List.getElem?_map, List.getElem?_eq_getElem hlt]; rfl
    refine .inr ⟨⟨_, _, q, hx⟩, fun H' => ∃ kvs : List (Key × V), H' = upd H D (.dK kvs) ∧ kvs.length ≤ i + 1 ∧ ∀ r : Int, (valV kvs (Sum.inl r)).isSome = decide (r ∈ (ns.take (i + 1)).map f), fun H' p' => ⟨ns.length - (i + 1), by omega, rfl, hlt, p'⟩, fun x H' y => ?_⟩
    obtain ⟨e, y⟩ := y
    have ex := y _ q
    rw [hx] at ex
    cases ex
    subst e
    refine ⟨hw _, ?_⟩
    show tk _ _ _
    refine he i _ _ (List.getElem?_eq_getElem hlt) (same_new hD) _ ?_
    refine ⟨kvs, Sum.inl (f ns[i]), rfl, upd_same, sz_small (by omega), _, upd_upd, Nat.le_trans (putK_len ..) (by omega), fun r => ?_⟩
    rw [valV_put, List.take_succ, List.getElem?_eq_getElem hlt, List.map_append]
    by_cases c : r = f ns[i]
    · subst c
      simp
    · rw [if_neg (fun z => c (Sum.inl.inj z)), hv]
      simp [c]
  · have e : i = ns.length := by omega
    subst e
    refine .inl ⟨⟨_, q, by rw [List.length_map]; exact Nat.le_refl _⟩, hd kvs fun r => ?_⟩
    rw [hv, List.take_of_length_le (Nat.le_refl _)]
/-- [f(x) for x in xs], any values -/
theorem lc_mapV {K : PySem.W.Frag} {a : Addr} {ns : List Int} {f : Int → V} {g : Nat} {te : TE} {vs : List Nat} {σ : L2.St} {H : Hp} {D : Addr} {Qd : Hp → Prop} (hS : SqL K H a (ns.map V.int)) (hD : H D = none) (hl : ns.length < 100000)
    (hw : ∀ x, wipe ((wipe σ vs).set g (some x)) vs = wipe σ vs)
    (he : ∀ (i : Nat) n H', ns[i]? = some n → Same H H' → ∀ Q : VK, Q (f n) H' → te ((wipe σ vs).set g (some (.int n))) H' Q)
    (hd : Qd (upd H D (.lst (ns.map f)))) :
    ∃ W : Nat → Nat → Hp → Prop, (∃ m, W 0 m (upd H D (.lst []))) ∧ ∀ i m H, W i m H →
      ((Itl K a).stop i H ∧ Qd H) ∨ ((Itl K a).go i H ∧ ∃ Nx : Hp → Prop, (∀ H', Nx H' → ∃ m', m' < m ∧ W (i + 1) m' H') ∧ ∀ x H', (Itl K a).yld i H x H' → gName g x (wipe σ vs) H' fun σ2 H2 => wipe σ2 vs = wipe σ vs ∧ tYes σ2 H2 fun b H3 =>
        if b = true then te σ2 H3 fun y H4 => ∃ acc, H4 D = some (.lst acc) ∧ acc.length < sizeLine ∧ Nx (upd H4 D (.lst (acc ++ [y]))) else Nx H3) := by
  refine lc_list (xs := ns.map V.int) (fun i H' => H' = upd H D (.lst ((ns.take i).map f))) rfl (fun i H' _ p => by subst p; exact Same.l (same_new hD) hS) (fun i x H' hx p => ?_) (fun H' p => ?_)
  · subst p
    rw [List.getElem?_map] at hx
    cases q : ns[i]? with
    | none => rw [q] at hx; cases hx
    | some n =>
      rw [q] at hx
      cases hx
      refine ⟨hw _, ?_⟩
      show te _ _ _
      refine he i n _ q (same_new hD) _ ?_
      refine acc_put (by rw [List.length_map, List.length_take]; exact sz_small (by omega)) ?_
      rw [List.take_succ, q, List.map_append]; rfl
  · subst p
    rw [List.length_map, List.take_of_length_le (Nat.le_refl _)]
    exact hd
end Ly
namespace Ly
open PySem PySem.Spec PyProof.Rows L2
/-- the slots written out -/
theorem nrm {T : TS} {D : Ends} {σ : L2.St} {H : Hp} (σ' : L2.St) (e : σ = σ') (h : T D σ' H) : T D σ H := by subst e; exact h
end Ly
set_option Elab.async false
set_option linter.all false
set_option maxRecDepth 100000
set_option maxHeartbeats 4000000
/-! truths reckoned with; texts of truths; tuples reversed -/
namespace Ly
open PySem PySem.Spec PyProof.Rows L2
theorem strOk_of (s : String) : PyData.strOk (Str.ofString s) = true := by
  rw [Str.ofString_eq_toList]
  unfold PyData.strOk
  simp only [List.all_toArray, List.all_eq_true, List.mem_map]
  rintro x ⟨c, _, rfl⟩
  have h := c.valid
  rw [decide_eq_true_iff]
  rcases h with h | h
  · have : c.toNat < 55296 := h
    omega
  · exact h.2
section
variable {X : Cx}
/-- True + 1 -/
theorem op_addB : OpR X (binaryOp .Add) (fun x y H Q => ∃ (k : Bool) (j : Int), x = .bl k ∧ y = .int j ∧ Q (.int ((if k = true then (1 : Int) else 0) + j)) H) := by
  intro pins s σ H x y v u Q I rx ry h
  obtain ⟨k, j, rfl, rfl, q⟩ := h
  cases rx
  obtain ⟨t, rfl⟩ := ry
  exact IntBool.add_bool_int ⟨.int _, H, I.tok _, ⟨_, rfl⟩, q⟩
theorem op_subB : OpR X (binaryOp .Sub) (fun x y H Q => ∃ (k : Bool) (j : Int), x = .bl k ∧ y = .int j ∧ Q (.int ((if k = true then (1 : Int) else 0) - j)) H) := by
  intro pins s σ H x y v u Q I rx ry h
  obtain ⟨k, j, rfl, rfl, q⟩ := h
  cases rx
  obtain ⟨t, rfl⟩ := ry
  exact IntBool.sub_bool_int ⟨.int _, H, I.tok _, ⟨_, rfl⟩, q⟩
theorem call_strB : CallR X (.type "str") (fun xs H Q => ∃ k : Bool, xs = [.bl k] ∧ Q (.str (if k then "True" else "False")) H) := by
  intro pins s σ H xs us Q I r h
  obtain ⟨k, rfl, q⟩ := h
  obtain ⟨u, rfl, r1⟩ := vals1 r
  cases r1
  exact PySem.P.str_of_bool ⟨.str _, H, I.tok _, ⟨_, rfl⟩, q⟩
def opAddA : R2 := fun x y H Q => (∃ i j, x = .int i ∧ y = .int j ∧ Q (.int (i + j)) H) ∨ ∃ (k : Bool) (j : Int), x = .bl k ∧ y = .int j ∧ Q (.int ((if k = true then (1 : Int) else 0) + j)) H
def opSubA : R2 := fun x y H Q => (∃ i j, x = .int i ∧ y = .int j ∧ Q (.int (i - j)) H) ∨ ∃ (k : Bool) (j : Int), x = .bl k ∧ y = .int j ∧ Q (.int ((if k = true then (1 : Int) else 0) - j)) H
theorem op_addA : OpR X (binaryOp .Add) opAddA := OpR.or op_add op_addB
theorem op_subA : OpR X (binaryOp .Sub) opSubA := OpR.or op_sub op_subB
def rStrA : List V → Hp → VK → Prop := fun xs H Q => (∃ i, xs = [.int i] ∧ i.natAbs.log2 < 1920 ∧ Q (.str (toString i)) H) ∨ ∃ k : Bool, xs = [.bl k] ∧ Q (.str (if k then "True" else "False")) H
theorem call_strA : CallR X (.type "str") rStrA := CallR.or call_str_int call_strB
/-- list + list or tuple + tuple -/
def rCatA (K : PySem.W.Frag) : R2 := fun x y H Q => rCatS K x y H Q ∨ rCatT K x y H Q
theorem op_catA : OpR X (binaryOp .Add) (rCatA X.K) := OpR.or op_catS op_catT
def rSlLT (K : PySem.W.Frag) : V → Option Int → Option Int → Hp → VK → Prop := fun x lo hi H Q => rSlL K x lo hi H Q ∨ rSlT K x lo hi H Q
theorem sl_LT : SlR X (rSlLT X.K) := SlR.or sl_list sl_tup
end
end Ly
set_option Elab.async false
set_option linter.all false
set_option maxRecDepth 100000
set_option maxHeartbeats 4000000
/-! t[::-1] of a tuple -/
namespace Ly
open PySem PySem.Spec PyProof.Rows L2
theorem rev_pick (xs : Array Value) : ((List.range xs.size).filterMap fun (m : Nat) => xs[(((xs.size : Int) - 1) + (m : Int) * (-1)).toNat]?).toArray = xs.toList.reverse.toArray := by
  have e : (fun (m : Nat) => xs[(((xs.size : Int) - 1) + (m : Int) * (-1)).toNat]?) = (fun k => xs[k]?) ∘ (fun m => xs.size - 1 - m) := by
    funext m
    show xs[_]? = xs[xs.size - 1 - m]?
    congr 1
    omega
  rw [e, ← List.filterMap_map (f := fun m => xs.size - 1 - m) (g := fun k => xs[k]?), PySem.W.krv_range, List.filterMap_reverse, PySem.W.krv_all]
section
variable {prog : Program} {w : World} {A : Around} {E : Value → Shared → Prop} {s : Shared}
theorem applied_rev {sl : Addr} {vl vu vs : Value} {n : Nat} {Q : Int × Int × Nat → Shared → Prop} (hs : s.heap.IsSliceOf sl vl vu vs) (pl : IsPart vl none) (pu : IsPart vu none) (ps : IsPart vs (some (-1)))
    (h : Q ((n : Int) - 1, -1, n) s) : wpAny (model prog w) A (Builtin.Slice.sliceApplied (.ref sl) (pure (n : Int))) Q E s := by
  obtain ⟨ob, ho, _, hd⟩ := id hs
  unfold Builtin.Slice.sliceApplied Builtin.Slice.sliceFields
  refine wpAny_bind (wpAny_bind (wpAny_field ho hd (x := vl) rfl ?_))
  refine wpAny_bind (wpAny_field ho hd (x := vu) rfl ?_)
  refine wpAny_bind (wpAny_field ho hd (x := vs) rfl (wpAny_pure ?_))
  refine wpAny_bind (HT.slicePart_ ps ?_)
  show wpAny _ _ (if ((-1 : Int) == 0) = true then _ else _) _ _ s
  rw [if_neg (by decide)]
  refine wpAny_bind (HT.slicePart_ pl (wpAny_bind (HT.slicePart_ pu (wpAny_bind (wpAny_pure ?_)))))
  have e1 : Builtin.Slice.sliceAdjust none none (-1) (n : Int) = ((n : Int) - 1, -1) := by
    unfold Builtin.Slice.sliceAdjust
    simp
  have e2 : Builtin.Slice.slicePlaces ((n : Int) - 1) (-1) (-1) = n := by
    unfold Builtin.Slice.slicePlaces
    simp
    split <;> omega
  show wpAny _ _ (match Builtin.Slice.sliceAdjust none none (-1) (n : Int) with | (lo, hi) => pure (lo, (-1 : Int), Builtin.Slice.slicePlaces lo hi (-1))) _ _ s
  rw [e1]
  show wpAny _ _ (pure ((n : Int) - 1, (-1 : Int), Builtin.Slice.slicePlaces ((n : Int) - 1) (-1) (-1))) _ _ s
  rw [e2]
  exact wpAny_pure h
theorem tup_rev {t sl : Addr} {items : Array Value} {vl vu vs : Value} {Q : Value → Shared → Prop} (ht : IsTup s.heap t items) (hs : s.heap.IsSliceOf sl vl vu vs) (pl : IsPart vl none) (pu : IsPart vu none) (ps : IsPart vs (some (-1)))
    (h : Q (.ref s.heap.objs.size) { s with heap := s.heap.push { cls := .type "tuple", data := .seq items.toList.reverse.toArray } }) (hz : items.size ≤ sizeLine) : wpAny (model prog w) A (getItem (.ref t) (.ref sl)) Q E s := by
  have ok : sizeOk (.seq items.toList.reverse.toArray) := by
    show items.toList.reverse.toArray.size ≤ sizeLine
    rw [List.size_toArray, List.length_reverse, Array.length_toList]; exact hz
  obtain ⟨ob, ho, hc, _⟩ := id hs
  have ty : s.TypeIs (.ref sl) "slice" := ⟨ob, ho, hc⟩
  unfold getItem
  try with_reducible refine wpAny_holding ?_
  first | refine wpAny_bind (wpAny_pure ?_) | skip
  refine wpAny_bind (wpAny_sequenceKey ht.typeIs (by decide) ?_)
  refine wpAny_bind (wpAny_callSpecial?_slot (name := Str.ofString "__getitem__") ht.typeIs PyProof.Rows.slot_tuple_getitem ?_)
  refine wpAny_call_entry PyProof.Rows.slot_tuple_getitem ht.typeIs entry_tuple_getitem ?_ (args_tuple_getitem _ _)
  show wpAny _ _ (Builtin.Tuple.tupleItemsOf (.ref t) >>= _) _ _ s
  refine wpAny_bind (tupleItemsOf_ ht (wpAny_bind (wpAny_typeOf ty ?_)))
  rw [if_pos (by decide)]
  refine wpAny_bind (applied_rev hs pl pu ps ?_)
  show wpAny _ _ (if (((items.size : Int) - 1) == 0 && (-1 : Int) == 1 && items.size == items.size) = true then _ else _) _ _ s
  rw [if_neg (by simp), rev_pick]
  first
    | exact wpAny_bind (m := Builtin.Tuple.tupleExact _) (wpAny_newObj_type (wpAny_pure ⟨_, rfl, wpAny_pure h⟩) ok)
    | exact wpAny_bind (wpAny_bind (m := Builtin.Tuple.tupleExact _) (wpAny_newObj_type (wpAny_pure ⟨_, rfl, wpAny_pure h⟩) ok))
end
/-- t[::-1], a list or a tuple -/
def tRevA (K : PySem.W.Frag) (te : TE) : TE := fun σ H Q => te σ H fun x H1 => ∃ a xs, x = .ref a ∧ ((SqL K H1 a xs ∧ ∀ p, H1 p = none → Q (.ref p) (upd H1 p (.lst xs.reverse))) ∨ (SqT K H1 a xs ∧ ∀ p, H1 p = none → Q (.ref p) (upd H1 p (.tup xs.reverse))))
theorem pe_revA {X : Cx} {e : Expr} {te : TE} {k : Nat} {p1 p2 p3 pos : Pos} (he : PE X e te) : PE X (.Subscript e (.Slice none none (some (.UnaryOp .USub (.Constant (.int 1) k p1) p2)) p3) pos) (tRevA X.K te) := by
  refine ⟨fun pins s σ H Q I h => ?_⟩
  refine Subscript_ (thn (he.run pins s σ H _ I h) fun v s1 ⟨x, H1, I1, r1, q1⟩ => ?_)
  obtain ⟨a, xs, ex, hx⟩ := q1
  subst ex
  cases r1
  have st : PO X (some (.UnaryOp .USub (.Constant (.int 1) k p1) p2)) (tPart (tUn (rU fun i => .int (-i)) (tC (.int 1)))) := po_some (pe_un un_neg pe_int)
  refine wpAny_Slice (thn (po_none.run pins s1 σ H1 (fun o H2 => o = none ∧ H2 = H1) I1 ⟨rfl, rfl⟩) fun vl s2 ⟨l, H2, I2, pl, el, e2⟩ => ?_)
  subst el e2
  refine thn (po_none.run pins s2 σ H2 (fun o H3 => o = none ∧ H3 = H2) I2 ⟨rfl, rfl⟩) fun vu s3 ⟨u, H3, I3, pu, eu, e3⟩ => ?_
  subst eu e3
  refine thn (st.run pins s3 σ H3 (fun o H4 => o = some (-1) ∧ H4 = H3) I3 ⟨1, rfl, -1, rfl, rfl, rfl⟩) fun vs s4 ⟨o, H4, I4, ps, eo, e4⟩ => ?_
  subst eo e4
  have I5 : Inv X pins σ H4 { s4 with heap := s4.heap.push { cls := .type "slice", data := .fields #[vl, vu, vs] } } := I4.kept (t' := s4.toks) fun b ob q => Heap.get?_push_of_some _ q
  show wpAny (model X.prog X.w) X.A (subscriptTail e _ (.ref a) (.ref s4.heap.objs.size)) (EP X pins σ Q) X.xe _
  rcases hx with ⟨hx, q⟩ | ⟨hx, q⟩
  · obtain ⟨its, r, ht, hz⟩ := I5.list hx
    have hlen := r.length
    refine tail_any (ops := [.ref a, .ref s4.heap.objs.size]) ht.isList.typeIs (PySem.slot_list_getitem.lookup) ?_ (by with_unfolding_all rfl)
    refine wpAny_getItem_list_slice ht.isList (Heap.IsSliceOf.new _ vl vu vs) pl pu ps (by decide) ?_ (by rw [List.size_toArray]; omega)
    rw [PySem.W.krv_pick]
    exact ⟨.ref _, _, I5.laid (t' := s4.toks) (o := .lst xs.reverse) (fun b ob q => Heap.get?_push_of_some _ q) (Nat.le_refl _) ⟨by rw [List.length_reverse]; exact hz, _, 0, r.reverse, Heap.get?_push_size _ rfl⟩, rfl, q _ (I5.hok.fresh (Nat.le_refl _))⟩
  · obtain ⟨its, r, ht, hz⟩ := I5.tuple hx
    have hlen := r.length
    refine tail_any (ops := [.ref a, .ref s4.heap.objs.size]) ht.typeIs (PyProof.Rows.slot_tuple_getitem.lookup) ?_ (by with_unfolding_all rfl)
    refine tup_rev ht (Heap.IsSliceOf.new _ vl vu vs) pl pu ps ?_ (by rw [List.size_toArray]; omega)
    exact ⟨.ref _, _, I5.laid (t' := s4.toks) (o := .tup xs.reverse) (fun b ob q => Heap.get?_push_of_some _ q) (Nat.le_refl _) ⟨by rw [List.length_reverse]; exact hz, _, r.reverse, IsTup.new _ _⟩, rfl, q _ (I5.hok.fresh (Nat.le_refl _))⟩
end Ly
set_option Elab.async false
set_option linter.all false
set_option maxRecDepth 100000
set_option maxHeartbeats 4000000
namespace K01
open PySem PySem.Spec PyProof.Rows L2 Ly
def topS (i : Nat) : Stmt := PySem.Challenge.pw_longyears_k01_lands.main.body.getD i (.Pass ⟨0, 0, 0, 0⟩)
abbrev s_is_from : Stmt := topS 4
theorem sc_is_from : FnScope ["thing", "low", "high"] ["thing", "low", "high"] (defScope s_is_from) := ⟨rfl, rfl, rfl, by decide +kernel, rfl, by decide +kernel, by decide +kernel⟩
abbrev s_is_land : Stmt := topS 5
theorem sc_is_land : FnScope ["thing"] ["thing"] (defScope s_is_land) := ⟨rfl, rfl, rfl, by decide +kernel, rfl, by decide +kernel, by decide +kernel⟩
abbrev s_law_deck : Stmt := topS 7
theorem sc_law_deck : FnScope ["cell", "turn"] ["cell", "turn"] (defScope s_law_deck) := ⟨rfl, rfl, rfl, by decide +kernel, rfl, by decide +kernel, by decide +kernel⟩
abbrev s_law_pick : Stmt := topS 8
theorem sc_law_pick : FnScope ["deck", "size", "found", "number"] ["deck", "size"] (defScope s_law_pick) := ⟨rfl, rfl, rfl, by decide +kernel, rfl, by decide +kernel, by decide +kernel⟩
abbrev s_law_whole : Stmt := topS 9
theorem sc_law_whole : FnScope ["thing"] ["thing"] (defScope s_law_whole) := ⟨rfl, rfl, rfl, by decide +kernel, rfl, by decide +kernel, by decide +kernel⟩
abbrev s_law_one : Stmt := topS 10
theorem sc_law_one : FnScope ["deck", "some"] ["deck", "some"] (defScope s_law_one) := ⟨rfl, rfl, rfl, by decide +kernel, rfl, by decide +kernel, by decide +kernel⟩
abbrev s_law_sort : Stmt := topS 11
theorem sc_law_sort : FnScope ["thing"] ["thing"] (defScope s_law_sort) := ⟨rfl, rfl, rfl, by decide +kernel, rfl, by decide +kernel, by decide +kernel⟩
abbrev s_law_same : Stmt := topS 12
theorem sc_law_same : FnScope ["told", "due", "k", "part"] ["told", "due"] (defScope s_law_same) := ⟨rfl, rfl, rfl, by decide +kernel, rfl, by decide +kernel, by decide +kernel⟩
abbrev s_law_odd : Stmt := topS 13
theorem sc_law_odd : FnScope ["deck", "some"] ["deck"] (defScope s_law_odd) := ⟨rfl, rfl, rfl, by decide +kernel, rfl, by decide +kernel, by decide +kernel⟩
abbrev s_law_spoilt : Stmt := topS 14
theorem sc_law_spoilt : FnScope ["deck", "thing", "rows", "at", "other"] ["deck", "thing"] (defScope s_law_spoilt) := ⟨rfl, rfl, rfl, by decide +kernel, rfl, by decide +kernel, by decide +kernel⟩
abbrev s_law_land : Stmt := topS 15
theorem sc_law_land : FnScope ["deck", "long_so", "bottoms", "shifts", "bottom", "shift"] ["deck", "long_so", "bottoms", "shifts"] (defScope s_law_land) := ⟨rfl, rfl, rfl, by decide +kernel, rfl, by decide +kernel, by decide +kernel⟩
abbrev s_law_any : Stmt := topS 16
theorem sc_law_any : FnScope ["deck", "long_so", "bottoms", "shifts"] ["deck"] (defScope s_law_any) := ⟨rfl, rfl, rfl, by decide +kernel, rfl, by decide +kernel, by decide +kernel⟩
abbrev s_law_is_land : Stmt := topS 17
theorem sc_law_is_land : FnScope ["thing", "one"] ["thing"] (defScope s_law_is_land) := ⟨rfl, rfl, rfl, by decide +kernel, rfl, by decide +kernel, by decide +kernel⟩
abbrev s_law : Stmt := topS 18
theorem sc_law : FnScope ["script", "written", "cell", "deck", "land", "bent", "some", "thing", "k"] ["script"] (defScope s_law) := ⟨rfl, rfl, rfl, by decide +kernel, rfl, by decide +kernel, by decide +kernel⟩
structure All (K : PySem.W.Frag) (mg : Str → Option Value) : Prop where
  t_is_from : Tx K mg "is_from" s_is_from ["thing", "low", "high"]
  t_is_land : Tx K mg "is_land" s_is_land ["thing"]
  t_law_deck : Tx K mg "_law_deck" s_law_deck ["cell", "turn"]
  t_law_pick : Tx K mg "_law_pick" s_law_pick ["deck", "size"]
  t_law_whole : Tx K mg "_law_whole" s_law_whole ["thing"]
  t_law_one : Tx K mg "_law_one" s_law_one ["deck", "some"]
  t_law_sort : Tx K mg "_law_sort" s_law_sort ["thing"]
  t_law_same : Tx K mg "_law_same" s_law_same ["told", "due"]
  t_law_odd : Tx K mg "_law_odd" s_law_odd ["deck"]
  t_law_spoilt : Tx K mg "_law_spoilt" s_law_spoilt ["deck", "thing"]
  t_law_land : Tx K mg "_law_land" s_law_land ["deck", "long_so", "bottoms", "shifts"]
  t_law_any : Tx K mg "_law_any" s_law_any ["deck"]
  t_law_is_land : Tx K mg "_law_is_land" s_law_is_land ["thing"]
  t_law : Tx K mg "law" s_law ["script"]
  b_bool : mg "bool" = none
  b_enumerate : mg "enumerate" = none
  b_int : mg "int" = none
  b_isinstance : mg "isinstance" = none
  b_len : mg "len" = none
  b_list : mg "list" = none
  b_range : mg "range" = none
  b_str : mg "str" = none
  b_tuple : mg "tuple" = none
  c_MOST_DAYS : ∃ t, mg "MOST_DAYS" = some (.int 400 t)
  c_MOST_BOTTOM : ∃ t, mg "MOST_BOTTOM" = some (.int 60 t)
  c_MOST_SHIFT : ∃ t, mg "MOST_SHIFT" = some (.int 1000000 t)
local macro_rules | `(tactic| walk_at "g") => `(tactic| (repeat (first
  | refine ⟨_, _, _, _, rfl, rfl, (by assumption), (by rfl), ?_⟩
  | refine ⟨_, _, rfl, rfl, ⟨by omega, by omega⟩, ?_⟩
  | refine ⟨_, _, rfl, rfl, Or.inl ⟨by omega, by omega⟩, ?_⟩
  | refine ⟨_, _, rfl, rfl, Or.inr ⟨by omega, by omega⟩, ?_⟩
  | refine ⟨_, _, rfl, rfl, (by show (0 : Int) < _; omega), ?_⟩
  | refine ⟨_, _, rfl, rfl, ?_⟩
  | refine ⟨_, _, rfl, ?_⟩
  | refine ⟨_, rfl, ?_⟩
  | refine ⟨rfl, ?_⟩)))
local macro_rules | `(tactic| walk_at "vi") => `(tactic| (show V.int _ = V.int _; congr 1; (try dsimp only); omega))
section
variable {P : Program} {w : World} {K : PySem.W.Frag} {mg : Str → Option Value} {base : Heap}
/-- a plain value -/
inductive Fl (B : Int) : V → Prop where
  | non : Fl B .non
  | bl (b : Bool) : Fl B (.bl b)
  | int (i : Int) (h : -B ≤ i ∧ i ≤ B) : Fl B (.int i)
  | str (x : Str) (h : PyData.strOk x = true) : Fl B (.str x)
theorem Fl.kn {K : PySem.W.Frag} {H : Hp} {B : Int} {x : V} (h : Fl B x) : ∃ n, Kn K H x n ∧ n ≠ "tuple" ∧ n ≠ "list" := by
  cases h with
  | non => exact ⟨_, .non, by decide, by decide⟩
  | bl b => exact ⟨_, .bl b, by decide, by decide⟩
  | int i _ => exact ⟨_, .int i, by decide, by decide⟩
  | str x _ => exact ⟨_, .str x, by decide, by decide⟩
theorem Fl.up {B C : Int} {x : V} (h : Fl B x) (e : B ≤ C) : Fl C x := by
  cases h with
  | non => exact .non
  | bl b => exact .bl b
  | int i h => exact .int i ⟨by omega, by omega⟩
  | str x h => exact .str x h
/-- a plain value as data -/
def dFl : V → PyData
  | .bl b => .bool b
  | .int i => .int i
  | .str x => .str x
  | _ => .none
theorem Fl.dp {K : PySem.W.Frag} {H : Hp} {B : Int} {x : V} (h : Fl B x) : Dp K H x (dFl x) := by
  cases h with
  | non => exact .non
  | bl b => exact .bl b
  | int i _ => exact .int i
  | str x _ => exact .str x
theorem dps_fl {K : PySem.W.Frag} {H : Hp} {B : Int} : ∀ {xs : List V}, (∀ y ∈ xs, Fl B y) → DpAll K H xs (xs.map dFl)
  | [], _ => .nil
  | x :: xs, h => .cons (h x (List.mem_cons_self ..)).dp (dps_fl fun y hy => h y (List.mem_cons_of_mem _ hy))
theorem lay_fl {B : Int} : ∀ {xs : List V}, (∀ y ∈ xs, Fl B y) → PyData.canLayAll0 (xs.map dFl) = true ∧ PyData.depthAll (xs.map dFl) = 0
  | [], _ => ⟨rfl, rfl⟩
  | x :: xs, h => by
    obtain ⟨a, b⟩ := lay_fl fun y hy => h y (List.mem_cons_of_mem _ hy)
    have hx := h x (List.mem_cons_self ..)
    rw [List.map_cons]
    cases hx with
    | non => simp [dFl, PyData.canLayAll0, PyData.canLay0, PyData.depthAll, PyData.depth, a, b]
    | bl _ => simp [dFl, PyData.canLayAll0, PyData.canLay0, PyData.depthAll, PyData.depth, a, b]
    | int _ _ => simp [dFl, PyData.canLayAll0, PyData.canLay0, PyData.depthAll, PyData.depth, a, b]
    | str _ hs => simp [dFl, PyData.canLayAll0, PyData.canLay0, PyData.depthAll, PyData.depth, a, b, hs]
theorem ne_nilF {K : PySem.W.Frag} {H : Hp} {B : Int} {a e : Addr} {xs : List V} {Q : VK} (h1 : SqL K H a xs) (hf : ∀ y ∈ xs, Fl B y) (h2 : SqL K H e []) (q : Q (.bl (!decide (xs = []))) H) : rNeD K (.ref a) (.ref e) H Q := by
  refine ⟨_, _, .lst h1 (dps_fl hf), .lst h2 .nil, ?_, by decide, ?_⟩
  · have := lay_fl hf
    simp [SeqAt.shaped, PyData.canLay0, PyData.depth, this.1, this.2]
  · cases xs with
    | nil => exact q
    | cons x xs =>
      have e1 : PyData.eqv (.list ((x :: xs).map dFl)) (.list []) = decide (x :: xs = []) := by simp [PyData.eqv, PyData.eqvAll]
      rw [e1]
      exact q
def sp_is_from (K : PySem.W.Frag) : Sp := fun vs H Q _ => ∃ (x : V) (lo hi : Int) (n : String), vs = [x, .int lo, .int hi] ∧ Kn K H x n ∧ Q (.bl (isFrom x lo hi)) H
theorem d_is_from (A : All K mg) : Df P w K mg base CX0 "is_from" 1 ["thing", "low", "high"] (sp_is_from K) := by
  obtain ⟨f, fd, F, hm, hb⟩ := A.t_is_from
  refine ⟨f, fd, F.ok sc_is_from (fun vs H Q E h => ?_) (fun cdv A' outer s H vs Q E hr h => ?_), hm, F.kp, hb⟩
  · obtain ⟨x, lo, hi, n, rfl, _⟩ := h; rfl
  · obtain ⟨x, lo, hi, n, rfl, hk, q⟩ := h
    refine ⟨_, (pss_one (ps_ret (pe_and (pe_callB call_isi (by rfl) A.b_isinstance (by decide +kernel) (pa_cons (pv 0) (pa_cons (pe_bltn (v := .ty "int") (by rfl) A.b_int (by decide +kernel) rfl) pa_nil))) (pe_and (pe_not (pe_callB call_isi (by rfl) A.b_isinstance (by decide +kernel) (pa_cons (pv 0) (pa_cons (pe_bltn (v := .ty "bool") (by rfl) A.b_bool (by decide +kernel) rfl) pa_nil)))) (pe_one (pe_chain op_le op_le (pv 1) (pv 0) (pv 2))))))), ?_⟩
    refine ⟨x, rfl, x, _, _, _, _, rfl, .ty _, hk.ty, hk.kit (by decide), _, rfl, ?_⟩
    cases hk with
    | int i =>
      refine iteT ?_
      refine ⟨_, rfl, _, _, _, _, _, rfl, .ty _, (Kn.int i).ty, (Kn.int (K := K) (H := H) i).kit (by decide), _, rfl, _, rfl, ?_⟩
      refine iteT ?_
      refine ⟨_, rfl, _, rfl, _, _, rfl, rfl, _, rfl, ?_⟩
      refine ite2 (fun e => ?_) (fun e => ?_)
      · refine ⟨_, rfl, _, _, rfl, rfl, ?_⟩
        rw [isFrom_mid (of_decide_eq_true e)] at q
        exact q
      · rw [isFrom_no1 fun z => e (decide_eq_true z)] at q
        exact q
    | bl b =>
      refine iteT ?_
      refine ⟨_, rfl, _, _, _, _, _, rfl, .ty _, (Kn.bl b).ty, (Kn.bl (K := K) (H := H) b).kit (by decide), _, rfl, _, rfl, ?_⟩
      exact iteF q
    | non => exact iteF q
    | str z => exact iteF q
    | lst h => exact iteF q
    | tup h => exact iteF q

instance (d t b s : Int) : Decidable (LandOk d t b s) := by unfold LandOk; infer_instance
/-- whether some values are a land's -/
def landL : List V → Bool
  | [.int d, .int t, .int b, .int s] => decide (LandOk d t b s)
  | _ => false
theorem landL_len {xs : List V} (h : xs.length ≠ 4) : landL xs = false := by
  unfold landL
  split
  · exact absurd rfl h
  · rfl
theorem landL_ok {x0 x1 x2 x3 : V} : landL [x0, x1, x2, x3] = true ↔ ∃ d t b s, x0 = .int d ∧ x1 = .int t ∧ x2 = .int b ∧ x3 = .int s ∧ LandOk d t b s := by
  constructor
  · intro h
    cases x0 with
    | int d =>
      cases x1 with
      | int t =>
        cases x2 with
        | int b =>
          cases x3 with
          | int s => exact ⟨d, t, b, s, rfl, rfl, rfl, rfl, of_decide_eq_true h⟩
          | _ => exact absurd (show false = true from h) (by decide)
        | _ => exact absurd (show false = true from h) (by decide)
      | _ => exact absurd (show false = true from h) (by decide)
    | _ => exact absurd (show false = true from h) (by decide)
  · rintro ⟨d, t, b, s, rfl, rfl, rfl, rfl, h⟩
    exact decide_eq_true h
theorem isFrom_ok {x : V} {lo hi : Int} : isFrom x lo hi = true ↔ ∃ i, x = .int i ∧ lo ≤ i ∧ i ≤ hi := by
  constructor
  · intro h
    cases x with
    | int i =>
      rw [isFrom_int, Bool.and_eq_true, decide_eq_true_iff, decide_eq_true_iff] at h
      exact ⟨i, rfl, h⟩
    | _ => exact absurd (show false = true from h) (by decide)
  · rintro ⟨i, rfl, h1, h2⟩
    exact isFrom_yes h1 h2
/-- a thing that may be asked, and whether it is a land -/
inductive Chk (K : PySem.W.Frag) (H : Hp) : V → Bool → Prop where
  | other {x : V} {n : String} (h : Kn K H x n) (hn : n ≠ "tuple") : Chk K H x false
  | tup {a : Addr} {xs : List V} (h : SqT K H a xs) (hi : xs.length = 4 → ∀ y ∈ xs, Fl 10000000000000000000000000000000 y) : Chk K H (.ref a) (landL xs)
theorem Chk.same {K : PySem.W.Frag} {H H' : Hp} {x : V} {r : Bool} (s : Same H H') (h : Chk K H x r) : Chk K H' x r := by
  cases h with
  | other h hn => exact .other (h.same s) hn
  | tup h hi => exact .tup (Same.t s h) hi
theorem false_of_iff {r : Bool} {p : Prop} (h : r = true ↔ p) (hp : ¬ p) : r = false := by
  cases r with
  | false => rfl
  | true => exact absurd (h.mp rfl) hp
def sp_is_land (K : PySem.W.Frag) : Sp := fun vs H Q _ => ∃ (x : V) (r : Bool), vs = [x] ∧ Chk K H x r ∧ Q (.bl r) H
theorem d_is_land (A : All K mg) : Df P w K mg base CX0 "is_land" 2 ["thing"] (sp_is_land K) := by
  obtain ⟨f, fd, F, hm, hb⟩ := A.t_is_land
  refine ⟨f, fd, F.ok sc_is_land (fun vs H Q E h => ?_) (fun cdv A' outer s H vs Q E hr h => ?_), hm, F.kp, hb⟩
  · obtain ⟨x, r, rfl, _⟩ := h; rfl
  · obtain ⟨x, r, rfl, hc, q⟩ := h
    refine ⟨_, (pss_cons (ps_if (PW.pt (pw_or (pt_not (pt_val (pe_callB call_isi (by rfl) A.b_isinstance (by decide +kernel) (pa_cons (pv 0) (pa_cons (pe_bltn (v := .ty "tuple") (by rfl) A.b_tuple (by decide +kernel) rfl) pa_nil))))) (pw_or (pt_cmpR op_ne (pe_callB call_len_seq (by rfl) A.b_len (by decide +kernel) (pa_cons (pv 0) pa_nil)) pe_int (nomark _)) (pw_or1 (pt_not (pt_val (pe_callD (d_is_from A) hr (by decide) (by rfl) pass0 (pa_cons (pe_ix ix_tup (pv 0) pe_int (fun _ _ => rfl)) (pa_cons pe_int (pa_cons (pe_glob (v := .int 400) (by rfl) A.c_MOST_DAYS.choose_spec ⟨_, rfl⟩) pa_nil))))))))))
 (pss_one (ps_ret pe_bl))
 pss_nil)
 (pss_cons (ps_if (PW.pt (pw_or (pt_not (pt_val (pe_callD (d_is_from A) hr (by decide) (by rfl) pass0 (pa_cons (pe_ix ix_tup (pv 0) pe_int (fun _ _ => rfl)) (pa_cons pe_int (pa_cons (pe_glob (v := .int 60) (by rfl) A.c_MOST_BOTTOM.choose_spec ⟨_, rfl⟩) pa_nil)))))) (pw_or1 (pt_not (pt_val (pe_callD (d_is_from A) hr (by decide) (by rfl) pass0 (pa_cons (pe_ix ix_tup (pv 0) pe_int (fun _ _ => rfl)) (pa_cons pe_int (pa_cons (pe_op op_sub (pe_ix ix_tup (pv 0) pe_int (fun _ _ => rfl)) pe_int) pa_nil)))))))))
 (pss_one (ps_ret pe_bl))
 pss_nil)
 (pss_one (ps_ret (pe_callD (d_is_from A) hr (by decide) (by rfl) pass0 (pa_cons (pe_ix ix_tup (pv 0) pe_int (fun _ _ => rfl)) (pa_cons (pe_un un_neg (pe_glob (v := .int 1000000) (by rfl) A.c_MOST_SHIFT.choose_spec ⟨_, rfl⟩)) (pa_cons (pe_glob (v := .int 1000000) (by rfl) A.c_MOST_SHIFT.choose_spec ⟨_, rfl⟩) pa_nil)))))))), ?_⟩
    cases hc with
    | other hk hn =>
      refine ⟨_, rfl, _, _, _, _, _, rfl, .ty _, hk.ty, hk.kit (by decide), _, rfl, ?_⟩
      have : ∀ n : String, Kn K H x n → n ≠ "tuple" → kindIs n "tuple" = false := fun n h e => by cases h <;> first | rfl | exact absurd rfl e
      rw [this _ hk hn]
      exact iteT q
    | tup hl hi =>
      rename_i a xs
      have kt : Kn K H (.ref a) "tuple" := .tup hl
      refine ⟨_, rfl, _, _, _, _, _, rfl, .ty _, kt.ty, kt.kit (by decide), _, rfl, ?_⟩
      refine iteF ?_
      refine ⟨_, rfl, a, _, rfl, .inr hl, rfl, _, rfl, ?_⟩
      by_cases h4 : xs.length = 4
      · refine iteNS (by rw [h4]; rfl) ?_
        match xs, h4, hl, hi, q with
        | [x0, x1, x2, x3], _, hl, hi, q =>
          have hF := hi rfl
          obtain ⟨n0, k0, _⟩ := (hF x0 (by simp)).kn (K := K) (H := H)
          obtain ⟨n1, k1, _⟩ := (hF x1 (by simp)).kn (K := K) (H := H)
          obtain ⟨n2, k2, _⟩ := (hF x2 (by simp)).kn (K := K) (H := H)
          obtain ⟨n3, k3, _⟩ := (hF x3 (by simp)).kn (K := K) (H := H)
          have no : (¬ ∃ d t b s, x0 = .int d ∧ x1 = .int t ∧ x2 = .int b ∧ x3 = .int s ∧ LandOk d t b s) → Q (.bl false) H := fun h => by
            rw [false_of_iff landL_ok h] at q; exact q
          refine ⟨_, rfl, _, _, _, _, rfl, rfl, hl, (by rfl), _, _, _, _, rfl, k0, _, rfl, ite2 (fun c => ?_) (fun c => ?_)⟩
          · refine no ?_
            rintro ⟨d, t, b, s, rfl, rfl, rfl, rfl, hk⟩
            rw [isFrom_yes hk.d.1 hk.d.2] at c
            exact absurd c (by decide)
          have f0 : isFrom x0 1 400 = true := by cases z : isFrom x0 1 400 with | true => rfl | false => exact absurd (by show (!isFrom x0 1 400) = true; rw [z]; rfl) c
          refine ⟨_, rfl, _, _, _, _, rfl, rfl, hl, (by rfl), _, _, _, _, rfl, k2, _, rfl, ite2 (fun c => ?_) (fun c => ?_)⟩
          · refine no ?_
            rintro ⟨d, t, b, s, rfl, rfl, rfl, rfl, hk⟩
            rw [isFrom_yes hk.b.1 hk.b.2] at c
            exact absurd c (by decide)
          have f2 : isFrom x2 1 60 = true := by cases z : isFrom x2 1 60 with | true => rfl | false => exact absurd (by show (!isFrom x2 1 60) = true; rw [z]; rfl) c
          obtain ⟨b, rfl, b0, b1⟩ := isFrom_ok.mp f2
          refine ⟨_, rfl, _, _, _, _, rfl, rfl, hl, (by rfl), _, rfl, _, _, _, _, rfl, rfl, hl, (by rfl), _, _, rfl, rfl, _, _, _, _, rfl, k1, _, rfl, ite2 (fun c => ?_) (fun c => ?_)⟩
          · refine no ?_
            rintro ⟨d, t, b', s, rfl, rfl, e, rfl, hk⟩
            cases e
            rw [isFrom_yes hk.t.1 (by have := hk.t.2; omega)] at c
            exact absurd c (by decide)
          have f1 : isFrom x1 0 (b - 1) = true := by cases z : isFrom x1 0 (b - 1) with | true => rfl | false => exact absurd (by show (!isFrom x1 0 (b - 1)) = true; rw [z]; rfl) c
          refine ⟨_, rfl, _, _, _, _, rfl, rfl, hl, (by rfl), _, rfl, _, _, _, _, rfl, k3, ?_⟩
          obtain ⟨d, rfl, d0, d1⟩ := isFrom_ok.mp f0
          obtain ⟨t, rfl, t0, t1⟩ := isFrom_ok.mp f1
          have e : isFrom x3 (-1000000) 1000000 = landL [.int d, .int t, .int b, x3] := by
            rw [Bool.eq_iff_iff, isFrom_ok, landL_ok]
            constructor
            · rintro ⟨s, rfl, s0, s1⟩
              exact ⟨d, t, b, s, rfl, rfl, rfl, rfl, ⟨⟨d0, d1⟩, ⟨t0, by omega⟩, ⟨b0, b1⟩, s0, s1⟩⟩
            · rintro ⟨_, _, _, s, _, _, _, rfl, hk⟩
              exact ⟨s, rfl, hk.s.1, hk.s.2⟩
          rw [← e] at q
          exact q
      · rw [decide_eq_false (fun z => h4 (by have := V.int.inj z; omega))]
        refine iteT ?_
        rw [landL_len h4] at q
        exact q

def sp_law_deck : Sp := fun vs H Q _ => ∃ (c t : Int) (n : Nat), vs = [.int c, .int t] ∧ NoT H ∧ 0 ≤ t ∧ t ≤ (n : Int) ∧ ∀ p H', H p = none → Same H H' → Dk n H' p → Q (.ref p) H'
theorem d_law_deck (A : All K mg) : Df P w K mg base CX0 "_law_deck" 1 ["cell", "turn"] sp_law_deck := by
  obtain ⟨f, fd, F, hm, hb⟩ := A.t_law_deck
  refine ⟨f, fd, F.ok sc_law_deck (fun vs H Q E h => ?_) (fun cdv A' outer s H vs Q E hr h => ?_), hm, F.kp, hb⟩
  · obtain ⟨c, t, n, rfl, _⟩ := h; rfl
  · obtain ⟨c, t, n, rfl, nt, t0, t1, q⟩ := h
    refine ⟨_, (pss_cons (ps_if (pt_cmpR op_ge (pv 0) (pe_op op_pow pe_int pe_int) (nomark _))
 (pss_one (ps_ret (pe_lst (pa_cons (pe_op op_sub (pv 0) (pe_op op_pow pe_int pe_int)) (pa_cons (pe_op op_mod (pv 0) pe_int) (pa_cons (pv 1) pa_nil))))))
 pss_nil)
 (pss_one (ps_ret (pe_lst (pa_cons pe_int (pa_cons (pe_op op_mod (pv 0) pe_int) (pa_cons (pv 1) pa_nil))))))), ?_⟩
    refine ⟨_, rfl, _, _, rfl, rfl, ⟨by decide, by decide, by decide⟩, ?_⟩
    walk_at "g"
    refine ite2 (fun e => ?_) (fun e => ?_)
    · refine ⟨_, rfl, _, _, rfl, rfl, ⟨by decide, by decide, by decide⟩, ?_⟩
      walk_at "g"
      refine ⟨by show 3 ≤ sizeLine; decide, fun p hp => q p _ hp (same_new hp) ⟨nt.lst, _, _, _, upd_same, ?_, ?_, t0, t1⟩⟩ <;> omega
    · walk_at "g"
      refine ⟨by show 3 ≤ sizeLine; decide, fun p hp => q p _ hp (same_new hp) ⟨nt.lst, _, _, _, upd_same, ?_, ?_, t0, t1⟩⟩ <;> omega

def sp_law_pick : Sp := fun vs H Q _ => ∃ (d : Addr) (n : Nat) (z : Int), vs = [.ref d, .int z] ∧ Dk n H d ∧ n ≤ 100000000 ∧ 0 < z ∧ z < 1000000000000000000000000000000 ∧ ∀ r H', 0 ≤ r → r < z → Dk (n + 1) H' d → Gr d H H' → Q (.int r) H'
theorem d_law_pick (A : All K mg) : Df P w K mg base CX0 "_law_pick" 1 ["deck", "size"] sp_law_pick := by
  obtain ⟨f, fd, F, hm, hb⟩ := A.t_law_pick
  refine ⟨f, fd, F.ok sc_law_pick (fun vs H Q E h => ?_) (fun cdv A' outer s H vs Q E hr h => ?_), hm, F.kp, hb⟩
  · obtain ⟨d, n, z, rfl, _⟩ := h; rfl
  · obtain ⟨d, n, z, rfl, ⟨nt, x, y, c, hd, y0, y1, c0, c1⟩, hn, z0, z1, q⟩ := h
    have hS : SqL K H d [.int x, .int y, .int c] := SqL.of hd
    refine ⟨_, (pss_cons (ps_if (pt_cmpR op_gt (pe_ix ix_list (pv 0) pe_int (fun _ _ => rfl)) pe_int (nomark _))
 (pss_cons (ps_set (i := 2) sc_law_pick.nd rfl (Or.inl rfl) (pe_op op_mod (pe_ix ix_list (pv 0) pe_int (fun _ _ => rfl)) (pv 1)))
 (pss_cons (ps_asg (pe_op op_fdivW (pe_ix ix_list (pv 0) pe_int (fun _ _ => rfl)) (pv 1)) (pg_sub (pv 0) pe_int set_list))
 (pss_one (ps_ret (pv 2)))))
 pss_nil)
 (pss_cons (ps_asg (pe_op op_add (pe_ix ix_list (pv 0) pe_int (fun _ _ => rfl)) pe_int) (pg_sub (pv 0) pe_int set_list))
 (pss_cons (ps_set (i := 3) sc_law_pick.nd rfl (Or.inl rfl) (pe_op op_mod (pe_op op_pow (pe_op op_add (pe_ix ix_list (pv 0) pe_int (fun _ _ => rfl)) (pe_op op_mul pe_int (pe_ix ix_list (pv 0) pe_int (fun _ _ => rfl)))) pe_int) pe_int))
 (pss_cons (ps_set (i := 2) sc_law_pick.nd rfl (Or.inl rfl) (pe_op op_fdiv (pe_op op_mod (pe_op op_pow (pe_op op_add (pv 3) (pe_op op_mul pe_int (pe_ix ix_list (pv 0) pe_int (fun _ _ => rfl)))) pe_int) pe_int) pe_int))
 (pss_one (ps_ret (pe_op op_mod (pv 2) (pv 1)))))))), ?_⟩
    walk_at "g"
    refine ite2 (fun e => ?_) (fun e => ?_)
    · walk_at "g"
      refine ⟨wide_div (b := 100) z0 (by omega) (by decide) (by decide), ?_⟩
      refine ⟨_, rfl, d, _, _, 0, rfl, rfl, hd, rfl, ?_⟩
      refine ⟨_, rfl, ?_⟩
      exact q _ _ (Int.emod_nonneg _ (by omega)) (Int.emod_lt_of_pos _ z0) ⟨nt.lst, _, _, _, upd_same, y0, y1, c0, by omega⟩ ((Gr.refl hd).put)
    · refine ⟨_, rfl, _, _, _, _, rfl, rfl, hS, (by rfl), _, _, rfl, rfl, ?_⟩
      refine ⟨_, rfl, d, _, _, 2, rfl, rfl, hd, rfl, ?_⟩
      have hS2 : SqL K (upd H d (.lst [.int x, .int y, .int (c + 1)])) d [.int x, .int y, .int (c + 1)] := SqL.of upd_same
      refine ⟨_, rfl, _, _, _, _, rfl, rfl, hS2, (by rfl), _, rfl, _, _, _, _, rfl, rfl, hS2, (by rfl), _, _, rfl, rfl, Or.inl ⟨by omega, by omega⟩, _, _, rfl, rfl, _, _, rfl, rfl, ⟨by decide, by decide, by omega⟩, ?_⟩
      walk_at "g"
      exact q _ _ (Int.emod_nonneg _ (by omega)) (Int.emod_lt_of_pos _ z0) ⟨nt.lst, _, _, _, upd_same, y0, y1, by omega, by omega⟩ ((Gr.refl hd).put)

def isWhole : V → Bool
  | .int _ => true
  | _ => false
def sp_law_whole (K : PySem.W.Frag) : Sp := fun vs H Q _ => ∃ (x : V) (n : String), vs = [x] ∧ Kn K H x n ∧ Q (.bl (isWhole x)) H
theorem d_law_whole (A : All K mg) : Df P w K mg base CX0 "_law_whole" 1 ["thing"] (sp_law_whole K) := by
  obtain ⟨f, fd, F, hm, hb⟩ := A.t_law_whole
  refine ⟨f, fd, F.ok sc_law_whole (fun vs H Q E h => ?_) (fun cdv A' outer s H vs Q E hr h => ?_), hm, F.kp, hb⟩
  · obtain ⟨x, n, rfl, _⟩ := h; rfl
  · obtain ⟨x, n, rfl, hk, q⟩ := h
    refine ⟨_, (pss_one (ps_ret (pe_and (pe_callB call_isi (by rfl) A.b_isinstance (by decide +kernel) (pa_cons (pv 0) (pa_cons (pe_bltn (v := .ty "int") (by rfl) A.b_int (by decide +kernel) rfl) pa_nil))) (pe_one (pe_not (pe_callB call_isi (by rfl) A.b_isinstance (by decide +kernel) (pa_cons (pv 0) (pa_cons (pe_bltn (v := .ty "bool") (by rfl) A.b_bool (by decide +kernel) rfl) pa_nil)))))))), ?_⟩
    refine ⟨x, rfl, x, _, _, _, _, rfl, .ty _, hk.ty, hk.kit (by decide), _, rfl, ?_⟩
    cases hk with
    | int i =>
      refine iteT ?_
      exact ⟨_, rfl, _, _, _, _, _, rfl, .ty _, (Kn.int i).ty, (Kn.int (K := K) (H := H) i).kit (by decide), _, rfl, q⟩
    | bl b =>
      refine iteT ?_
      exact ⟨_, rfl, _, _, _, _, _, rfl, .ty _, (Kn.bl b).ty, (Kn.bl (K := K) (H := H) b).kit (by decide), _, rfl, q⟩
    | non => exact iteF q
    | str z => exact iteF q
    | lst h => exact iteF q
    | tup h => exact iteF q

def sp_law_one (K : PySem.W.Frag) : Sp := fun vs H Q _ => ∃ (d l : Addr) (n : Nat) (xs : List V), vs = [.ref d, .ref l] ∧ Dk n H d ∧ n ≤ 10000000 ∧ SqL K H l xs ∧ l ≠ d ∧ 0 < xs.length ∧ xs.length < 1000000 ∧ ∀ (i : Nat) v H', xs[i]? = some v → Dk (n + 1) H' d → Gr d H H' → Q v H'
theorem d_law_one (A : All K mg) : Df P w K mg base CX0 "_law_one" 2 ["deck", "some"] (sp_law_one K) := by
  obtain ⟨f, fd, F, hm, hb⟩ := A.t_law_one
  refine ⟨f, fd, F.ok sc_law_one (fun vs H Q E h => ?_) (fun cdv A' outer s H vs Q E hr h => ?_), hm, F.kp, hb⟩
  · obtain ⟨d, l, n, xs, rfl, _⟩ := h; rfl
  · obtain ⟨d, l, n, xs, rfl, hD, hn, hS, hne, z0, z1, q⟩ := h
    refine ⟨_, (pss_one (ps_ret (pe_ix ix_list (pv 1) (pe_callD (d_law_pick A) hr (by decide) (by rfl) pass0 (pa_cons (pv 0) (pa_cons (pe_callB call_len_seq (by rfl) A.b_len (by decide +kernel) (pa_cons (pv 1) pa_nil)) pa_nil))) (fun _ _ => rfl)))), ?_⟩
    refine ⟨_, rfl, _, rfl, _, rfl, l, xs, rfl, .inl hS, d, n, _, rfl, hD, by omega, by omega, by omega, fun r H' r0 r1 hD' hg => ?_⟩
    obtain ⟨j, rfl⟩ : ∃ j : Nat, r = (j : Int) := ⟨r.toNat, by omega⟩
    have hj : j < xs.length := by omega
    exact ⟨l, xs, _, _, rfl, rfl, hg.l hne hS, atI_nat (List.getElem?_eq_getElem hj), q j _ H' (List.getElem?_eq_getElem hj) hD' hg⟩

def sp_law_sort (K : PySem.W.Frag) : Sp := fun vs H Q _ => ∃ (x : V) (n : String), vs = [x] ∧ Kn K H x n ∧ Q (.int (sortOf n)) H
theorem d_law_sort (A : All K mg) : Df P w K mg base CX0 "_law_sort" 1 ["thing"] (sp_law_sort K) := by
  obtain ⟨f, fd, F, hm, hb⟩ := A.t_law_sort
  refine ⟨f, fd, F.ok sc_law_sort (fun vs H Q E h => ?_) (fun cdv A' outer s H vs Q E hr h => ?_), hm, F.kp, hb⟩
  · obtain ⟨x, n, rfl, _⟩ := h; rfl
  · obtain ⟨x, n, rfl, hk, q⟩ := h
    refine ⟨_, (pss_cons (ps_if (pt_val (pe_callB call_isi (by rfl) A.b_isinstance (by decide +kernel) (pa_cons (pv 0) (pa_cons (pe_bltn (v := .ty "bool") (by rfl) A.b_bool (by decide +kernel) rfl) pa_nil))))
 (pss_one (ps_ret pe_int))
 pss_nil)
 (pss_cons (ps_if (pt_val (pe_callB call_isi (by rfl) A.b_isinstance (by decide +kernel) (pa_cons (pv 0) (pa_cons (pe_bltn (v := .ty "int") (by rfl) A.b_int (by decide +kernel) rfl) pa_nil))))
 (pss_one (ps_ret pe_int))
 pss_nil)
 (pss_cons (ps_if (pt_val (pe_callB call_isi (by rfl) A.b_isinstance (by decide +kernel) (pa_cons (pv 0) (pa_cons (pe_bltn (v := .ty "str") (by rfl) A.b_str (by decide +kernel) rfl) pa_nil))))
 (pss_one (ps_ret pe_int))
 pss_nil)
 (pss_cons (ps_if (pt_val (pe_callB call_isi (by rfl) A.b_isinstance (by decide +kernel) (pa_cons (pv 0) (pa_cons (pe_bltn (v := .ty "list") (by rfl) A.b_list (by decide +kernel) rfl) pa_nil))))
 (pss_one (ps_ret pe_int))
 pss_nil)
 (pss_one (ps_ret (pe_ifExp (pt_val (pe_callB call_isi (by rfl) A.b_isinstance (by decide +kernel) (pa_cons (pv 0) (pa_cons (pe_bltn (v := .ty "tuple") (by rfl) A.b_tuple (by decide +kernel) rfl) pa_nil)))) pe_int pe_int))))))), ?_⟩
    refine ⟨_, rfl, _, _, _, _, _, rfl, .ty _, hk.ty, hk.kit (by decide), _, rfl, ite2 (fun e => ?_) (fun e => ?_)⟩
    · cases hk <;> first | exact q | exact absurd e (by decide)
    refine ⟨_, rfl, _, _, _, _, _, rfl, .ty _, hk.ty, hk.kit (by decide), _, rfl, ite2 (fun e1 => ?_) (fun e1 => ?_)⟩
    · cases hk <;> first | exact q | exact absurd e1 (by decide) | exact absurd (by decide) e
    refine ⟨_, rfl, _, _, _, _, _, rfl, .ty _, hk.ty, hk.kit (by decide), _, rfl, ite2 (fun e2 => ?_) (fun e2 => ?_)⟩
    · cases hk <;> first | exact q | exact absurd e2 (by decide)
    refine ⟨_, rfl, _, _, _, _, _, rfl, .ty _, hk.ty, hk.kit (by decide), _, rfl, ite2 (fun e3 => ?_) (fun e3 => ?_)⟩
    · cases hk <;> first | exact q | exact absurd e3 (by decide)
    refine ⟨_, rfl, _, _, _, _, _, rfl, .ty _, hk.ty, hk.kit (by decide), _, rfl, ite2 (fun e4 => ?_) (fun e4 => ?_)⟩
    · cases hk <;> first | exact q | exact absurd e4 (by decide)
    · cases hk <;> first | exact q | exact absurd (by decide) e | exact absurd (by decide) e1 | exact absurd (by decide) e2 | exact absurd (by decide) e3 | exact absurd (by decide) e4

def sp_law_same (K : PySem.W.Frag) (k : Nat) : Sp := fun vs H Q _ => ∃ (x y : V) (B : Hp), vs = [x, y] ∧ NoT H ∧ Same B H ∧ Sm K H k x y ∧ ∀ H', Same B H' → NoT H' → Q (.bl true) H'
theorem d_law_same_n (A : All K mg) : ∀ k : Nat, Df P w K mg base CX0 "_law_same" (k + 2) ["told", "due"] (sp_law_same K k)
  | 0 => by
    obtain ⟨f, fd, F, hm, hb⟩ := A.t_law_same
    refine ⟨f, fd, F.ok sc_law_same (fun vs H Q E h => ?_) (fun cdv A' outer s H vs Q E hr h => ?_), hm, F.kp, hb⟩
    · obtain ⟨x, y, B, rfl, _⟩ := h; rfl
    · obtain ⟨x, y, B, rfl, nt, sB, hs, q'⟩ := h
      have q := q' H sB nt
      obtain ⟨n, k1, k2⟩ := hs.kinds
      refine ⟨_, (pss_cons (ps_if (pt_cmpR op_ne (pe_callD (d_law_sort A) hr (by omega) (by rfl) pass0 (pa_cons (pv 0) pa_nil)) (pe_callD (d_law_sort A) hr (by omega) (by rfl) pass0 (pa_cons (pv 1) pa_nil)) (nomark _))
 (pss_one (ps_ret pe_bl))
 pss_nil)
 (pss_cons (ps_if (PW.pt (pw_and (pt_cmpR op_gt (pe_callD (d_law_sort A) hr (by omega) (by rfl) pass0 (pa_cons (pv 0) pa_nil)) pe_int (nomark _)) (pw_and1 (pt_cmpR op_lt (pe_callD (d_law_sort A) hr (by omega) (by rfl) pass0 (pa_cons (pv 0) pa_nil)) pe_int (nomark _)))))
 (pss_cons (ps_if (pt_cmpR op_ne (pe_callB call_len_seq (by rfl) A.b_len (by decide +kernel) (pa_cons (pv 0) pa_nil)) (pe_callB call_len_seq (by rfl) A.b_len (by decide +kernel) (pa_cons (pv 1) pa_nil)) (nomark _))
 (pss_one (ps_ret pe_bl))
 pss_nil)
 (pss_one ps_never))
 pss_nil)
 (pss_one (ps_ret (pe_cmpR (op_eqD hr.units) (pv 0) (pv 1) (nomark _)))))), ?_⟩
      refine ⟨_, rfl, x, n, rfl, k1, _, rfl, y, n, rfl, k2, rfl, _, rfl, ?_⟩
      refine iteNS rfl ?_
      cases hs with
      | non =>
        cases k1
        refine ⟨_, rfl, _, _, rfl, k2, _, _, rfl, rfl, _, rfl, ?_⟩
        refine iteT ?_
        refine ⟨_, rfl, _, _, rfl, k2, _, _, rfl, rfl, _, rfl, ?_⟩
        refine iteF ?_
        refine ⟨_, rfl, _, rfl, .none, .none, .non, .non, (by decide), (by decide), ?_⟩
        exact q
      | bl _ b =>
        cases k1
        refine ⟨_, rfl, _, _, rfl, k2, _, _, rfl, rfl, _, rfl, ?_⟩
        refine iteF ?_
        refine ⟨_, rfl, _, rfl, .bool b, .bool b, .bl b, .bl b, (sh_bl _), (sh_bl _), ?_⟩
        rw [ev_bl]
        exact q
      | int _ i =>
        cases k1
        refine ⟨_, rfl, _, _, rfl, k2, _, _, rfl, rfl, _, rfl, ?_⟩
        refine iteF ?_
        refine ⟨_, rfl, _, rfl, .int i, .int i, .int i, .int i, (sh_int _), (sh_int _), ?_⟩
        rw [ev_int]
        exact q
      | str _ x hx =>
        cases k1
        refine ⟨_, rfl, _, _, rfl, k2, _, _, rfl, rfl, _, rfl, ?_⟩
        refine iteF ?_
        refine ⟨_, rfl, _, rfl, .str x, .str x, .str x, .str x, (sh_str hx), (sh_str hx), ?_⟩
        rw [ev_str]
        exact q
  | k + 1 => by
    have ih : Df P w K mg base CX0 "_law_same" (k + 2) ["told", "due"] (sp_law_same K k) := d_law_same_n A k
    obtain ⟨f, fd, F, hm, hb⟩ := A.t_law_same
    refine ⟨f, fd, Fun.okF F sc_law_same (fun vs H Q E h => ?_) (fun cdv A' outer s H vs Q E hr h => ?_), hm, F.kp, hb⟩
    · obtain ⟨x, y, B, rfl, _⟩ := h; rfl
    · obtain ⟨x, y, B, rfl, nt, sB, hs, q'⟩ := h
      have q := q' H sB nt
      obtain ⟨n, k1, k2⟩ := hs.kinds
      refine ⟨_, (pss_cons (ps_if (pt_cmpR op_ne (pe_callD (d_law_sort A) hr (by omega) (by rfl) pass0 (pa_cons (pv 0) pa_nil)) (pe_callD (d_law_sort A) hr (by omega) (by rfl) pass0 (pa_cons (pv 1) pa_nil)) (nomark _))
 (pss_one (ps_ret pe_bl))
 pss_nil)
 (pss_cons (ps_if (PW.pt (pw_and (pt_cmpR op_gt (pe_callD (d_law_sort A) hr (by omega) (by rfl) pass0 (pa_cons (pv 0) pa_nil)) pe_int (nomark _)) (pw_and1 (pt_cmpR op_lt (pe_callD (d_law_sort A) hr (by omega) (by rfl) pass0 (pa_cons (pv 0) pa_nil)) pe_int (nomark _)))))
 (pss_cons (ps_if (pt_cmpR op_ne (pe_callB call_len_seq (by rfl) A.b_len (by decide +kernel) (pa_cons (pv 0) pa_nil)) (pe_callB call_len_seq (by rfl) A.b_len (by decide +kernel) (pa_cons (pv 1) pa_nil)) (nomark _))
 (pss_one (ps_ret pe_bl))
 pss_nil)
 (pss_one (ps_ret (pe_cmpR (op_eqD hr.units) (pe_lc (own := [("k", 2), ("part", 3)]) (g := gTup K 2 (gCons (gName 2) (gCons (gName 3) gNil))) (by rfl) sc_law_same.nd (pi_enumS (by rfl) A.b_enumerate (pa_cons (pv 0) pa_nil)) (blkOk_by (own := [("k", 2), ("part", 3)]) (N := ["told", "due", "k", "part"]) (sc := defScope s_law_same) (by decide +kernel)) (fun _ _ _ _ _ => (pg_tup (by rfl) (pgs_cons (pg_name (i := 2) sc_law_same.nd rfl (Or.inl rfl)) (pgs_cons (pg_name (i := 3) sc_law_same.nd rfl (Or.inl rfl)) pgs_nil)))) (fun _ _ _ _ _ => (pts_one (pt_not (pt_val (pe_callD (ih) hr (by omega) (by rfl) pass0 (pa_cons (pv 3) (pa_cons (pe_ix (r := rIx K) ix_seq (pv 1) (pv 2) (fun _ _ => rfl)) pa_nil))))))) (fun _ _ _ _ _ => (pv 2))) (pe_lst pa_nil) (nomark _)))))
 pss_nil)
 (pss_one (ps_ret (pe_cmpR (op_eqD hr.units) (pv 0) (pv 1) (nomark _)))))), ?_⟩
      refine ⟨_, rfl, x, n, rfl, k1, _, rfl, y, n, rfl, k2, rfl, _, rfl, ?_⟩
      refine iteNS rfl ?_
      cases hs with
      | non =>
        cases k1
        refine ⟨_, rfl, _, _, rfl, k2, _, _, rfl, rfl, _, rfl, ?_⟩
        refine iteT ?_
        refine ⟨_, rfl, _, _, rfl, k2, _, _, rfl, rfl, _, rfl, ?_⟩
        refine iteF ?_
        refine ⟨_, rfl, _, rfl, .none, .none, .non, .non, (by decide), (by decide), ?_⟩
        exact fg_same nt (Same.refl H) q
      | bl _ b =>
        cases k1
        refine ⟨_, rfl, _, _, rfl, k2, _, _, rfl, rfl, _, rfl, ?_⟩
        refine iteF ?_
        refine ⟨_, rfl, _, rfl, .bool b, .bool b, .bl b, .bl b, (sh_bl _), (sh_bl _), ?_⟩
        rw [ev_bl]
        exact fg_same nt (Same.refl H) q
      | int _ i =>
        cases k1
        refine ⟨_, rfl, _, _, rfl, k2, _, _, rfl, rfl, _, rfl, ?_⟩
        refine iteF ?_
        refine ⟨_, rfl, _, rfl, .int i, .int i, .int i, .int i, (sh_int _), (sh_int _), ?_⟩
        rw [ev_int]
        exact fg_same nt (Same.refl H) q
      | str _ x hx =>
        cases k1
        refine ⟨_, rfl, _, _, rfl, k2, _, _, rfl, rfl, _, rfl, ?_⟩
        refine iteF ?_
        refine ⟨_, rfl, _, rfl, .str x, .str x, .str x, .str x, (sh_str hx), (sh_str hx), ?_⟩
        rw [ev_str]
        exact fg_same nt (Same.refl H) q
      | lst h1 h2 h3 h4 =>
        rename_i a b xs ys
        have d1 : (xs.length : Int) = ys.length := by rw [h3]
        refine ⟨_, rfl, _, _, rfl, Kn.lst h1, _, _, rfl, rfl, _, rfl, ?_⟩
        refine iteT ?_
        refine ⟨_, rfl, _, _, rfl, Kn.lst h1, _, _, rfl, rfl, _, rfl, ?_⟩
        refine iteT ?_
        refine ⟨_, rfl, a, xs, rfl, .inl h1, _, rfl, b, ys, rfl, .inl h2, rfl, _, rfl, ?_⟩
        refine iteNS (by rw [d1]) ?_
        refine ⟨_, rfl, a, xs, rfl, .inl ⟨h1, fun D hD => lc_enumL (fun _ H' => Same H H' ∧ NoT H' ∧ H' D = some (.lst [])) ⟨same_new hD, nt.lst, upd_same⟩ (fun i H' _ p => Same.l p.1 h1) (fun i x T H' hx hT p => ?_) (fun H' p => ?_)⟩⟩
        · obtain ⟨p1, p2, p3⟩ := p
          have hi : i < ys.length := by
            rw [← h3]
            exact (List.getElem?_eq_some_iff.mp hx).1
          have s2 : Same H (upd H' T (.tup [.int (i : Nat), x])) := p1.trans (same_new hT)
          refine ⟨T, _, rfl, SqT.of upd_same, rfl, _, _, rfl, _, _, rfl, rfl, rfl, ?_⟩
          refine ⟨_, rfl, _, rfl, _, rfl, .inl ⟨b, ys, _, _, rfl, rfl, Same.l s2 h2, atI_nat (List.getElem?_eq_getElem hi), ?_⟩⟩
          refine ⟨_, _, _, rfl, p2.tup, Same.refl _, (h4 i x _ hx (List.getElem?_eq_getElem hi)).mono s2, fun H3 s3 n3 => ⟨_, rfl, ?_⟩⟩
          refine iteF ?_
          exact ⟨s2.trans s3, n3, s3 _ _ (same_new hT _ _ p3)⟩
        · obtain ⟨p1, p2, p3⟩ := p
          refine ⟨Nat.zero_le _, fun e he => ?_⟩
          refine ⟨.list [], .list [], .lst (SqL.of (same_new he _ _ p3)) .nil, .lst (SqL.of upd_same) .nil, (by decide), (by decide), ?_⟩
          exact fg_same nt (p1.trans (same_new he)) q
      | tup h1 h2 h3 h4 =>
        rename_i a b xs ys
        have d1 : (xs.length : Int) = ys.length := by rw [h3]
        refine ⟨_, rfl, _, _, rfl, Kn.tup h1, _, _, rfl, rfl, _, rfl, ?_⟩
        refine iteT ?_
        refine ⟨_, rfl, _, _, rfl, Kn.tup h1, _, _, rfl, rfl, _, rfl, ?_⟩
        refine iteT ?_
        refine ⟨_, rfl, a, xs, rfl, .inr h1, _, rfl, b, ys, rfl, .inr h2, rfl, _, rfl, ?_⟩
        refine iteNS (by rw [d1]) ?_
        refine ⟨_, rfl, a, xs, rfl, .inr ⟨h1, fun D hD => lc_enumT (fun _ H' => Same H H' ∧ NoT H' ∧ H' D = some (.lst [])) ⟨same_new hD, nt.lst, upd_same⟩ (fun i H' _ p => Same.t p.1 h1) (fun i x T H' hx hT p => ?_) (fun H' p => ?_)⟩⟩
        · obtain ⟨p1, p2, p3⟩ := p
          have hi : i < ys.length := by
            rw [← h3]
            exact (List.getElem?_eq_some_iff.mp hx).1
          have s2 : Same H (upd H' T (.tup [.int (i : Nat), x])) := p1.trans (same_new hT)
          refine ⟨T, _, rfl, SqT.of upd_same, rfl, _, _, rfl, _, _, rfl, rfl, rfl, ?_⟩
          refine ⟨_, rfl, _, rfl, _, rfl, .inr (.inl ⟨b, ys, _, _, rfl, rfl, Same.t s2 h2, atI_nat (List.getElem?_eq_getElem hi), ?_⟩)⟩
          refine ⟨_, _, _, rfl, p2.tup, Same.refl _, (h4 i x _ hx (List.getElem?_eq_getElem hi)).mono s2, fun H3 s3 n3 => ⟨_, rfl, ?_⟩⟩
          refine iteF ?_
          exact ⟨s2.trans s3, n3, s3 _ _ (same_new hT _ _ p3)⟩
        · obtain ⟨p1, p2, p3⟩ := p
          refine ⟨Nat.zero_le _, fun e he => ?_⟩
          refine ⟨.list [], .list [], .lst (SqL.of (same_new he _ _ p3)) .nil, .lst (SqL.of upd_same) .nil, (by decide), (by decide), ?_⟩
          exact fg_same nt (p1.trans (same_new he)) q
theorem d_law_same (A : All K mg) : Df P w K mg base CX0 "_law_same" 5 ["told", "due"] (sp_law_same K 3) := d_law_same_n A 3

/-- a thing that may be asked, not the deck -/
inductive Ck (K : PySem.W.Frag) (H : Hp) (dk : Addr) : V → Prop where
  | plain {x : V} (B : Int) (h : Fl B x) : Ck K H dk x
  | lst {a : Addr} {xs : List V} (h : SqL K H a xs) (hn : a ≠ dk) : Ck K H dk (.ref a)
  | tup {a : Addr} {xs : List V} (h : SqT K H a xs) (hi : xs.length = 4 → ∀ y ∈ xs, Fl 10000000000000000000000000000000 y) : Ck K H dk (.ref a)
theorem Ck.chk {K : PySem.W.Frag} {H : Hp} {dk : Addr} {x : V} (h : Ck K H dk x) : ∃ r, Chk K H x r := by
  cases h with
  | plain B h =>
    obtain ⟨n, hk, hn, _⟩ := h.kn (K := K) (H := H)
    exact ⟨_, .other hk hn⟩
  | lst h _ => exact ⟨_, .other (.lst h) (by decide)⟩
  | tup h hi => exact ⟨_, .tup h hi⟩
theorem Ck.same {K : PySem.W.Frag} {H H' : Hp} {dk : Addr} {x : V} (s : Same H H') (h : Ck K H dk x) : Ck K H' dk x := by
  cases h with
  | plain B h => exact .plain B h
  | lst h hn => exact .lst (Same.l s h) hn
  | tup h hi => exact .tup (Same.t s h) hi
theorem Ck.gr {K : PySem.W.Frag} {H H' : Hp} {dk : Addr} {x : V} (g : Gr dk H H') (h : Ck K H dk x) : Ck K H' dk x := by
  cases h with
  | plain B h => exact .plain B h
  | lst h hn => exact .lst (g.l hn h) hn
  | tup h hi => exact .tup (g.t h) hi
def sp_law_odd (K : PySem.W.Frag) : Sp := fun vs H Q _ => ∃ (d : Addr) (n : Nat), vs = [.ref d] ∧ Dk n H d ∧ n ≤ 1000000 ∧ ∀ v H', Ck K H' d v → Dk (n + 1) H' d → Gr d H H' → Q v H'
theorem d_law_odd (A : All K mg) : Df P w K mg base CX0 "_law_odd" 3 ["deck"] (sp_law_odd K) := by
  obtain ⟨f, fd, F, hm, hb⟩ := A.t_law_odd
  refine ⟨f, fd, F.ok sc_law_odd (fun vs H Q E h => ?_) (fun cdv A' outer s H vs Q E hr h => ?_), hm, F.kp, hb⟩
  · obtain ⟨d, n, rfl, _⟩ := h; rfl
  · obtain ⟨d, n, rfl, hD, hn, q⟩ := h
    refine ⟨_, (pss_cons (ps_set (i := 1) sc_law_odd.nd rfl (Or.inl rfl) (pe_lst (pa_cons pe_non (pa_cons pe_bl (pa_cons pe_str (pa_cons pe_str (pa_cons (pe_tup pa_nil) (pa_cons (pe_lst pa_nil) (pa_cons (pe_tup (pa_cons (pe_tup pa_nil) pa_nil)) (pa_cons pe_int (pa_cons (pe_un un_neg pe_int) (pa_cons (pe_op op_pow pe_int pe_int) (pa_cons (pe_tup (pa_cons pe_int (pa_cons pe_int pa_nil))) (pa_cons (pe_tup (pa_cons pe_int (pa_cons pe_int (pa_cons pe_int (pa_cons pe_int pa_nil))))) (pa_cons (pe_lst (pa_cons pe_int (pa_cons pe_int (pa_cons pe_int (pa_cons pe_int pa_nil))))) (pa_cons (pe_tup (pa_cons pe_int (pa_cons pe_int (pa_cons pe_int (pa_cons pe_int pa_nil))))) pa_nil))))))))))))))))
 (pss_one (ps_ret (pe_callD (d_law_one A) hr (by decide) (by rfl) pass0 (pa_cons (pv 0) (pa_cons (pv 1) pa_nil)))))), ?_⟩
    refine ⟨Nat.zero_le _, fun p1 h1 => ?_⟩
    refine ⟨Nat.zero_le _, fun p2 h2 => ?_⟩
    refine ⟨Nat.zero_le _, fun p3 h3 => ?_⟩
    refine ⟨by show 1 ≤ sizeLine; decide, fun p4 h4 => ?_⟩
    refine ⟨_, rfl, _, _, rfl, rfl, ⟨by decide, by decide, by decide⟩, by show 2 ≤ sizeLine; decide, fun p5 h5 => ?_⟩
    refine ⟨by show 4 ≤ sizeLine; decide, fun p6 h6 => ?_⟩
    refine ⟨by show 4 ≤ sizeLine; decide, fun p7 h7 => ?_⟩
    refine ⟨by show 4 ≤ sizeLine; decide, fun p8 h8 => ?_⟩
    refine ⟨by show 14 ≤ sizeLine; decide, fun p9 h9 => ?_⟩
    obtain ⟨zs, hz⟩ := hD.lst
    have G0 := Gr.refl hz
    have G1 := G0.new (o := .tup []) h1 rfl
    have G2 := G1.new (o := .lst []) h2 rfl
    have G3 := G2.new (o := .tup []) h3 rfl
    have G4 := G3.new (o := .tup [.ref p3]) h4 rfl
    have G5 := G4.new (o := .tup [.int 1, .int 2]) h5 rfl
    have G6 := G5.new (o := .tup [.int 7, .int 0, .int 1, .int 0]) h6 rfl
    have G7 := G6.new (o := .lst [.int 7, .int 0, .int 1, .int 0]) h7 rfl
    have G8 := G7.new (o := .tup [.int 365, .int 1, .int 4, .int 0]) h8 rfl
    have G9 := G8.new (o := .lst [.non, .bl true, .str "", .str "a", .ref p1, .ref p2, .ref p4, .int 7, .int (-1), .int (10 ^ (30 : Int).toNat), .ref p5, .ref p6, .ref p7, .ref p8]) h9 rfl
    have S9 := same_new (o := .lst [.non, .bl true, .str "", .str "a", .ref p1, .ref p2, .ref p4, .int 7, .int (-1), .int (10 ^ (30 : Int).toNat), .ref p5, .ref p6, .ref p7, .ref p8]) h9
    have S8 := (same_new (o := .tup [.int 365, .int 1, .int 4, .int 0]) h8).trans S9
    have S7 := (same_new (o := .lst [.int 7, .int 0, .int 1, .int 0]) h7).trans S8
    have S6 := (same_new (o := .tup [.int 7, .int 0, .int 1, .int 0]) h6).trans S7
    have S5 := (same_new (o := .tup [.int 1, .int 2]) h5).trans S6
    have S4 := (same_new (o := .tup [.ref p3]) h4).trans S5
    have S3 := (same_new (o := .tup []) h3).trans S4
    have S2 := (same_new (o := .lst []) h2).trans S3
    have S1 := (same_new (o := .tup []) h1).trans S2
    have D9 := hD.same S1 (G9.nt hD.nt)
    have e9 := upd_same (H := upd (upd (upd (upd (upd (upd (upd (upd H p1 (.tup [])) p2 (.lst [])) p3 (.tup [])) p4 (.tup [.ref p3])) p5 (.tup [.int 1, .int 2])) p6 (.tup [.int 7, .int 0, .int 1, .int 0])) p7 (.lst [.int 7, .int 0, .int 1, .int 0])) p8 (.tup [.int 365, .int 1, .int 4, .int 0])) (a := p9) (o := .lst [.non, .bl true, .str "", .str "a", .ref p1, .ref p2, .ref p4, .int 7, .int (-1), .int (10 ^ (30 : Int).toNat), .ref p5, .ref p6, .ref p7, .ref p8])
    have f1 := S2 _ _ (upd_same (H := H) (a := p1) (o := .tup []))
    have f2 := S3 _ _ (upd_same (a := p2) (o := .lst []))
    have f4 := S5 _ _ (upd_same (a := p4) (o := .tup [.ref p3]))
    have f5 := S6 _ _ (upd_same (a := p5) (o := .tup [.int 1, .int 2]))
    have f6 := S7 _ _ (upd_same (a := p6) (o := .tup [.int 7, .int 0, .int 1, .int 0]))
    have f7 := S8 _ _ (upd_same (a := p7) (o := .lst [.int 7, .int 0, .int 1, .int 0]))
    have f8 := S9 _ _ (upd_same (a := p8) (o := .tup [.int 365, .int 1, .int 4, .int 0]))
    have nd : ∀ {p : Addr} {H' : Hp}, H' p = none → Same H H' → p ≠ d := fun h s e => by
      subst e; rw [s _ _ hz] at h; cases h
    have n2 := nd h2 (same_new h1)
    have n7 := nd h7 ((same_new h1).trans ((same_new h2).trans ((same_new h3).trans ((same_new h4).trans ((same_new h5).trans (same_new h6))))))
    have n9 := nd h9 ((same_new h1).trans ((same_new h2).trans ((same_new h3).trans ((same_new h4).trans ((same_new h5).trans ((same_new h6).trans ((same_new h7).trans (same_new h8))))))))
    refine ⟨_, rfl, _, rfl, d, p9, n, _, rfl, D9, by omega, SqL.of e9, n9, by show 0 < 14; decide, by show 14 < 1000000; decide, fun i v H5 hv D5 g5 => ?_⟩
    have fin : Ck K H5 d v → Q v H5 := fun hk => q v H5 hk D5 (G9.trans g5)
    have allI : ∀ ns : List Int, (∀ n ∈ ns, -1000 ≤ n ∧ n ≤ 1000) → ∀ y ∈ ns.map V.int, Fl 10000000000000000000000000000000 y := fun ns h y hy => by
      obtain ⟨n, hn, rfl⟩ := List.mem_map.mp hy
      have := h n hn
      exact .int n ⟨by omega, by omega⟩
    match i, hv with
    | 0, hv => exact fin (by rw [← Option.some.inj hv]; exact .plain 0 .non)
    | 1, hv => exact fin (by rw [← Option.some.inj hv]; exact .plain 0 (.bl _))
    | 2, hv => exact fin (by rw [← Option.some.inj hv]; exact .plain 0 (.str _ (strOk_of _)))
    | 3, hv => exact fin (by rw [← Option.some.inj hv]; exact .plain 0 (.str _ (strOk_of _)))
    | 4, hv => exact fin (by rw [← Option.some.inj hv]; exact .tup (g5.t (SqT.of f1)) (fun z => absurd z (by decide)))
    | 5, hv => exact fin (by rw [← Option.some.inj hv]; exact .lst (g5.l n2 (SqL.of f2)) n2)
    | 6, hv => exact fin (by rw [← Option.some.inj hv]; exact .tup (g5.t (SqT.of f4)) (fun z => absurd z (by show ¬ (1 = 4); decide)))
    | 7, hv => exact fin (by rw [← Option.some.inj hv]; exact .plain 7 (.int _ (by decide)))
    | 8, hv => exact fin (by rw [← Option.some.inj hv]; exact .plain 7 (.int _ (by decide)))
    | 9, hv => exact fin (by rw [← Option.some.inj hv]; exact .plain 10000000000000000000000000000000 (.int _ (by decide)))
    | 10, hv => exact fin (by rw [← Option.some.inj hv]; exact .tup (g5.t (SqT.of f5)) (fun z => absurd z (by decide)))
    | 11, hv => exact fin (by rw [← Option.some.inj hv]; exact .tup (g5.t (SqT.of f6)) (fun _ => allI [7, 0, 1, 0] (by decide)))
    | 12, hv => exact fin (by rw [← Option.some.inj hv]; exact .lst (g5.l n7 (SqL.of f7)) n7)
    | 13, hv => exact fin (by rw [← Option.some.inj hv]; exact .tup (g5.t (SqT.of f8)) (fun _ => allI [365, 1, 4, 0] (by decide)))
    | i + 14, hv => simp at hv

/-- a plain thing, or a list or a tuple of such -/
def Th (K : PySem.W.Frag) (H : Hp) (dk : Addr) (B : Int) (m n : Nat) (x : V) : Prop := Fl B x ∨ ∃ a xs, x = .ref a ∧ (SqT K H a xs ∨ (SqL K H a xs ∧ a ≠ dk)) ∧ (∀ y ∈ xs, Fl B y) ∧ m ≤ xs.length ∧ xs.length ≤ n
theorem Th.gr {K : PySem.W.Frag} {H H' : Hp} {dk : Addr} {B : Int} {m n : Nat} {x : V} (g : Gr dk H H') (h : Th K H dk B m n x) : Th K H' dk B m n x := by
  rcases h with h | ⟨a, xs, e, h1, h2⟩
  · exact .inl h
  · refine .inr ⟨a, xs, e, ?_, h2⟩
    rcases h1 with h | ⟨h, hn⟩
    · exact .inl (g.t h)
    · exact .inr ⟨g.l hn h, hn⟩
theorem Th.same {K : PySem.W.Frag} {H H' : Hp} {dk : Addr} {B : Int} {m n : Nat} {x : V} (g : Same H H') (h : Th K H dk B m n x) : Th K H' dk B m n x := by
  rcases h with h | ⟨a, xs, e, h1, h2⟩
  · exact .inl h
  · refine .inr ⟨a, xs, e, ?_, h2⟩
    rcases h1 with h | ⟨h, hn⟩
    · exact .inl (Same.t g h)
    · exact .inr ⟨Same.l g h, hn⟩
theorem Th.chk {K : PySem.W.Frag} {H : Hp} {dk : Addr} {B : Int} {m n : Nat} {x : V} (h : Th K H dk B m n x) (hB : B ≤ 10000000000000000000000000000000) : ∃ r, Chk K H x r := by
  rcases h with h | ⟨a, xs, rfl, h1 | ⟨h1, _⟩, h2, _⟩
  · obtain ⟨n, hk, hn, _⟩ := h.kn (K := K) (H := H)
    exact ⟨_, .other hk hn⟩
  · exact ⟨_, .tup h1 fun _ y hy => (h2 y hy).up hB⟩
  · exact ⟨_, .other (.lst h1) (by decide)⟩
theorem kit_seq {K : PySem.W.Frag} {H : Hp} {x : V} {n : String} (h : Kn K H x n) : PySem.W.kitAny K (.type n) [.type "tuple", .type "list"] = some (kindIs n "tuple" || kindIs n "list") := by
  have h1 := h.kit (m := "tuple") (by decide)
  have h2 := h.kit (m := "list") (by decide)
  unfold PySem.W.kitAny
  rw [h1]
  cases kindIs n "tuple" with
  | true => rfl
  | false =>
    unfold PySem.W.kitAny
    show (match PySem.W.kitOne K (.type n) (.type "list") with | some true => some true | some false => _ | none => none) = _
    rw [h2]
    cases kindIs n "list" with
    | true => rfl
    | false => rfl
def sp_law_spoilt0 (K : PySem.W.Frag) : Sp := fun vs H Q _ => ∃ (dk : Addr) (n : Nat) (x : V) (B : Int), vs = [.ref dk, x] ∧ Dk n H dk ∧ n ≤ 1000000 ∧ Fl B x ∧ (60 ≤ B ∧ B ≤ 100000000) ∧ ∀ y H', Fl (B + 1) y → Dk (n + 1) H' dk → Gr dk H H' → Q y H'
theorem log_small {i : Int} {B : Int} (hB : B ≤ 1000000000) (h : -B ≤ i ∧ i ≤ B) : i.natAbs.log2 < 1920 := by
  by_cases z : i.natAbs = 0
  · rw [z]; decide
  · rw [Nat.log2_lt z]
    exact Nat.lt_of_le_of_lt (show i.natAbs ≤ 1000000000 by omega) (Nat.lt_of_lt_of_le (show 1000000000 < 2 ^ 30 by decide) (Nat.pow_le_pow_right (by decide) (by decide)))
theorem k_law_spoilt0 (A : All K mg) {f : Addr} {fd : FuncData} (F : Fun K "_law_spoilt" "_law_spoilt" s_law_spoilt f fd) : FnOk P w K mg base CX0 2 f fd ["deck", "thing"] (sp_law_spoilt0 K) := by
  refine F.ok sc_law_spoilt (fun vs H Q E h => ?_) (fun cdv A' outer s H vs Q E hr h => ?_)
  · obtain ⟨dk, n, x, B, rfl, _⟩ := h; rfl
  · obtain ⟨dk, n, x, B, rfl, hD, hn, hx, hB, q⟩ := h
    obtain ⟨nm, hk, hn1, hn2⟩ := hx.kn (K := K) (H := H)
    have kt : ∀ n : String, Kn K H x n → n ≠ "tuple" → n ≠ "list" → (kindIs n "tuple" || kindIs n "list") = false := fun n h e e2 => by cases h <;> first | rfl | exact absurd rfl e | exact absurd rfl e2
    obtain ⟨zs, hz⟩ := hD.lst
    refine ⟨_, (pss_cons (ps_if (PW.pt (pw_and (pt_val (pe_callB call_isiT (by rfl) A.b_isinstance (by decide +kernel) (pa_cons (pv 1) (pa_cons (pe_tup (pa_cons (pe_bltn (v := .ty "tuple") (by rfl) A.b_tuple (by decide +kernel) rfl) (pa_cons (pe_bltn (v := .ty "list") (by rfl) A.b_list (by decide +kernel) rfl) pa_nil))) pa_nil)))) (pw_and (pt_cmpR op_gt (pe_callB call_len_seq (by rfl) A.b_len (by decide +kernel) (pa_cons (pv 1) pa_nil)) pe_int (nomark _)) (pw_and1 (pt_cmpR op_gt (pe_callD (d_law_pick A) hr (by decide) (by rfl) pass0 (pa_cons (pv 0) (pa_cons pe_int pa_nil))) pe_int (nomark _))))))
 (pss_cons (ps_set (i := 2) sc_law_spoilt.nd rfl (Or.inl rfl) (pe_callTy call_list_of (by rfl) A.b_list (by decide +kernel) (pa_cons (pv 1) pa_nil)))
 (pss_cons (ps_set (i := 3) sc_law_spoilt.nd rfl (Or.inl rfl) (pe_callD (d_law_pick A) hr (by decide) (by rfl) pass0 (pa_cons (pv 0) (pa_cons (pe_callB call_len_seq (by rfl) A.b_len (by decide +kernel) (pa_cons (pv 2) pa_nil)) pa_nil))))
 (pss_cons ps_never
 (pss_one (ps_ret (pe_ifExp (pt_val (pe_callB call_isi (by rfl) A.b_isinstance (by decide +kernel) (pa_cons (pv 1) (pa_cons (pe_bltn (v := .ty "tuple") (by rfl) A.b_tuple (by decide +kernel) rfl) pa_nil)))) (pe_callTy call_tuple_of (by rfl) A.b_tuple (by decide +kernel) (pa_cons (pv 2) pa_nil)) (pv 2)))))))
 pss_nil)
 (pss_cons (ps_if (pt_val (pe_callB call_isiT (by rfl) A.b_isinstance (by decide +kernel) (pa_cons (pv 1) (pa_cons (pe_tup (pa_cons (pe_bltn (v := .ty "tuple") (by rfl) A.b_tuple (by decide +kernel) rfl) (pa_cons (pe_bltn (v := .ty "list") (by rfl) A.b_list (by decide +kernel) rfl) pa_nil))) pa_nil))))
 (pss_cons (ps_set (i := 4) sc_law_spoilt.nd rfl (Or.inl rfl) (pe_ifExp (pt_val (pe_callB call_isi (by rfl) A.b_isinstance (by decide +kernel) (pa_cons (pv 1) (pa_cons (pe_bltn (v := .ty "tuple") (by rfl) A.b_tuple (by decide +kernel) rfl) pa_nil)))) (pe_callTy call_list_of (by rfl) A.b_list (by decide +kernel) (pa_cons (pv 1) pa_nil)) (pe_callTy call_tuple_of (by rfl) A.b_tuple (by decide +kernel) (pa_cons (pv 1) pa_nil))))
 (pss_one (ps_ret (pe_ix ix_list (pe_lst (pa_cons (pv 4) (pa_cons (pe_op op_catA (pv 1) (pe_slice sl_LT (pv 1) po_none (po_some pe_int))) (pa_cons (pe_slice sl_LT (pv 1) (po_some pe_int) po_none) (pa_cons (pe_revA (pv 1)) (pa_cons pe_non pa_nil)))))) (pe_callD (d_law_pick A) hr (by decide) (by rfl) pass0 (pa_cons (pv 0) (pa_cons pe_int pa_nil))) (fun _ _ => rfl)))))
 pss_nil)
 (pss_cons (ps_if (pt_val (pe_callB call_isi (by rfl) A.b_isinstance (by decide +kernel) (pa_cons (pv 1) (pa_cons (pe_bltn (v := .ty "int") (by rfl) A.b_int (by decide +kernel) rfl) pa_nil))))
 (pss_one (ps_ret (pe_ix ix_list (pe_lst (pa_cons (pe_op op_addA (pv 1) pe_int) (pa_cons (pe_op op_subA (pv 1) pe_int) (pa_cons pe_bl (pa_cons pe_non (pa_cons pe_int (pa_cons pe_int (pa_cons (pe_callTy call_strA (by rfl) A.b_str (by decide +kernel) (pa_cons (pv 1) pa_nil)) pa_nil)))))))) (pe_callD (d_law_pick A) hr (by decide) (by rfl) pass0 (pa_cons (pv 0) (pa_cons pe_int pa_nil))) (fun _ _ => rfl))))
 pss_nil)
 (pss_one (ps_ret (pe_ix ix_list (pe_lst (pa_cons pe_non (pa_cons pe_int (pa_cons pe_str (pa_cons pe_str (pa_cons pe_str (pa_cons pe_str (pa_cons pe_str (pa_cons pe_str pa_nil))))))))) (pe_callD (d_law_pick A) hr (by decide) (by rfl) pass0 (pa_cons (pv 0) (pa_cons pe_int pa_nil))) (fun _ _ => rfl))))))), ?_⟩
    refine ⟨_, rfl, by show 2 ≤ sizeLine; decide, fun p1 h1 => ⟨_, p1, _, _, _, _, rfl, upd_same, .cons (.ty _) (.cons (.ty _) .nil), (hk.same (same_new h1)).ty, kit_seq hk, _, rfl, ?_⟩⟩
    rw [kt nm hk hn1 hn2]
    refine iteF ?_
    refine ⟨_, rfl, by show 2 ≤ sizeLine; decide, fun p2 h2 => ⟨_, p2, _, _, _, _, rfl, upd_same, .cons (.ty _) (.cons (.ty _) .nil), (hk.same ((same_new h1).trans (same_new h2))).ty, kit_seq hk, _, rfl, ?_⟩⟩
    rw [kt nm hk hn1 hn2]
    refine iteF ?_
    have S2 := (same_new (o := .tup [.ty "tuple", .ty "list"]) h1).trans (same_new (o := .tup [.ty "tuple", .ty "list"]) h2)
    have D2 := (hD.new (o := .tup [.ty "tuple", .ty "list"]) h1 rfl).new (o := .tup [.ty "tuple", .ty "list"]) h2 rfl
    have G2 := ((Gr.refl hz).new (o := .tup [.ty "tuple", .ty "list"]) h1 rfl).new (o := .tup [.ty "tuple", .ty "list"]) h2 rfl
    have hk2 := hk.same S2
    generalize upd (upd H p1 (.tup [.ty "tuple", .ty "list"])) p2 (.tup [.ty "tuple", .ty "list"]) = H2 at S2 D2 G2 hk2 ⊢
    have ends : ∀ (xs : List V) (σ : L2.St), xs.length < 20 → 0 < xs.length → (∀ y ∈ xs, Fl (B + 1) y) → σ[0]? = some (some (.ref dk)) → ∀ l, H2 l = none → tCons (tVar 0) (tCons (tC (.int (xs.length : Int))) tNil) σ (upd H2 l (.lst xs)) (fun vs H3 => sp_law_pick vs H3 (fun r H4 => rIxL K (.ref l) r H4 Q) (fun _ _ _ => False)) := fun xs σ hl h0 hf hσ l hl' => by
      have hld : l ≠ dk := fun e => by
        obtain ⟨_, hz⟩ := D2.lst
        rw [e, hz] at hl'; cases hl'
      refine ⟨_, hσ, dk, n, (xs.length : Int), rfl, D2.new hl' rfl, by omega, by omega, by omega, fun r H4 r0 r1 D4 g4 => ?_⟩
      obtain ⟨j, rfl⟩ : ∃ j : Nat, r = j := ⟨r.toNat, by omega⟩
      have hj : j < xs.length := by omega
      exact ⟨l, xs, _, _, rfl, rfl, g4.l hld (SqL.of upd_same), atI_nat (List.getElem?_eq_getElem hj), q _ _ (hf _ (List.getElem_mem hj)) D4 ((G2.new hl' rfl).trans g4)⟩
    cases hx with
    | int i h =>
      cases hk
      refine ⟨_, rfl, _, _, _, _, _, rfl, .ty _, hk2.ty, hk2.kit (by decide), _, rfl, iteT ?_⟩
      refine ⟨_, rfl, .inl ⟨_, _, rfl, rfl, ?_⟩⟩
      refine ⟨_, rfl, .inl ⟨_, _, rfl, rfl, ?_⟩⟩
      refine ⟨_, rfl, .inl ⟨_, rfl, log_small (by omega) h, ?_⟩⟩
      refine ⟨by show 7 ≤ sizeLine; decide, fun l hl => ?_⟩
      refine ends [.int (i + 1), .int (i - 1), .bl true, .non, .int 0, .int 60, .str (toString i)] _ (by show 7 < 20; decide) (by show 0 < 7; decide) (fun y hy => ?_) rfl l hl
      simp at hy
      rcases hy with rfl | rfl | rfl | rfl | rfl | rfl | rfl
      · exact .int _ ⟨by omega, by omega⟩
      · exact .int _ ⟨by omega, by omega⟩
      · exact .bl _
      · exact .non
      · exact .int _ ⟨by omega, by omega⟩
      · exact .int _ ⟨by omega, by omega⟩
      · exact .str _ (strOk_of _)
    | bl b =>
      cases hk
      refine ⟨_, rfl, _, _, _, _, _, rfl, .ty _, hk2.ty, hk2.kit (by decide), _, rfl, iteT ?_⟩
      refine ⟨_, rfl, .inr ⟨_, _, rfl, rfl, ?_⟩⟩
      refine ⟨_, rfl, .inr ⟨_, _, rfl, rfl, ?_⟩⟩
      refine ⟨_, rfl, .inr ⟨_, rfl, ?_⟩⟩
      refine ⟨by show 7 ≤ sizeLine; decide, fun l hl => ?_⟩
      refine ends [.int ((if b = true then (1 : Int) else 0) + 1), .int ((if b = true then (1 : Int) else 0) - 1), .bl true, .non, .int 0, .int 60, .str (if b then "True" else "False")] _ (by show 7 < 20; decide) (by show 0 < 7; decide) (fun y hy => ?_) rfl l hl
      simp at hy
      rcases hy with rfl | rfl | rfl | rfl | rfl | rfl | rfl
      · exact .int _ (by cases b <;> simp <;> omega)
      · exact .int _ (by cases b <;> simp <;> omega)
      · exact .bl _
      · exact .non
      · exact .int _ ⟨by omega, by omega⟩
      · exact .int _ ⟨by omega, by omega⟩
      · exact .str _ (by cases b <;> exact strOk_of _)
    | non =>
      cases hk
      refine ⟨_, rfl, _, _, _, _, _, rfl, .ty _, hk2.ty, hk2.kit (by decide), _, rfl, iteF ?_⟩
      refine ⟨by show 8 ≤ sizeLine; decide, fun l hl => ?_⟩
      refine ends [.non, .int 7, .str "n", .str "", .str "A", .str "abcdefghi", .str "a", .str "row"] _ (by decide) (by decide) (fun y hy => ?_) rfl l hl
      simp at hy
      rcases hy with rfl | rfl | rfl | rfl | rfl | rfl | rfl | rfl
      · exact .non
      · exact .int _ ⟨by omega, by omega⟩
      all_goals exact .str _ (strOk_of _)
    | str z hz' =>
      cases hk
      refine ⟨_, rfl, _, _, _, _, _, rfl, .ty _, hk2.ty, hk2.kit (by decide), _, rfl, iteF ?_⟩
      refine ⟨by show 8 ≤ sizeLine; decide, fun l hl => ?_⟩
      refine ends [.non, .int 7, .str "n", .str "", .str "A", .str "abcdefghi", .str "a", .str "row"] _ (by decide) (by decide) (fun y hy => ?_) rfl l hl
      simp at hy
      rcases hy with rfl | rfl | rfl | rfl | rfl | rfl | rfl | rfl
      · exact .non
      · exact .int _ ⟨by omega, by omega⟩
      all_goals exact .str _ (strOk_of _)

theorem d_law_spoilt0 (A : All K mg) : Df P w K mg base CX0 "_law_spoilt" 2 ["deck", "thing"] (sp_law_spoilt0 K) := by
  obtain ⟨f, fd, F, hm, hb⟩ := A.t_law_spoilt
  exact ⟨f, fd, k_law_spoilt0 A F, hm, F.kp, hb⟩
def sp_law_spoilt1 (K : PySem.W.Frag) : Sp := fun vs H Q _ => ∃ (dk : Addr) (n : Nat) (a : Addr) (xs : List V) (B : Int) (m k : Nat), vs = [.ref dk, .ref a] ∧ Dk n H dk ∧ n ≤ 900000 ∧ (SqT K H a xs ∨ (SqL K H a xs ∧ a ≠ dk)) ∧ (∀ y ∈ xs, Fl B y) ∧ m ≤ xs.length ∧ xs.length ≤ k ∧ (60 ≤ B ∧ B ≤ 100000000) ∧ 2 ≤ m ∧ k ≤ 1000 ∧ ∀ y H', Th K H' dk (B + 1) (m - 1) (k + 1) y → (∀ c, y = .ref c → H c = none) → Dk (n + 3) H' dk → Gr dk H H' → Q y H'
theorem k_law_spoilt1 (A : All K mg) {f : Addr} {fd : FuncData} (F : Fun K "_law_spoilt" "_law_spoilt" s_law_spoilt f fd) : FnOk P w K mg base CX0 3 f fd ["deck", "thing"] (sp_law_spoilt1 K) := by
  have ih := d_law_spoilt0 (P := P) (w := w) (base := base) A
  refine F.ok sc_law_spoilt (fun vs H Q E h => ?_) (fun cdv A' outer s H vs Q E hr h => ?_)
  · obtain ⟨dk, n, a, xs, B, m, k, rfl, _⟩ := h; rfl
  · obtain ⟨dk, n, a, xs, B, m, k, rfl, hD, hn, hq, hf, l0, l1, hB, hm2, hk, q⟩ := h
    refine ⟨_, (pss_cons (ps_if (PW.pt (pw_and (pt_val (pe_callB call_isiT (by rfl) A.b_isinstance (by decide +kernel) (pa_cons (pv 1) (pa_cons (pe_tup (pa_cons (pe_bltn (v := .ty "tuple") (by rfl) A.b_tuple (by decide +kernel) rfl) (pa_cons (pe_bltn (v := .ty "list") (by rfl) A.b_list (by decide +kernel) rfl) pa_nil))) pa_nil)))) (pw_and (pt_cmpR op_gt (pe_callB call_len_seq (by rfl) A.b_len (by decide +kernel) (pa_cons (pv 1) pa_nil)) pe_int (nomark _)) (pw_and1 (pt_cmpR op_gt (pe_callD (d_law_pick A) hr (by decide) (by rfl) pass0 (pa_cons (pv 0) (pa_cons pe_int pa_nil))) pe_int (nomark _))))))
 (pss_cons (ps_set (i := 2) sc_law_spoilt.nd rfl (Or.inl rfl) (pe_callTy call_list_of (by rfl) A.b_list (by decide +kernel) (pa_cons (pv 1) pa_nil)))
 (pss_cons (ps_set (i := 3) sc_law_spoilt.nd rfl (Or.inl rfl) (pe_callD (d_law_pick A) hr (by decide) (by rfl) pass0 (pa_cons (pv 0) (pa_cons (pe_callB call_len_seq (by rfl) A.b_len (by decide +kernel) (pa_cons (pv 2) pa_nil)) pa_nil))))
 (pss_cons (ps_asg (pe_callD (ih) hr (by decide) (by rfl) pass0 (pa_cons (pv 0) (pa_cons (pe_ix ix_list (pv 2) (pv 3) (fun _ _ => rfl)) pa_nil))) (pg_sub (pv 2) (pv 3) set_list))
 (pss_one (ps_ret (pe_ifExp (pt_val (pe_callB call_isi (by rfl) A.b_isinstance (by decide +kernel) (pa_cons (pv 1) (pa_cons (pe_bltn (v := .ty "tuple") (by rfl) A.b_tuple (by decide +kernel) rfl) pa_nil)))) (pe_callTy call_tuple_of (by rfl) A.b_tuple (by decide +kernel) (pa_cons (pv 2) pa_nil)) (pv 2)))))))
 pss_nil)
 (pss_cons (ps_if (pt_val (pe_callB call_isiT (by rfl) A.b_isinstance (by decide +kernel) (pa_cons (pv 1) (pa_cons (pe_tup (pa_cons (pe_bltn (v := .ty "tuple") (by rfl) A.b_tuple (by decide +kernel) rfl) (pa_cons (pe_bltn (v := .ty "list") (by rfl) A.b_list (by decide +kernel) rfl) pa_nil))) pa_nil))))
 (pss_cons (ps_set (i := 4) sc_law_spoilt.nd rfl (Or.inl rfl) (pe_ifExp (pt_val (pe_callB call_isi (by rfl) A.b_isinstance (by decide +kernel) (pa_cons (pv 1) (pa_cons (pe_bltn (v := .ty "tuple") (by rfl) A.b_tuple (by decide +kernel) rfl) pa_nil)))) (pe_callTy call_list_of (by rfl) A.b_list (by decide +kernel) (pa_cons (pv 1) pa_nil)) (pe_callTy call_tuple_of (by rfl) A.b_tuple (by decide +kernel) (pa_cons (pv 1) pa_nil))))
 (pss_one (ps_ret (pe_ix ix_list (pe_lst (pa_cons (pv 4) (pa_cons (pe_op op_catA (pv 1) (pe_slice sl_LT (pv 1) po_none (po_some pe_int))) (pa_cons (pe_slice sl_LT (pv 1) (po_some pe_int) po_none) (pa_cons (pe_revA (pv 1)) (pa_cons pe_non pa_nil)))))) (pe_callD (d_law_pick A) hr (by decide) (by rfl) pass0 (pa_cons (pv 0) (pa_cons pe_int pa_nil))) (fun _ _ => rfl)))))
 pss_nil)
 (pss_cons (ps_if (pt_val (pe_callB call_isi (by rfl) A.b_isinstance (by decide +kernel) (pa_cons (pv 1) (pa_cons (pe_bltn (v := .ty "int") (by rfl) A.b_int (by decide +kernel) rfl) pa_nil))))
 (pss_one (ps_ret (pe_ix ix_list (pe_lst (pa_cons (pe_op op_addA (pv 1) pe_int) (pa_cons (pe_op op_subA (pv 1) pe_int) (pa_cons pe_bl (pa_cons pe_non (pa_cons pe_int (pa_cons pe_int (pa_cons (pe_callTy call_strA (by rfl) A.b_str (by decide +kernel) (pa_cons (pv 1) pa_nil)) pa_nil)))))))) (pe_callD (d_law_pick A) hr (by decide) (by rfl) pass0 (pa_cons (pv 0) (pa_cons pe_int pa_nil))) (fun _ _ => rfl))))
 pss_nil)
 (pss_one (ps_ret (pe_ix ix_list (pe_lst (pa_cons pe_non (pa_cons pe_int (pa_cons pe_str (pa_cons pe_str (pa_cons pe_str (pa_cons pe_str (pa_cons pe_str (pa_cons pe_str pa_nil))))))))) (pe_callD (d_law_pick A) hr (by decide) (by rfl) pass0 (pa_cons (pv 0) (pa_cons pe_int pa_nil))) (fun _ _ => rfl))))))), ?_⟩
    obtain ⟨zs, hz⟩ := hD.lst
    have sqn : ∀ {H1 H2 : Hp}, Same H1 H2 → (SqT K H1 a xs ∨ (SqL K H1 a xs ∧ a ≠ dk)) → (SqT K H2 a xs ∨ (SqL K H2 a xs ∧ a ≠ dk)) := fun s h => by
      rcases h with h | ⟨h, e⟩
      · exact .inl (Same.t s h)
      · exact .inr ⟨Same.l s h, e⟩
    have sqg : ∀ {H1 H2 : Hp}, Gr dk H1 H2 → (SqT K H1 a xs ∨ (SqL K H1 a xs ∧ a ≠ dk)) → (SqT K H2 a xs ∨ (SqL K H2 a xs ∧ a ≠ dk)) := fun g h => by
      rcases h with h | ⟨h, e⟩
      · exact .inl (g.t h)
      · exact .inr ⟨g.l e h, e⟩
    have sq' : ∀ {H1 : Hp}, (SqT K H1 a xs ∨ (SqL K H1 a xs ∧ a ≠ dk)) → SqL K H1 a xs ∨ SqT K H1 a xs := fun h => by
      rcases h with h | ⟨h, _⟩
      · exact .inr h
      · exact .inl h
    have kn : ∀ {H1 : Hp}, (SqT K H1 a xs ∨ (SqL K H1 a xs ∧ a ≠ dk)) → ∃ nm, Kn K H1 (.ref a) nm ∧ (kindIs nm "tuple" || kindIs nm "list") = true := fun h => by
      rcases h with h | ⟨h, _⟩
      · exact ⟨_, .tup h, rfl⟩
      · exact ⟨_, .lst h, rfl⟩
    obtain ⟨nm, hk0, kb⟩ := kn hq
    refine sq_str (fun σ' H1 => σ' = [some (.ref dk), some (.ref a), none, none, none] ∧ Dk (n + 1) H1 dk ∧ Gr dk H H1) (fun N kk => ?_) ?_
    · refine ⟨_, rfl, by show 2 ≤ sizeLine; decide, fun p1 h1 => ⟨_, p1, _, _, _, _, rfl, upd_same, .cons (.ty _) (.cons (.ty _) .nil), (hk0.same (same_new h1)).ty, kit_seq hk0, _, rfl, ?_⟩⟩
      rw [kb]
      refine iteT ?_
      have D1 := hD.new (o := .tup [.ty "tuple", .ty "list"]) h1 rfl
      have G1 := (Gr.refl hz).new (o := .tup [.ty "tuple", .ty "list"]) h1 rfl
      have q1 := sqn (same_new (o := .tup [.ty "tuple", .ty "list"]) h1) hq
      generalize upd H p1 (.tup [.ty "tuple", .ty "list"]) = H1 at D1 G1 q1 ⊢
      refine ⟨_, rfl, a, xs, rfl, sq' q1, _, _, rfl, rfl, _, rfl, ite2 (fun _ => ?_) (fun c => absurd (decide_eq_true (by omega)) c)⟩
      refine ⟨_, rfl, dk, n, 5, rfl, D1, by omega, by decide, by decide, fun r H2 r0 r1 D2 g2 => ⟨_, _, rfl, rfl, _, rfl, ite2 (fun c => ?_) (fun c => kk _ _ ⟨rfl, D2, G1.trans g2⟩)⟩⟩
      have q2 := sqg g2 q1
      have G2 := G1.trans g2
      -- rows
      refine ⟨_, rfl, a, xs, rfl, sq' q2, fun l hl => ?_⟩
      have hld : l ≠ dk := fun e => by
        obtain ⟨_, hz⟩ := D2.lst
        rw [e, hz] at hl; cases hl
      have D3 := D2.new (o := .lst xs) hl rfl
      have G3 := G2.new (o := .lst xs) hl rfl
      have e3 : upd H2 l (.lst xs) l = some (.lst xs) := upd_same
      have S3 := same_new (o := .lst xs) hl
      generalize upd H2 l (.lst xs) = H3 at D3 G3 e3 S3 ⊢
      refine ⟨_, rfl, _, rfl, l, xs, rfl, .inl (SqL.of e3), dk, n + 1, (xs.length : Int), rfl, D3, by omega, by omega, by omega, fun at' H4 t0 t1 D4 g4 => ?_⟩
      obtain ⟨j, rfl⟩ : ∃ j : Nat, at' = j := ⟨at'.toNat, by omega⟩
      have hj : j < xs.length := by omega
      have e4 := g4.keep _ _ hld e3
      refine ⟨_, rfl, _, rfl, _, rfl, l, xs, _, _, rfl, rfl, SqL.of e4, atI_nat (List.getElem?_eq_getElem hj), dk, n + 2, _, B, rfl, D4, by omega, hf _ (List.getElem_mem hj), hB, fun y H5 hy D5 g5 => ?_⟩
      have e5 := g5.keep _ _ hld e4
      have ej : ixN xs.length (j : Int) = some j := Evl.ixN_nat hj
      refine ⟨_, rfl, _, rfl, l, xs, (j : Int), j, rfl, rfl, e5, ej, ?_⟩
      have fy : ∀ z ∈ xs.set j y, Fl (B + 1) z := fun z hz => by
        rcases List.mem_or_eq_of_mem_set hz with h | rfl
        · exact (hf z h).up (by omega)
        · exact hy
      have ln : (xs.set j y).length = xs.length := List.length_set
      have D6 : Dk (n + 3) (upd H5 l (.lst (xs.set j y))) dk := by
        obtain ⟨u1, u2, u3, u4, u5, u6⟩ := D5
        exact ⟨u1.lst, u2, u3, u4, by rw [upd_ne (Ne.symm hld)]; exact u5, by omega⟩
      have G5 := (G3.trans g4).trans g5
      have keep6 : ∀ c o, c ≠ dk → H2 c = some o → upd H5 l (.lst (xs.set j y)) c = some o := fun c o nc e => by
        rw [upd_ne (ne_of_none e hl)]
        exact g5.keep c o nc (g4.keep c o nc (S3 c o e))
      have G6 : Gr dk H (upd H5 l (.lst (xs.set j y))) := ⟨fun c o nc e => keep6 c o nc (G2.keep c o nc e), G5.lst, fun n => (G5.nt n).lst⟩
      have e6 : upd H5 l (.lst (xs.set j y)) l = some (.lst (xs.set j y)) := upd_same
      have q6 : SqT K (upd H5 l (.lst (xs.set j y))) a xs ∨ (SqL K (upd H5 l (.lst (xs.set j y))) a xs ∧ a ≠ dk) := by
        obtain ⟨_, hzd⟩ := D2.lst
        have nd : ∀ o, H2 a = some o → (∀ ys, o ≠ .lst ys) → a ≠ dk := fun o e ho z => by
          rw [z, hzd] at e
          exact ho _ (Option.some.inj e).symm
        rcases q2 with ((h | ⟨o, h⟩) | h) | ⟨(h | ⟨o, h⟩) | h, hn⟩
        · exact .inl (.inl (.inl (keep6 _ _ (nd _ h fun _ z => nomatch z) h)))
        · exact .inl (.inl (.inr ⟨o, keep6 _ _ (nd _ h fun _ z => nomatch z) h⟩))
        · exact .inl (.inr h)
        · exact .inr ⟨.inl (.inl (keep6 _ _ hn h)), hn⟩
        · exact .inr ⟨.inl (.inr ⟨o, keep6 _ _ hn h⟩), hn⟩
        · exact .inr ⟨.inr h, hn⟩
      generalize upd H5 l (.lst (xs.set j y)) = H6 at D6 G6 e6 q6 ⊢
      rcases q6 with h6 | ⟨h6, _⟩
      · have k6 : Kn K H6 (.ref a) "tuple" := .tup h6
        refine ⟨_, rfl, _, _, _, _, _, rfl, .ty _, k6.ty, k6.kit (by decide), _, rfl, iteT ?_⟩
        refine ⟨_, rfl, l, _, rfl, .inl ⟨SqL.of e6, fun p8 h8 => ?_⟩⟩
        exact q _ _ (.inr ⟨p8, _, rfl, .inl (SqT.of upd_same), fy, by omega, by omega⟩) (fun c e => by cases e; exact G6.free D6.lst.choose_spec h8) (D6.new h8 rfl) (G6.new h8 rfl)
      · have k6 : Kn K H6 (.ref a) "list" := .lst h6
        refine ⟨_, rfl, _, _, _, _, _, rfl, .ty _, k6.ty, k6.kit (by decide), _, rfl, iteF ?_⟩
        exact ⟨_, rfl, q _ _ (.inr ⟨l, _, rfl, .inr ⟨SqL.of e6, hld⟩, fy, by omega, by omega⟩) (fun c e => by cases e; exact G2.free D2.lst.choose_spec hl) D6 G6⟩
    rintro _ H1 ⟨rfl, D1, g1⟩
    have q1 := sqg g1 hq
    obtain ⟨nm1, hk1, kb1⟩ := kn q1
    refine ⟨_, rfl, by show 2 ≤ sizeLine; decide, fun p1 h1 => ⟨_, p1, _, _, _, _, rfl, upd_same, .cons (.ty _) (.cons (.ty _) .nil), (hk1.same (same_new h1)).ty, kit_seq hk1, _, rfl, ?_⟩⟩
    rw [kb1]
    refine iteT ?_
    have D2 := D1.new (o := .tup [.ty "tuple", .ty "list"]) h1 rfl
    have G2 := g1.new (o := .tup [.ty "tuple", .ty "list"]) h1 rfl
    have q2 := sqn (same_new (o := .tup [.ty "tuple", .ty "list"]) h1) q1
    generalize upd H1 p1 (.tup [.ty "tuple", .ty "list"]) = H2 at D2 G2 q2 ⊢
    have hne : xs ≠ [] := fun z => by rw [z] at l0; simp at l0; omega
    have up : ∀ y ∈ xs, Fl (B + 1) y := fun y hy => (hf y hy).up (by omega)
    have c1 : cutV xs none (some 1) = xs.take 1 := cutV_nat (k := 1)
    have c2 : cutV xs (some 1) none = xs.drop 1 := cutV_from (k := 1)
    have sz : xs.length + 1 ≤ sizeLine := Nat.le_of_lt (sz_small (by omega))
    have x1 : (xs.take 1).length = 1 := by rw [List.length_take]; omega
    -- the end: one of five things
    have ends : ∀ (ys : List V) (H3 : Hp) (σ : L2.St), Dk (n + 1) H3 dk → Gr dk H H3 → ys.length = 5 → (∀ y ∈ ys, Th K H3 dk (B + 1) (m - 1) (k + 1) y ∧ ∀ c, y = .ref c → H c = none) → σ[0]? = some (some (.ref dk)) → ∀ l, H3 l = none → tCons (tVar 0) (tCons (tC (.int 5)) tNil) σ (upd H3 l (.lst ys)) (fun vs H3 => sp_law_pick vs H3 (fun r H4 => rIxL K (.ref l) r H4 Q) (fun _ _ _ => False)) := fun ys H3 σ D3 G3 hl hf hσ l hl' => by
      have hld : l ≠ dk := fun e => by
        obtain ⟨_, hz⟩ := D3.lst
        rw [e, hz] at hl'; cases hl'
      refine ⟨_, hσ, dk, n + 1, 5, rfl, D3.new hl' rfl, by omega, by decide, by decide, fun r H4 r0 r1 D4 g4 => ?_⟩
      obtain ⟨j, rfl⟩ : ∃ j : Nat, r = j := ⟨r.toNat, by omega⟩
      have hj : j < ys.length := by omega
      exact ⟨l, ys, _, _, rfl, rfl, g4.l hld (SqL.of upd_same), atI_nat (List.getElem?_eq_getElem hj), q _ _ ((hf _ (List.getElem_mem hj)).1.same (same_new hl') |>.gr g4) (hf _ (List.getElem_mem hj)).2 (D4.mono (by omega)) ((G3.new hl' rfl).trans g4)⟩
    have dkn : ∀ {H' : Hp} {p : Addr}, Dk (n + 1) H' dk → H' p = none → p ≠ dk := fun D h e => by
      obtain ⟨_, hz⟩ := D.lst
      rw [e, hz] at h; cases h
    rcases q2 with h2 | ⟨h2, hnd⟩
    · have k2 : Kn K H2 (.ref a) "tuple" := .tup h2
      refine ⟨_, rfl, _, _, _, _, _, rfl, .ty _, k2.ty, k2.kit (by decide), _, rfl, iteT ⟨_, rfl, a, xs, rfl, .inr h2, fun o1 ho1 => ?_⟩⟩
      have S1 := same_new (o := .lst xs) ho1
      refine ⟨_, rfl, _, rfl, _, rfl, 1, rfl, .inr ⟨a, xs, rfl, Same.t S1 h2, by show ¬ ((0 : Nat) = 0 ∧ min 1 xs.length = xs.length); omega, fun o2 ho2 => ?_⟩⟩
      rw [c1]
      have S2 := S1.trans (same_new (o := .tup (xs.take 1)) ho2)
      refine .inr ⟨a, o2, xs, xs.take 1, rfl, rfl, Same.t S2 h2, SqT.of upd_same, hne, by rw [x1]; exact sz, fun z => absurd (congrArg List.length z) (by rw [x1]; decide), fun _ o3 ho3 => ?_⟩
      have S3 := S2.trans (same_new (o := .tup (xs ++ xs.take 1)) ho3)
      refine ⟨_, rfl, 1, rfl, .inr ⟨a, xs, rfl, Same.t S3 h2, by show ¬ (min 1 xs.length = 0 ∧ xs.length = xs.length); omega, fun o4 ho4 => ?_⟩⟩
      rw [c2]
      have S4 := S3.trans (same_new (o := .tup (xs.drop 1)) ho4)
      refine ⟨_, rfl, a, xs, rfl, .inr ⟨Same.t S4 h2, fun o5 ho5 => ?_⟩⟩
      have S5 := same_new (o := .tup xs.reverse) ho5
      have f4 := S5 _ _ (upd_same (a := o4) (o := .tup (xs.drop 1)))
      have f3 := ((same_new (o := .tup (xs.drop 1)) ho4).trans S5) _ _ (upd_same (a := o3) (o := .tup (xs ++ xs.take 1)))
      have f1 := ((same_new (o := .tup (xs.take 1)) ho2).trans ((same_new (o := .tup (xs ++ xs.take 1)) ho3).trans ((same_new (o := .tup (xs.drop 1)) ho4).trans S5))) _ _ (upd_same (H := H2) (a := o1) (o := .lst xs))
      have D5 := ((((D2.new (o := .lst xs) ho1 rfl).new (o := .tup (xs.take 1)) ho2 rfl).new (o := .tup (xs ++ xs.take 1)) ho3 rfl).new (o := .tup (xs.drop 1)) ho4 rfl).new (o := .tup xs.reverse) ho5 rfl
      have G5 := ((((G2.new (o := .lst xs) ho1 rfl).new (o := .tup (xs.take 1)) ho2 rfl).new (o := .tup (xs ++ xs.take 1)) ho3 rfl).new (o := .tup (xs.drop 1)) ho4 rfl).new (o := .tup xs.reverse) ho5 rfl
      have o1d := dkn D2 ho1
      have fr_o1 : H o1 = none := G2.free D2.lst.choose_spec ho1
      have E1 := D2.new (o := .lst xs) ho1 rfl
      have E2 := E1.new (o := .tup (xs.take 1)) ho2 rfl
      have E3 := E2.new (o := .tup (xs ++ xs.take 1)) ho3 rfl
      have E4 := E3.new (o := .tup (xs.drop 1)) ho4 rfl
      have X1 := G2.new (o := .lst xs) ho1 rfl
      have X2 := X1.new (o := .tup (xs.take 1)) ho2 rfl
      have X3 := X2.new (o := .tup (xs ++ xs.take 1)) ho3 rfl
      have X4 := X3.new (o := .tup (xs.drop 1)) ho4 rfl
      have fr_o3 : H o3 = none := X2.free E2.lst.choose_spec ho3
      have fr_o4 : H o4 = none := X3.free E3.lst.choose_spec ho4
      have fr_o5 : H o5 = none := X4.free E4.lst.choose_spec ho5
      refine ⟨by show 5 ≤ sizeLine; decide, fun l hl => ?_⟩
      refine ends [.ref o1, .ref o3, .ref o4, .ref o5, .non] _ _ D5 G5 rfl (fun y hy => ?_) rfl l hl
      simp at hy
      rcases hy with rfl | rfl | rfl | rfl | rfl
      · exact ⟨.inr ⟨o1, xs, rfl, .inr ⟨SqL.of f1, o1d⟩, up, by omega, by omega⟩, fun c e => by cases e; exact fr_o1⟩
      · exact ⟨.inr ⟨o3, _, rfl, .inl (SqT.of f3), fun y hy => up y (by rcases List.mem_append.mp hy with h | h; exact h; exact List.mem_of_mem_take h), by rw [List.length_append, x1]; omega, by rw [List.length_append, x1]; omega⟩, fun c e => by cases e; exact fr_o3⟩
      · exact ⟨.inr ⟨o4, _, rfl, .inl (SqT.of f4), fun y hy => up y (List.mem_of_mem_drop hy), by rw [List.length_drop]; omega, by rw [List.length_drop]; omega⟩, fun c e => by cases e; exact fr_o4⟩
      · exact ⟨.inr ⟨o5, _, rfl, .inl (SqT.of upd_same), fun y hy => up y (List.mem_reverse.mp hy), by rw [List.length_reverse]; omega, by rw [List.length_reverse]; omega⟩, fun c e => by cases e; exact fr_o5⟩
      · exact ⟨.inl .non, fun c e => nomatch e⟩
    · have k2 : Kn K H2 (.ref a) "list" := .lst h2
      refine ⟨_, rfl, _, _, _, _, _, rfl, .ty _, k2.ty, k2.kit (by decide), _, rfl, iteF ⟨_, rfl, a, xs, rfl, .inl ⟨h2, fun o1 ho1 => ?_⟩⟩⟩
      have S1 := same_new (o := .tup xs) ho1
      refine ⟨_, rfl, _, rfl, _, rfl, 1, rfl, .inl ⟨a, xs, rfl, Same.l S1 h2, fun o2 ho2 => ?_⟩⟩
      rw [c1]
      have S2 := S1.trans (same_new (o := .lst (xs.take 1)) ho2)
      refine .inl ⟨a, o2, xs, xs.take 1, rfl, rfl, Same.l S2 h2, SqL.of upd_same, by rw [x1]; exact sz, fun o3 ho3 => ?_⟩
      have S3 := S2.trans (same_new (o := .lst (xs ++ xs.take 1)) ho3)
      refine ⟨_, rfl, 1, rfl, .inl ⟨a, xs, rfl, Same.l S3 h2, fun o4 ho4 => ?_⟩⟩
      rw [c2]
      have S4 := S3.trans (same_new (o := .lst (xs.drop 1)) ho4)
      refine ⟨_, rfl, a, xs, rfl, .inl ⟨Same.l S4 h2, fun o5 ho5 => ?_⟩⟩
      have S5 := same_new (o := .lst xs.reverse) ho5
      have f4 := S5 _ _ (upd_same (a := o4) (o := .lst (xs.drop 1)))
      have f3 := ((same_new (o := .lst (xs.drop 1)) ho4).trans S5) _ _ (upd_same (a := o3) (o := .lst (xs ++ xs.take 1)))
      have f1 := ((same_new (o := .lst (xs.take 1)) ho2).trans ((same_new (o := .lst (xs ++ xs.take 1)) ho3).trans ((same_new (o := .lst (xs.drop 1)) ho4).trans S5))) _ _ (upd_same (H := H2) (a := o1) (o := .tup xs))
      have D3a := (D2.new (o := .tup xs) ho1 rfl).new (o := .lst (xs.take 1)) ho2 rfl
      have D3 := D3a.new (o := .lst (xs ++ xs.take 1)) ho3 rfl
      have D4 := D3.new (o := .lst (xs.drop 1)) ho4 rfl
      have D5 := D4.new (o := .lst xs.reverse) ho5 rfl
      have G5 := ((((G2.new (o := .tup xs) ho1 rfl).new (o := .lst (xs.take 1)) ho2 rfl).new (o := .lst (xs ++ xs.take 1)) ho3 rfl).new (o := .lst (xs.drop 1)) ho4 rfl).new (o := .lst xs.reverse) ho5 rfl
      have o3d := dkn D3a ho3
      have o4d := dkn D3 ho4
      have o5d := dkn D4 ho5
      have fr_o1 : H o1 = none := G2.free D2.lst.choose_spec ho1
      have X1 := G2.new (o := .tup xs) ho1 rfl
      have X2 := X1.new (o := .lst (xs.take 1)) ho2 rfl
      have X3 := X2.new (o := .lst (xs ++ xs.take 1)) ho3 rfl
      have X4 := X3.new (o := .lst (xs.drop 1)) ho4 rfl
      have fr_o3 : H o3 = none := X2.free D3a.lst.choose_spec ho3
      have fr_o4 : H o4 = none := X3.free D3.lst.choose_spec ho4
      have fr_o5 : H o5 = none := X4.free D4.lst.choose_spec ho5
      refine ⟨by show 5 ≤ sizeLine; decide, fun l hl => ?_⟩
      refine ends [.ref o1, .ref o3, .ref o4, .ref o5, .non] _ _ D5 G5 rfl (fun y hy => ?_) rfl l hl
      simp at hy
      rcases hy with rfl | rfl | rfl | rfl | rfl
      · exact ⟨.inr ⟨o1, xs, rfl, .inl (SqT.of f1), up, by omega, by omega⟩, fun c e => by cases e; exact fr_o1⟩
      · exact ⟨.inr ⟨o3, _, rfl, .inr ⟨SqL.of f3, o3d⟩, fun y hy => up y (by rcases List.mem_append.mp hy with h | h; exact h; exact List.mem_of_mem_take h), by rw [List.length_append, x1]; omega, by rw [List.length_append, x1]; omega⟩, fun c e => by cases e; exact fr_o3⟩
      · exact ⟨.inr ⟨o4, _, rfl, .inr ⟨SqL.of f4, o4d⟩, fun y hy => up y (List.mem_of_mem_drop hy), by rw [List.length_drop]; omega, by rw [List.length_drop]; omega⟩, fun c e => by cases e; exact fr_o4⟩
      · exact ⟨.inr ⟨o5, _, rfl, .inr ⟨SqL.of upd_same, o5d⟩, fun y hy => up y (List.mem_reverse.mp hy), by rw [List.length_reverse]; omega, by rw [List.length_reverse]; omega⟩, fun c e => by cases e; exact fr_o5⟩
      · exact ⟨.inl .non, fun c e => nomatch e⟩
theorem d_law_spoilt (A : All K mg) : Df P w K mg base CX0 "_law_spoilt" 3 ["deck", "thing"] (fun vs H Q E => sp_law_spoilt0 K vs H Q E ∨ sp_law_spoilt1 K vs H Q E) := by
  obtain ⟨f, fd, F, hm, hb⟩ := A.t_law_spoilt
  have F0 := (k_law_spoilt0 (P := P) (w := w) (base := base) A F).mono (show 2 ≤ 3 by decide)
  have F1 := k_law_spoilt1 (P := P) (w := w) (base := base) A F
  exact ⟨f, fd, ⟨fun vs H Q E h => h.elim (F0.len vs H Q E) (F1.len vs H Q E), fun A outer s H args us vs Q E hr he hb hv h => h.elim (F0.run A outer s H args us vs Q E hr he hb hv) (F1.run A outer s H args us vs Q E hr he hb hv)⟩, hm, F.kp, hb⟩
theorem spoilt_th {K : PySem.W.Frag} {H : Hp} {dk : Addr} {n : Nat} {B : Int} {m k : Nat} {x : V} {Q : VK} {E : XK} (hx : Th K H dk B m k x) (hD : Dk n H dk) (hn : n ≤ 900000) (hB : 60 ≤ B ∧ B ≤ 100000000) (hm : 2 ≤ m) (hk : k ≤ 1000)
    (q : ∀ y H', Th K H' dk (B + 1) (m - 1) (k + 1) y → (∀ c, y = .ref c → H c = none) → Dk (n + 3) H' dk → Gr dk H H' → Q y H') : sp_law_spoilt0 K [.ref dk, x] H Q E ∨ sp_law_spoilt1 K [.ref dk, x] H Q E := by
  rcases hx with h | ⟨a, xs, rfl, h1, h2, h3, h4⟩
  · exact .inl ⟨dk, n, x, B, rfl, hD, by omega, h, hB, fun y H' hy D g => q y H' (.inl hy) (fun c e => by subst e; cases hy) (D.mono (by omega)) g⟩
  · exact .inr ⟨dk, n, a, xs, B, m, k, rfl, hD, hn, h1, h2, h3, h4, hB, hm, hk, q⟩

def sp_law_land : Sp := fun vs H Q _ => ∃ (d : Addr) (n : Nat) (L B S : Int), vs = [.ref d, .int L, .int B, .int S] ∧ Dk n H d ∧ n ≤ 10000000 ∧ (1 ≤ L ∧ L ≤ 400) ∧ (1 ≤ B ∧ B ≤ 60) ∧ (0 ≤ S ∧ S ≤ 1000000) ∧
  ∀ p dd t b s H', (1 ≤ dd ∧ dd ≤ L) → (0 ≤ t ∧ t < b) → (1 ≤ b ∧ b ≤ B) → (-S ≤ s ∧ s ≤ S) → H p = none → H' p = some (.tup [.int dd, .int t, .int b, .int s]) → Dk (n + 4) H' d → Gr d H H' → Q (.ref p) H'
theorem d_law_land (A : All K mg) : Df P w K mg base CX0 "_law_land" 2 ["deck", "long_so", "bottoms", "shifts"] sp_law_land := by
  obtain ⟨f, fd, F, hm, hb⟩ := A.t_law_land
  refine ⟨f, fd, F.ok sc_law_land (fun vs H Q E h => ?_) (fun cdv A' outer s H vs Q E hr h => ?_), hm, F.kp, hb⟩
  · obtain ⟨d, n, L, B, S, rfl, _⟩ := h; rfl
  · obtain ⟨d, n, L, B, S, rfl, hD, hn, hL, hB, hS, q⟩ := h
    refine ⟨_, (pss_cons (ps_set (i := 4) sc_law_land.nd rfl (Or.inl rfl) (pe_op op_add pe_int (pe_callD (d_law_pick A) hr (by decide) (by rfl) pass0 (pa_cons (pv 0) (pa_cons (pv 2) pa_nil)))))
 (pss_cons (ps_set (i := 5) sc_law_land.nd rfl (Or.inl rfl) (pe_op op_sub (pe_callD (d_law_pick A) hr (by decide) (by rfl) pass0 (pa_cons (pv 0) (pa_cons (pe_op op_add (pe_op op_mul pe_int (pv 3)) pe_int) pa_nil))) (pv 3)))
 (pss_one (ps_ret (pe_tup (pa_cons (pe_op op_add pe_int (pe_callD (d_law_pick A) hr (by decide) (by rfl) pass0 (pa_cons (pv 0) (pa_cons (pv 1) pa_nil)))) (pa_cons (pe_callD (d_law_pick A) hr (by decide) (by rfl) pass0 (pa_cons (pv 0) (pa_cons (pv 4) pa_nil))) (pa_cons (pv 4) (pa_cons (pv 5) pa_nil))))))))), ?_⟩
    refine ⟨_, rfl, _, rfl, d, n, _, rfl, hD, by omega, by omega, by omega, fun r1 H1 a0 a1 D1 g1 => ?_⟩
    walk_at "g"
    refine ⟨d, n + 1, _, rfl, D1, by omega, by omega, by omega, fun r2 H2 b0 b1 D2 g2 => ?_⟩
    walk_at "g"
    refine ⟨d, n + 2, _, rfl, D2, by omega, by omega, by omega, fun r3 H3 c0 c1 D3 g3 => ?_⟩
    walk_at "g"
    refine ⟨d, n + 3, _, rfl, D3, by omega, by omega, by omega, fun r4 H4 e0 e1 D4 g4 => ?_⟩
    walk_at "g"
    refine ⟨by show 4 ≤ sizeLine; decide, fun p hp => ?_⟩
    have g := ((g1.trans g2).trans g3).trans g4
    obtain ⟨ys, hy⟩ := D4.lst
    exact q p _ _ _ _ _ ⟨by omega, by omega⟩ ⟨e0, e1⟩ ⟨by omega, by omega⟩ ⟨by omega, by omega⟩ (g.free hy hp) upd_same (D4.new hp rfl) (g.new hp rfl)

def sp_law_any : Sp := fun vs H Q _ => ∃ (d : Addr) (n : Nat), vs = [.ref d] ∧ Dk n H d ∧ n ≤ 1000000 ∧
  ∀ p dd t b s H', LandOk dd t b s → H p = none → H' p = some (.tup [.int dd, .int t, .int b, .int s]) → Dk (n + 5) H' d → Gr d H H' → Q (.ref p) H'
theorem d_law_any (A : All K mg) : Df P w K mg base CX0 "_law_any" 3 ["deck"] sp_law_any := by
  obtain ⟨f, fd, F, hm, hb⟩ := A.t_law_any
  refine ⟨f, fd, F.ok sc_law_any (fun vs H Q E h => ?_) (fun cdv A' outer s H vs Q E hr h => ?_), hm, F.kp, hb⟩
  · obtain ⟨d, n, rfl, _⟩ := h; rfl
  · obtain ⟨d, n, rfl, hD, hn, q⟩ := h
    refine ⟨_, (pss_cons (ps_asg (pe_callD (d_law_one A) hr (by decide) (by rfl) pass0 (pa_cons (pv 0) (pa_cons (pe_lst (pa_cons (pe_tup (pa_cons pe_int (pa_cons pe_int (pa_cons pe_int pa_nil)))) (pa_cons (pe_tup (pa_cons pe_int (pa_cons pe_int (pa_cons pe_int pa_nil)))) (pa_cons (pe_tup (pa_cons pe_int (pa_cons pe_int (pa_cons (pe_op op_pow pe_int pe_int) pa_nil)))) pa_nil)))) pa_nil))) (pg_tup (by rfl) (pgs_cons (pg_name (i := 1) sc_law_any.nd rfl (Or.inl rfl)) (pgs_cons (pg_name (i := 2) sc_law_any.nd rfl (Or.inl rfl)) (pgs_cons (pg_name (i := 3) sc_law_any.nd rfl (Or.inl rfl)) pgs_nil)))))
 (pss_one (ps_ret (pe_callD (d_law_land A) hr (by decide) (by rfl) pass0 (pa_cons (pv 0) (pa_cons (pv 1) (pa_cons (pv 2) (pa_cons (pv 3) pa_nil)))))))), ?_⟩
    refine ⟨_, rfl, ⟨by show 3 ≤ sizeLine; decide, fun p1 h1 => ?_⟩⟩
    have D1 := hD.new (o := .tup [.int 9, .int 5, .int 9]) h1 rfl
    refine ⟨by show 3 ≤ sizeLine; decide, fun p2 h2 => ?_⟩
    have D2 := D1.new (o := .tup [.int 30, .int 60, .int 99]) h2 rfl
    refine ⟨_, _, rfl, rfl, ⟨by decide, by decide, by decide⟩, ?_⟩
    refine ⟨by show 3 ≤ sizeLine; decide, fun p3 h3 => ?_⟩
    have D3 := D2.new (o := .tup [.int 400, .int 60, .int (10 ^ (6 : Int).toNat)]) h3 rfl
    refine ⟨by show 3 ≤ sizeLine; decide, fun l hl => ?_⟩
    have D4 := D3.new (o := .lst [.ref p1, .ref p2, .ref p3]) hl rfl
    obtain ⟨zs, hz⟩ := hD.lst
    have G4 : Gr d H (upd (upd (upd (upd H p1 (.tup [.int 9, .int 5, .int 9])) p2 (.tup [.int 30, .int 60, .int 99])) p3 (.tup [.int 400, .int 60, .int (10 ^ (6 : Int).toNat)])) l (.lst [.ref p1, .ref p2, .ref p3])) :=
      ((((Gr.refl hz).new h1 rfl).new h2 rfl).new h3 rfl).new hl rfl
    have t1 : upd (upd (upd (upd H p1 (.tup [.int 9, .int 5, .int 9])) p2 (.tup [.int 30, .int 60, .int 99])) p3 (.tup [.int 400, .int 60, .int (10 ^ (6 : Int).toNat)])) l (.lst [.ref p1, .ref p2, .ref p3]) p1 = some (.tup [.int 9, .int 5, .int 9]) :=
      same_new hl _ _ (same_new h3 _ _ (same_new h2 _ _ upd_same))
    have t2 : upd (upd (upd (upd H p1 (.tup [.int 9, .int 5, .int 9])) p2 (.tup [.int 30, .int 60, .int 99])) p3 (.tup [.int 400, .int 60, .int (10 ^ (6 : Int).toNat)])) l (.lst [.ref p1, .ref p2, .ref p3]) p2 = some (.tup [.int 30, .int 60, .int 99]) :=
      same_new hl _ _ (same_new h3 _ _ upd_same)
    have t3 : upd (upd (upd (upd H p1 (.tup [.int 9, .int 5, .int 9])) p2 (.tup [.int 30, .int 60, .int 99])) p3 (.tup [.int 400, .int 60, .int (10 ^ (6 : Int).toNat)])) l (.lst [.ref p1, .ref p2, .ref p3]) p3 = some (.tup [.int 400, .int 60, .int (10 ^ (6 : Int).toNat)]) :=
      same_new hl _ _ upd_same
    have tl : SqL K (upd (upd (upd (upd H p1 (.tup [.int 9, .int 5, .int 9])) p2 (.tup [.int 30, .int 60, .int 99])) p3 (.tup [.int 400, .int 60, .int (10 ^ (6 : Int).toNat)])) l (.lst [.ref p1, .ref p2, .ref p3])) l [.ref p1, .ref p2, .ref p3] := SqL.of upd_same
    generalize upd (upd (upd (upd H p1 (.tup [.int 9, .int 5, .int 9])) p2 (.tup [.int 30, .int 60, .int 99])) p3 (.tup [.int 400, .int 60, .int (10 ^ (6 : Int).toNat)])) l (.lst [.ref p1, .ref p2, .ref p3]) = H4 at D4 G4 t1 t2 t3 tl ⊢
    have hld : l ≠ d := fun e => by
      obtain ⟨_, x, y, z, hh, _⟩ := D3
      rw [e, hh] at hl
      cases hl
    refine ⟨d, l, n, _, rfl, D4, by omega, tl, hld, by show 0 < 3; decide, by show 3 < 1000000; decide, fun i v H5 hv D5 g5 => ?_⟩
    have fin : ∀ (p : Addr) (L B S : Int), SqT K H5 p [.int L, .int B, .int S] → (1 ≤ L ∧ L ≤ 400) → (1 ≤ B ∧ B ≤ 60) → (0 ≤ S ∧ S ≤ 1000000) →
        gTup K 3 (gCons (gName 1) (gCons (gName 2) (gCons (gName 3) gNil))) (.ref p) (start ["deck", "long_so", "bottoms", "shifts"] [.ref d]) H5 (tRet (tCall sp_law_land [] E0 (tCons (tVar 0) (tCons (tVar 1) (tCons (tVar 2) (tCons (tVar 3) tNil))))) { nx := fun _ H' => Q .non H', rt := Q }) := fun p L B S ht hL hB hS => by
      refine ⟨p, _, rfl, ht, rfl, _, _, rfl, _, _, rfl, _, _, rfl, rfl, ?_⟩
      refine ⟨_, rfl, _, rfl, _, rfl, _, rfl, d, n + 1, L, B, S, rfl, D5, by omega, hL, hB, hS, fun p' dd t b s H6 a1 a2 a3 a4 a5 a6 a7 a8 => ?_⟩
      obtain ⟨ys, hy⟩ := D5.lst
      exact q p' dd t b s H6 ⟨⟨by omega, by omega⟩, a2, ⟨by omega, by omega⟩, by omega, by omega⟩ ((G4.trans g5).free hy a5) a6 a7 ((G4.trans g5).trans a8)
    match i, hv with
    | 0, hv =>
      obtain rfl : V.ref p1 = v := Option.some.inj hv
      exact fin p1 9 5 9 (g5.t (SqT.of t1)) (by decide) (by decide) (by decide)
    | 1, hv =>
      obtain rfl : V.ref p2 = v := Option.some.inj hv
      exact fin p2 30 60 99 (g5.t (SqT.of t2)) (by decide) (by decide) (by decide)
    | 2, hv =>
      obtain rfl : V.ref p3 = v := Option.some.inj hv
      exact fin p3 400 60 (10 ^ (6 : Int).toNat) (g5.t (SqT.of t3)) (by decide) (by decide) (by decide)
    | i + 3, hv => simp at hv

def sp_law_is_land (K : PySem.W.Frag) : Sp := fun vs H Q _ => ∃ (x : V) (r : Bool), vs = [x] ∧ Chk K H x r ∧ NoT H ∧ Q (.bl r) H
theorem d_law_is_land (A : All K mg) : Df P w K mg base CX0 "_law_is_land" 2 ["thing"] (sp_law_is_land K) := by
  obtain ⟨f, fd, F, hm, hb⟩ := A.t_law_is_land
  refine ⟨f, fd, Fun.okF F sc_law_is_land (fun vs H Q E h => ?_) (fun cdv A' outer s H vs Q E hr h => ?_), hm, F.kp, hb⟩
  · obtain ⟨x, r, rfl, _⟩ := h; rfl
  · obtain ⟨x, r, rfl, hc, nt, q⟩ := h
    have p6 : (10 : Int) ^ (6 : Int).toNat = 1000000 := by decide
    refine ⟨_, (pss_cons (ps_if (PW.pt (pw_or (pt_not (pt_val (pe_callB call_isi (by rfl) A.b_isinstance (by decide +kernel) (pa_cons (pv 0) (pa_cons (pe_bltn (v := .ty "tuple") (by rfl) A.b_tuple (by decide +kernel) rfl) pa_nil))))) (pw_or (pt_cmpR op_ne (pe_callB call_len_seq (by rfl) A.b_len (by decide +kernel) (pa_cons (pv 0) pa_nil)) pe_int (nomark _)) (pw_or1 (pt_cmpR (op_neD hr.units) (pe_lc (own := [("one", 1)]) (g := gName 1) (by rfl) sc_law_is_land.nd (pi_tup (pv 0)) (blkOk_by (own := [("one", 1)]) (N := ["thing", "one"]) (sc := defScope s_law_is_land) (by decide +kernel)) (fun _ _ _ _ _ => (pg_name (i := 1) sc_law_is_land.nd rfl (Or.inl rfl))) (fun _ _ _ _ _ => (pts_one (pt_not (pt_val (pe_callD (d_law_whole A) hr (by decide) (by rfl) pass0 (pa_cons (pv 1) pa_nil)))))) (fun _ _ _ _ _ => (pv 1))) (pe_lst pa_nil) (nomark _))))))
 (pss_one (ps_ret pe_bl))
 pss_nil)
 (pss_cons (ps_if (PW.pt (pw_or (pt_not (pt_chain op_le op_le pe_int (pe_ix ix_tup (pv 0) pe_int (fun _ _ => rfl)) pe_int)) (pw_or1 (pt_not (pt_chain op_le op_le pe_int (pe_ix ix_tup (pv 0) pe_int (fun _ _ => rfl)) pe_int)))))
 (pss_one (ps_ret pe_bl))
 pss_nil)
 (pss_one (ps_ret (pe_and (pe_chain op_le op_lt pe_int (pe_ix ix_tup (pv 0) pe_int (fun _ _ => rfl)) (pe_ix ix_tup (pv 0) pe_int (fun _ _ => rfl))) (pe_one (pe_chain op_le op_le (pe_un un_neg (pe_op op_pow pe_int pe_int)) (pe_ix ix_tup (pv 0) pe_int (fun _ _ => rfl)) (pe_op op_pow pe_int pe_int)))))))), ?_⟩
    cases hc with
    | other hk hn =>
      refine ⟨_, rfl, _, _, _, _, _, rfl, .ty _, hk.ty, hk.kit (by decide), _, rfl, ?_⟩
      have : ∀ n : String, Kn K H x n → n ≠ "tuple" → kindIs n "tuple" = false := fun n h e => by cases h <;> first | rfl | exact absurd rfl e
      rw [this _ hk hn]
      exact iteT (fg_same nt (Same.refl _) q)
    | tup hl hi =>
      rename_i a xs
      have kt : Kn K H (.ref a) "tuple" := .tup hl
      refine ⟨_, rfl, _, _, _, _, _, rfl, .ty _, kt.ty, kt.kit (by decide), _, rfl, ?_⟩
      refine iteF ?_
      refine ⟨_, rfl, a, _, rfl, .inr hl, rfl, _, rfl, ?_⟩
      by_cases h4 : xs.length = 4
      · refine iteNS (by rw [h4]; rfl) ?_
        have hF := hi h4
        refine ⟨_, rfl, a, rfl, ⟨_, hl⟩, fun D hD => lc_tup (xs := xs) (fun i H' => H' = upd H D (.lst ((xs.take i).filter fun y => !isWhole y))) rfl (fun i H' _ p => by subst p; exact Same.t (same_new hD) hl) (fun i y H' hy p => ?_) (fun H' p => ?_)⟩
        · subst p
          obtain ⟨n, hk, _⟩ := (hF y (List.mem_of_getElem? hy)).kn (K := K) (H := upd H D (.lst ((xs.take i).filter fun y => !isWhole y)))
          have e : xs.take (i + 1) = xs.take i ++ [y] := by rw [List.take_succ, hy]; rfl
          refine ⟨rfl, _, rfl, _, _, rfl, hk, _, rfl, ?_⟩
          cases c : isWhole y with
          | true =>
            refine iteF ?_
            rw [e, List.filter_append]
            simp [c]
          | false =>
            refine iteT ⟨_, rfl, acc_put ?_ ?_⟩
            · refine sz_small (Nat.lt_of_le_of_lt (List.length_filter_le ..) ?_)
              rw [List.length_take]; omega
            · rw [e, List.filter_append]
              simp [c]
        · subst p
          rw [List.take_of_length_le (Nat.le_refl _)]
          refine ⟨Nat.zero_le _, fun e he => ?_⟩
          refine ne_nilF (B := 10000000000000000000000000000000) (SqL.of (same_new he _ _ upd_same)) (fun y hy => hF y (List.mem_filter.mp hy).1) (SqL.of upd_same) ⟨_, rfl, ?_⟩
          have S2 := (same_new (o := .lst (xs.filter fun y => !isWhole y)) hD).trans (same_new (o := .lst []) he)
          have hl2 := Same.t S2 hl
          generalize upd (upd H D (.lst (xs.filter fun y => !isWhole y))) e (.lst []) = H2 at S2 hl2 ⊢
          match xs, h4, hl2, hF, q with
          | [x0, x1, x2, x3], _, hl2, hF, q =>
            have no : (¬ ∃ d t b s, x0 = .int d ∧ x1 = .int t ∧ x2 = .int b ∧ x3 = .int s ∧ LandOk d t b s) → fgQ H Q (.bl false) H2 := fun h => by
              rw [false_of_iff landL_ok h] at q; exact fg_same nt S2 q
            by_cases hw : ∀ y ∈ [x0, x1, x2, x3], isWhole y = true
            · have ef : ([x0, x1, x2, x3].filter fun y => !isWhole y) = [] := by
                rw [List.filter_eq_nil_iff]
                intro y hy
                rw [hw y hy]; decide
              rw [ef, decide_eq_true rfl]
              refine iteF ?_
              have wh : ∀ y : V, isWhole y = true → ∃ i, y = .int i := fun y h => by
                cases y with
                | int i => exact ⟨i, rfl⟩
                | _ => exact absurd (show false = true from h) (by decide)
              obtain ⟨d, rfl⟩ := wh x0 (hw x0 (by simp))
              obtain ⟨t, rfl⟩ := wh x1 (hw x1 (by simp))
              obtain ⟨b, rfl⟩ := wh x2 (hw x2 (by simp))
              obtain ⟨s, rfl⟩ := wh x3 (hw x3 (by simp))
              have no' : ¬ LandOk d t b s → fgQ H Q (.bl false) H2 := fun h => no fun ⟨d', t', b', s', e0, e1, e2, e3, hk⟩ => by cases e0; cases e1; cases e2; cases e3; exact h hk
              have bd : ∀ (p : Prop) [Decidable p], ¬ (decide p = true) → ¬ p := fun p _ h z => h (decide_eq_true z)
              have bn : ∀ (p : Prop) [Decidable p], (!decide p) = true → ¬ p := fun p _ h z => by rw [decide_eq_true z] at h; exact absurd h (by decide)
              have by' : ∀ (p : Prop) [Decidable p], ¬ ((!decide p) = true) → p := fun p _ h => Classical.byContradiction fun z => h (by rw [decide_eq_false z]; rfl)
              have fin : ∀ r : Bool, (r = true ↔ LandOk d t b s) → fgQ H Q (.bl r) H2 := fun r h => by
                have e : landL [.int d, .int t, .int b, .int s] = r := by
                  rw [Bool.eq_iff_iff, h]
                  exact decide_eq_true_iff
                rw [e] at q
                exact fg_same nt S2 q
              refine ⟨_, rfl, _, _, _, _, rfl, rfl, hl2, (by rfl), _, _, rfl, rfl, _, rfl, ite2 (fun c0 => ?_) (fun c0 => ⟨_, rfl, iteT (no' fun hk => bd _ c0 hk.d.1)⟩)⟩
              refine ⟨_, _, rfl, rfl, _, rfl, ite2 (fun c1 => no' fun hk => bn _ c1 hk.d.2) (fun c1 => ?_)⟩
              refine ⟨_, rfl, _, _, _, _, rfl, rfl, hl2, (by rfl), _, _, rfl, rfl, _, rfl, ite2 (fun c2 => ?_) (fun c2 => ⟨_, rfl, iteT (no' fun hk => bd _ c2 hk.b.1)⟩)⟩
              refine ⟨_, _, rfl, rfl, _, rfl, ite2 (fun c3 => no' fun hk => bn _ c3 hk.b.2) (fun c3 => ?_)⟩
              have d0 : 1 ≤ d := of_decide_eq_true c0
              have d1 : d ≤ 400 := by' _ c1
              have b0 : 1 ≤ b := of_decide_eq_true c2
              have b1 : b ≤ 60 := by' _ c3
              refine ⟨_, rfl, _, _, _, _, rfl, rfl, hl2, (by rfl), _, _, rfl, rfl, _, rfl, ite2 (fun c4 => ?_) (fun c4 => ⟨_, rfl, iteF (no' fun hk => bd _ c4 hk.t.1)⟩)⟩
              refine ⟨_, rfl, _, _, _, _, rfl, rfl, hl2, (by rfl), _, _, rfl, rfl, _, rfl, ite2 (fun c5 => ?_) (fun c5 => no' fun hk => bd _ c5 hk.t.2)⟩
              refine ⟨_, _, rfl, rfl, ⟨by decide, by decide, by decide⟩, _, rfl, _, rfl, _, _, _, _, rfl, rfl, hl2, (by rfl), _, _, rfl, rfl, _, rfl, ite2 (fun c6 => ?_) (fun c6 => no' fun hk => bd _ c6 (by rw [p6]; exact hk.s.1))⟩
              refine ⟨_, _, rfl, rfl, ⟨by decide, by decide, by decide⟩, _, _, rfl, rfl, fin _ ?_⟩
              rw [decide_eq_true_iff, p6]
              have t0 : 0 ≤ t := of_decide_eq_true c4
              have t1 : t < b := of_decide_eq_true c5
              have s0 : -(10 : Int) ^ (6 : Int).toNat ≤ s := of_decide_eq_true c6
              rw [p6] at s0
              exact ⟨fun h => ⟨⟨d0, d1⟩, ⟨t0, t1⟩, ⟨b0, b1⟩, s0, h⟩, fun h => h.s.2⟩
            · have ef : ([x0, x1, x2, x3].filter fun y => !isWhole y) ≠ [] := fun z => hw fun y hy => by
                have := List.filter_eq_nil_iff.mp z y hy
                cases c : isWhole y with
                | true => rfl
                | false => rw [c] at this; exact absurd rfl this
              rw [decide_eq_false ef]
              refine iteT (no ?_)
              rintro ⟨d, t, b, s, rfl, rfl, rfl, rfl, _⟩
              exact hw fun y hy => by
                simp at hy
                rcases hy with rfl | rfl | rfl | rfl <;> rfl
      · rw [decide_eq_false (fun z => h4 (by have := V.int.inj z; omega))]
        refine iteT ?_
        rw [landL_len h4] at q
        exact fg_same nt (Same.refl _) q

theorem Th.ck {K : PySem.W.Frag} {H : Hp} {dk : Addr} {B : Int} {m n : Nat} {x : V} (h : Th K H dk B m n x) (hB : B ≤ 10000000000000000000000000000000) : Ck K H dk x := by
  rcases h with h | ⟨a, xs, rfl, h1 | ⟨h1, h3⟩, h2, _⟩
  · exact .plain B h
  · exact .tup h1 fun _ y hy => (h2 y hy).up hB
  · exact .lst h1 h3
theorem Ck.put {K : PySem.W.Frag} {H : Hp} {dk D : Addr} {o : HO} {x : V} (h : Ck K H dk x) (hn : x ≠ .ref D) : Ck K (upd H D o) dk x := by
  have k : ∀ a u, (.ref a : V) ≠ .ref D → H a = some u → upd H D o a = some u := fun a u n e => by rw [upd_ne (fun z => n (by rw [z]))]; exact e
  cases h with
  | plain B h => exact .plain B h
  | lst h hd =>
    rcases h with (h | ⟨ob, h⟩) | h
    · exact .lst (.inl (.inl (k _ _ hn h))) hd
    · exact .lst (.inl (.inr ⟨ob, k _ _ hn h⟩)) hd
    · exact .lst (.inr h) hd
  | tup h hi =>
    rcases h with (h | ⟨ob, h⟩) | h
    · exact .tup (.inl (.inl (k _ _ hn h))) hi
    · exact .tup (.inl (.inr ⟨ob, k _ _ hn h⟩)) hi
    · exact .tup (.inr h) hi
/-- a tuple that may be asked -/
def Wt (K : PySem.W.Frag) (H : Hp) (y : V) : Prop := ∃ a xs, y = .ref a ∧ SqT K H a xs ∧ (xs.length = 4 → ∀ z ∈ xs, Fl 10000000000000000000000000000000 z)
theorem Wt.same {K : PySem.W.Frag} {H H' : Hp} {y : V} (s : Same H H') (h : Wt K H y) : Wt K H' y := by
  obtain ⟨a, xs, e, h1, h2⟩ := h
  exact ⟨a, xs, e, Same.t s h1, h2⟩
theorem Wt.gr {K : PySem.W.Frag} {H H' : Hp} {dk : Addr} {y : V} (s : Gr dk H H') (h : Wt K H y) : Wt K H' y := by
  obtain ⟨a, xs, e, h1, h2⟩ := h
  exact ⟨a, xs, e, s.t h1, h2⟩
theorem Wt.ck {K : PySem.W.Frag} {H : Hp} {dk : Addr} {y : V} (h : Wt K H y) : Ck K H dk y := by
  obtain ⟨a, xs, rfl, h1, h2⟩ := h
  exact .tup h1 h2
theorem allInts {ns : List Int} (h : ∀ n ∈ ns, -10000000 ≤ n ∧ n ≤ 10000000) : ∀ y ∈ ns.map V.int, Fl 10000000000000000000000000000000 y := fun y hy => by
  obtain ⟨n, hn, rfl⟩ := List.mem_map.mp hy
  have := h n hn
  exact .int n ⟨by omega, by omega⟩
def sp_law (K : PySem.W.Frag) : Sp := fun vs H Q _ => ∃ (a : Addr) (ns : List Int), vs = [.ref a] ∧ SqL K H a (ns.map V.int) ∧ ns.length ≤ 63 ∧ NoT H ∧ ∀ H', Q (.bl true) H'
theorem ok_law (A : All K mg) {f : Addr} {fd : FuncData} (F : Fun K "law" "law" s_law f fd) : FnOk P w K mg base CX0 6 f fd ["script"] (sp_law K) := by
  refine F.ok sc_law (fun vs H Q E h => ?_) (fun cdv A' outer s H vs Q E hr h => ?_)
  · obtain ⟨a, ns, rfl, _⟩ := h; rfl
  · obtain ⟨a, ns, rfl, hS, hlen, nt, q⟩ := h
    refine ⟨_, (pss_cons (ps_set (i := 1) sc_law.nd rfl (Or.inl rfl) (pe_lst (pa_cons (pe_tup (pa_cons pe_int (pa_cons pe_int (pa_cons pe_int (pa_cons (pe_op op_pow pe_int pe_int) pa_nil))))) (pa_cons (pe_tup (pa_cons pe_int (pa_cons pe_int (pa_cons pe_int (pa_cons pe_int pa_nil))))) (pa_cons (pe_tup (pa_cons pe_int (pa_cons pe_int (pa_cons pe_int (pa_cons pe_int pa_nil))))) (pa_cons (pe_tup (pa_cons pe_int (pa_cons pe_int (pa_cons pe_int (pa_cons pe_int pa_nil))))) (pa_cons (pe_tup (pa_cons pe_int (pa_cons pe_int (pa_cons pe_int (pa_cons pe_int pa_nil))))) (pa_cons (pe_tup (pa_cons pe_int (pa_cons pe_int (pa_cons pe_int (pa_cons pe_int pa_nil))))) pa_nil))))))))
 (pss_cons (ps_set (i := 1) sc_law.nd rfl (Or.inl rfl) (pe_op op_catS (pv 1) (pe_lst (pa_cons (pe_tup (pa_cons pe_int (pa_cons pe_int (pa_cons pe_int (pa_cons (pe_un un_neg (pe_op op_pow pe_int pe_int)) pa_nil))))) (pa_cons (pe_tup (pa_cons pe_int (pa_cons pe_int (pa_cons pe_int (pa_cons (pe_op op_sub (pe_un un_neg (pe_op op_pow pe_int pe_int)) pe_int) pa_nil))))) (pa_cons (pe_tup (pa_cons pe_int (pa_cons pe_int (pa_cons pe_int (pa_cons (pe_op op_add (pe_op op_pow pe_int pe_int) pe_int) pa_nil))))) (pa_cons (pe_tup pa_nil) pa_nil)))))))
 (pss_cons (ps_set (i := 1) sc_law.nd rfl (Or.inl rfl) (pe_op op_catS (pv 1) (pe_lst (pa_cons (pe_tup (pa_cons pe_int (pa_cons (pe_un un_neg pe_int) (pa_cons pe_int (pa_cons pe_int pa_nil))))) (pa_cons (pe_tup (pa_cons pe_bl (pa_cons pe_int (pa_cons pe_int (pa_cons pe_int pa_nil))))) pa_nil)))))
 (pss_cons (ps_for PassesOwn.never (by rfl) (pi_list (pe_slice sl_list (pe_op op_catS (pe_lst (pa_cons pe_int pa_nil)) (pv 0)) po_none (po_some pe_int))) (pg_name (i := 2) sc_law.nd rfl (Or.inl rfl))
 (pss_cons (ps_set (i := 3) sc_law.nd rfl (Or.inr rfl) (pe_callD (d_law_deck A) hr (by decide) (by rfl) pass0 (pa_cons (pv 2) (pa_cons pe_int pa_nil))))
 (pss_cons (ps_set (i := 4) sc_law.nd rfl (Or.inr rfl) (pe_callD (d_law_any A) hr (by decide) (by rfl) pass0 (pa_cons (pv 3) pa_nil)))
 (pss_cons (ps_set (i := 5) sc_law.nd rfl (Or.inl rfl) (pe_callD (d_law_spoilt A) hr (by decide) (by rfl) pass0 (pa_cons (pv 3) (pa_cons (pv 4) pa_nil))))
 (pss_cons (ps_set (i := 6) sc_law.nd rfl (Or.inl rfl) (pe_lst (pa_cons (pv 4) (pa_cons (pv 5) (pa_cons (pe_callD (d_law_spoilt A) hr (by decide) (by rfl) pass0 (pa_cons (pv 3) (pa_cons (pv 5) pa_nil))) (pa_cons (pe_revA (pv 4)) (pa_cons (pe_callTy call_list_of (by rfl) A.b_list (by decide +kernel) (pa_cons (pv 4) pa_nil)) (pa_cons (pe_slice sl_tup (pv 4) po_none (po_some pe_int)) (pa_cons (pe_op op_catT (pv 4) (pe_tup (pa_cons pe_int pa_nil))) (pa_cons pe_non pa_nil))))))))))
 (pss_one (ps_for PassesOwn.never (by rfl) (pi_list (pe_op op_catS (pe_op op_catS (pe_op op_catS (pv 6) (pe_lc (own := [("k", 8)]) (g := gName 8) (tt := tYes) (by rfl) sc_law.nd (pi_rgW1 (by rfl) A.b_range (pa_cons pe_int pa_nil)) (blkOk_by (own := [("k", 8)]) (N := ["script", "written", "cell", "deck", "land", "bent", "some", "thing", "k"]) (sc := defScope s_law) (by decide +kernel)) (fun _ _ _ _ _ => (pg_name (i := 8) sc_law.nd rfl (Or.inl rfl))) (fun _ _ _ _ _ => pts_nil) (fun _ _ _ _ _ => (pe_callD (d_law_spoilt A) hr (by decide) (by rfl) pass0 (pa_cons (pv 3) (pa_cons (pv 4) pa_nil)))))) (pv 1)) (pe_lst (pa_cons (pe_callD (d_law_odd A) hr (by decide) (by rfl) pass0 (pa_cons (pv 3) pa_nil)) pa_nil)))) (pg_name (i := 7) sc_law.nd rfl (Or.inl rfl))
 (pss_one (ps_if (pt_not (pt_val (pe_callD (d_law_same A) hr (by decide) (by rfl) pass0 (pa_cons (pe_callD (d_is_land A) hr (by decide) (by rfl) pass0 (pa_cons (pv 7) pa_nil)) (pa_cons (pe_callD (d_law_is_land A) hr (by decide) (by rfl) pass0 (pa_cons (pv 7) pa_nil)) pa_nil)))))
 (pss_one (ps_ret pe_bl))
 pss_nil)))))))))
 (pss_one (ps_ret pe_bl)))))), ?_⟩
    have p6 : (10 : Int) ^ (6 : Int).toNat = 1000000 := by decide
    have ck : ∀ {H' : Hp} {p : Addr} {ns : List Int}, H' p = some (.tup (ns.map V.int)) → (∀ n ∈ ns, -10000000 ≤ n ∧ n ≤ 10000000) → Wt K H' (.ref p) := fun h hn => ⟨_, _, rfl, SqT.of h, fun _ => allInts hn⟩
    -- written
    refine sq_set (fun v H1 => ∃ (l : Addr) (ws : List V), v = .ref l ∧ H1 l = some (.lst ws) ∧ ws.length ≤ 6 ∧ (∀ y ∈ ws, Wt K H1 y) ∧ Same H H1 ∧ NoT H1) (fun Q' k => ?_) ?_
    · refine ⟨_, _, rfl, rfl, ⟨by decide, by decide, by decide⟩, by show 4 ≤ sizeLine; decide, fun u1 h1 => ?_⟩
      refine ⟨by show 4 ≤ sizeLine; decide, fun u2 h2 => ?_⟩
      refine ⟨by show 4 ≤ sizeLine; decide, fun u3 h3 => ?_⟩
      refine ⟨by show 4 ≤ sizeLine; decide, fun u4 h4 => ?_⟩
      refine ⟨by show 4 ≤ sizeLine; decide, fun u5 h5 => ?_⟩
      refine ⟨by show 4 ≤ sizeLine; decide, fun u6 h6 => ?_⟩
      refine ⟨by show 6 ≤ sizeLine; decide, fun l hl => ?_⟩
      have T7 := same_new (o := .lst [.ref u1, .ref u2, .ref u3, .ref u4, .ref u5, .ref u6]) hl
      have T6 := (same_new (o := .tup [.int 1, .int 0, .int 61, .int 0]) h6).trans T7
      have T5 := (same_new (o := .tup [.int 1, .int 0, .int 0, .int 0]) h5).trans T6
      have T4 := (same_new (o := .tup [.int 1, .int 1, .int 1, .int 0]) h4).trans T5
      have T3 := (same_new (o := .tup [.int 0, .int 0, .int 1, .int 0]) h3).trans T4
      have T2 := (same_new (o := .tup [.int 401, .int 0, .int 1, .int 0]) h2).trans T3
      have T1 := (same_new (o := .tup [.int 400, .int 59, .int 60, .int (10 ^ (6 : Int).toNat)]) h1).trans T2
      refine k _ _ ⟨l, _, rfl, upd_same, by show 6 ≤ 6; decide, fun y hy => ?_, T1, (((((nt.tup.tup).tup).tup).tup).tup).lst⟩
      simp at hy
      rcases hy with rfl | rfl | rfl | rfl | rfl | rfl
      · exact ck (ns := [400, 59, 60, 10 ^ (6 : Int).toNat]) (T2 _ _ upd_same) (by decide)
      · exact ck (ns := [401, 0, 1, 0]) (T3 _ _ upd_same) (by decide)
      · exact ck (ns := [0, 0, 1, 0]) (T4 _ _ upd_same) (by decide)
      · exact ck (ns := [1, 1, 1, 0]) (T5 _ _ upd_same) (by decide)
      · exact ck (ns := [1, 0, 0, 0]) (T6 _ _ upd_same) (by decide)
      · exact ck (ns := [1, 0, 61, 0]) (T7 _ _ upd_same) (by decide)
    rintro _ H1 ⟨l1, ws1, rfl, e1, wl1, wc1, s1, nt1⟩
    refine sq_set (fun v H2 => ∃ (l : Addr) (ws : List V), v = .ref l ∧ H2 l = some (.lst ws) ∧ ws.length ≤ 10 ∧ (∀ y ∈ ws, Wt K H2 y) ∧ Same H H2 ∧ NoT H2) (fun Q' k => ?_) ?_
    · refine ⟨_, rfl, _, _, rfl, rfl, ⟨by decide, by decide, by decide⟩, _, rfl, by show 4 ≤ sizeLine; decide, fun u1 h1 => ?_⟩
      refine ⟨_, _, rfl, rfl, ⟨by decide, by decide, by decide⟩, _, rfl, _, _, rfl, rfl, by show 4 ≤ sizeLine; decide, fun u2 h2 => ?_⟩
      refine ⟨_, _, rfl, rfl, ⟨by decide, by decide, by decide⟩, _, _, rfl, rfl, by show 4 ≤ sizeLine; decide, fun u3 h3 => ?_⟩
      refine ⟨by show 0 ≤ sizeLine; decide, fun u4 h4 => ?_⟩
      refine ⟨by show 4 ≤ sizeLine; decide, fun l hl => ?_⟩
      have T5 := same_new (o := .lst [.ref u1, .ref u2, .ref u3, .ref u4]) hl
      have T4 := (same_new (o := .tup []) h4).trans T5
      have T3 := (same_new (o := .tup [.int 1, .int 0, .int 1, .int (10 ^ (6 : Int).toNat + 1)]) h3).trans T4
      have T2 := (same_new (o := .tup [.int 1, .int 0, .int 1, .int (-10 ^ (6 : Int).toNat - 1)]) h2).trans T3
      have T1 := (same_new (o := .tup [.int 1, .int 0, .int 1, .int (-10 ^ (6 : Int).toNat)]) h1).trans T2
      refine ⟨l1, l, _, _, rfl, rfl, SqL.of (T1 _ _ e1), SqL.of upd_same, Nat.le_of_lt (sz_small (by show ws1.length + 4 < 100000; omega)), fun l' hl' => ?_⟩
      have T6 := same_new (o := .lst (ws1 ++ [.ref u1, .ref u2, .ref u3, .ref u4])) hl'
      refine k _ _ ⟨l', _, rfl, upd_same, by rw [List.length_append]; show ws1.length + 4 ≤ 10; omega, fun y hy => ?_, s1.trans (T1.trans T6), ((((nt1.tup.tup).tup).tup).lst).lst⟩
      rcases List.mem_append.mp hy with hy | hy
      · exact (wc1 y hy).same (T1.trans T6)
      · simp at hy
        rcases hy with rfl | rfl | rfl | rfl
        · exact ck (ns := [1, 0, 1, -10 ^ (6 : Int).toNat]) ((T2.trans T6) _ _ upd_same) (by decide)
        · exact ck (ns := [1, 0, 1, -10 ^ (6 : Int).toNat - 1]) ((T3.trans T6) _ _ upd_same) (by decide)
        · exact ck (ns := [1, 0, 1, 10 ^ (6 : Int).toNat + 1]) ((T4.trans T6) _ _ upd_same) (by decide)
        · exact ck (ns := []) ((T5.trans T6) _ _ upd_same) (by decide)
    rintro _ H2 ⟨l2, ws2, rfl, e2, wl2, wc2, s2, nt2⟩
    refine sq_set (fun v H3 => ∃ (l : Addr) (ws : List V), v = .ref l ∧ H3 l = some (.lst ws) ∧ ws.length ≤ 12 ∧ (∀ y ∈ ws, Wt K H3 y) ∧ Same H H3 ∧ NoT H3) (fun Q' k => ?_) ?_
    · refine ⟨_, rfl, _, rfl, by show 4 ≤ sizeLine; decide, fun u1 h1 => ?_⟩
      refine ⟨by show 4 ≤ sizeLine; decide, fun u2 h2 => ?_⟩
      refine ⟨by show 2 ≤ sizeLine; decide, fun l hl => ?_⟩
      have T3 := same_new (o := .lst [.ref u1, .ref u2]) hl
      have T2 := (same_new (o := .tup [.bl true, .int 0, .int 1, .int 0]) h2).trans T3
      have T1 := (same_new (o := .tup [.int 1, .int (-1), .int 2, .int 0]) h1).trans T2
      refine ⟨l2, l, _, _, rfl, rfl, SqL.of (T1 _ _ e2), SqL.of upd_same, Nat.le_of_lt (sz_small (by show ws2.length + 2 < 100000; omega)), fun l' hl' => ?_⟩
      have T6 := same_new (o := .lst (ws2 ++ [.ref u1, .ref u2])) hl'
      refine k _ _ ⟨l', _, rfl, upd_same, by rw [List.length_append]; show ws2.length + 2 ≤ 12; omega, fun y hy => ?_, s2.trans (T1.trans T6), ((nt2.tup.tup).lst).lst⟩
      rcases List.mem_append.mp hy with hy | hy
      · exact (wc2 y hy).same (T1.trans T6)
      · simp at hy
        rcases hy with rfl | rfl
        · exact ck (ns := [1, -1, 2, 0]) ((T2.trans T6) _ _ upd_same) (by decide)
        · refine ⟨_, _, rfl, SqT.of ((T3.trans T6) _ _ upd_same), fun _ y hy => ?_⟩
          simp at hy
          rcases hy with rfl | rfl | rfl | rfl
          · exact .bl _
          all_goals exact .int _ (by decide)
    rintro _ H3 ⟨lw, ws, rfl, ew, wl, wc, s3, nt3'⟩
    refine nrm [some (.ref a), some (.ref lw), none, none, none, none, none, none, none] rfl ?_
    refine sq_st (fun _ H' => True) (fun D0 k0 => ?_) (fun _ H' _ => q _)
    refine ⟨by show 1 ≤ sizeLine; decide, fun p1 h1 => ?_⟩
    refine ⟨_, rfl, p1, a, _, _, rfl, rfl, SqL.of upd_same, Same.l (s3.trans (same_new h1)) hS, by rw [List.length_map]; exact sz63 hlen, fun p2 h2 => ?_⟩
    refine ⟨12, rfl, p2, _, rfl, SqL.of upd_same, fun p3 h3 => ?_⟩
    have S3 := (same_new (o := .lst [.int 0]) h1).trans ((same_new (o := .lst ([.int 0] ++ ns.map V.int)) h2).trans (same_new (o := .lst (cutV ([.int 0] ++ ns.map V.int) none (some 12))) h3))
    have nt3 : NoT (upd (upd (upd H3 p1 (.lst [.int 0])) p2 (.lst ([.int 0] ++ ns.map V.int))) p3 (.lst (cutV ([.int 0] ++ ns.map V.int) none (some 12)))) := nt3'.lst.lst.lst
    refine ⟨p3, rfl, ⟨_, SqL.of upd_same⟩, for_list (xs := cutV ([.int 0] ++ ns.map V.int) none (some 12)) (fun i σ H' => (∃ y2 y3 y4 y5 y6 y7 y8, σ = [some (.ref a), some (.ref lw), y2, y3, y4, y5, y6, y7, y8]) ∧ H' p3 = some (.lst (cutV ([.int 0] ++ ns.map V.int) none (some 12))) ∧ H' lw = some (.lst ws) ∧ (∀ y ∈ ws, Wt K H' y) ∧ NoT H')
      ⟨⟨none, none, none, none, none, none, none, rfl⟩, upd_same, S3 _ _ ew, fun y hy => (wc y hy).same S3, nt3⟩ (fun i σ H' _ p => SqL.of p.2.1) (fun i x σ H' hx hW => ?_) (fun σ H' hW => k0 _ _ trivial)⟩
    obtain ⟨⟨y2, y3, y4, y5, y6, y7, y8, rfl⟩, hc, hw, hwc, ntc⟩ := hW
    obtain ⟨c, rfl⟩ := cells_int hx
    generalize hcl : cutV ([V.int 0] ++ ns.map V.int) none (some 12) = cl at hc hx ⊢
    show tSeq _ _ _ _ _
    refine sq_set (fun v H1 => ∃ dk, v = .ref dk ∧ H' dk = none ∧ Same H' H1 ∧ Dk 1 H1 dk) (fun Q' k => ?_) ?_
    · exact ⟨_, rfl, c, 1, 1, rfl, ntc, by decide, by decide, fun dk H1 hdk s1 D1 => k _ _ ⟨dk, rfl, hdk, s1, D1⟩⟩
    rintro _ H4 ⟨dk, rfl, hdk, s4, D4⟩
    have hne : p3 ≠ dk := ne_of_none hc hdk
    have hnw : lw ≠ dk := ne_of_none hw hdk
    have hc4 := s4 _ _ hc
    have hw4 := s4 _ _ hw
    refine sq_set (fun v H5 => ∃ p d t b s, v = .ref p ∧ LandOk d t b s ∧ H5 p = some (.tup [.int d, .int t, .int b, .int s]) ∧ Dk 6 H5 dk ∧ Gr dk H4 H5) (fun Q' k => ?_) ?_
    · exact ⟨_, rfl, dk, 1, rfl, D4, by decide, fun p d t b s H2 hk hp ht D2 g2 => k _ _ ⟨p, d, t, b, s, rfl, hk, ht, D2, g2⟩⟩
    rintro _ H5 ⟨p, d, t, b, s, rfl, hk, ht, D5, g5⟩
    have hc5 := g5.keep _ _ hne hc4
    have hw5 := g5.keep _ _ hnw hw4
    have hdd := hk.d
    have htt := hk.t
    have hbb := hk.b
    have hss := hk.s
    have fl : ∀ y ∈ [V.int d, V.int t, V.int b, V.int s], Fl 1000000 y := fun y hy => by
      simp at hy
      rcases hy with rfl | rfl | rfl | rfl <;> exact .int _ ⟨by omega, by omega⟩
    -- bent
    refine sq_set (fun v H6 => Th K H6 dk 1000001 3 5 v ∧ Dk 9 H6 dk ∧ Gr dk H5 H6) (fun Q' k => ?_) ?_
    · exact ⟨_, rfl, _, rfl, .inr ⟨dk, 6, p, _, 1000000, 4, 4, rfl, D5, by decide, .inl (SqT.of ht), fl, Nat.le_refl _, Nat.le_refl _, by decide, by decide, by decide, fun y H6 h6 _ D6 g6 => k _ _ ⟨h6, D6, g6⟩⟩⟩
    rintro bt H6 ⟨th6, D6, g6⟩
    have hc6 := g6.keep _ _ hne hc5
    have hw6 := g6.keep _ _ hnw hw5
    have hl6 := g6.t (SqT.of (K := K) ht)
    -- some
    refine sq_set (fun v H7 => ∃ (l : Addr) (ms : List V), v = .ref l ∧ H7 l = some (.lst ms) ∧ l ≠ dk ∧ ms.length ≤ 8 ∧ (∀ y ∈ ms, Ck K H7 dk y) ∧ Dk 12 H7 dk ∧ Gr dk H6 H7) (fun Q' k => ?_) ?_
    · refine ⟨_, rfl, _, rfl, _, rfl, _, rfl, spoilt_th th6 D6 (by decide) (by decide) (by decide) (by decide) fun y H7 h7 _ D7 g7 => ?_⟩
      · have hl7 := g7.t hl6
        refine ⟨_, rfl, p, _, rfl, .inr ⟨hl7, fun u1 h1 => ?_⟩⟩
        have T1 := same_new (o := .tup [V.int d, V.int t, V.int b, V.int s].reverse) h1
        refine ⟨_, rfl, p, _, rfl, .inr (Same.t T1 hl7), fun u2 h2 => ?_⟩
        have T2 := T1.trans (same_new (o := .lst [V.int d, V.int t, V.int b, V.int s]) h2)
        refine ⟨_, rfl, 3, rfl, p, _, rfl, Same.t T2 hl7, by show ¬ ((0 : Nat) = 0 ∧ (3 : Nat) = 4); decide, fun u3 h3 => ?_⟩
        have T3 := T2.trans (same_new (o := .tup (cutV [.int d, .int t, .int b, .int s] none (some 3))) h3)
        refine ⟨_, rfl, by show 1 ≤ sizeLine; decide, fun u4 h4 => ?_⟩
        have T4 := T3.trans (same_new (o := .tup [.int 0]) h4)
        refine ⟨p, u4, _, _, rfl, rfl, Same.t T4 hl7, SqT.of upd_same, by simp, by show 5 ≤ sizeLine; decide, fun z => (nomatch z), fun _ u5 h5 => ?_⟩
        have T5 := T4.trans (same_new (o := .tup ([.int d, .int t, .int b, .int s] ++ [.int 0])) h5)
        refine ⟨by show 8 ≤ sizeLine; decide, fun l hl => ?_⟩
        have E5 := same_new (o := .lst [.ref p, bt, y, .ref u1, .ref u2, .ref u3, .ref u5, .non]) hl
        have E4 := (same_new (o := .tup ([.int d, .int t, .int b, .int s] ++ [.int 0])) h5).trans E5
        have E3 := (same_new (o := .tup [.int 0]) h4).trans E4
        have E2 := (same_new (o := .tup (cutV [.int d, .int t, .int b, .int s] none (some 3))) h3).trans E3
        have E1 := (same_new (o := .lst [V.int d, V.int t, V.int b, V.int s]) h2).trans E2
        have E0 := (same_new (o := .tup [V.int d, V.int t, V.int b, V.int s].reverse) h1).trans E1
        have D8 := (((((D7.new (o := .tup [V.int d, V.int t, V.int b, V.int s].reverse) h1 rfl).new (o := .lst [V.int d, V.int t, V.int b, V.int s]) h2 rfl).new (o := .tup (cutV [.int d, .int t, .int b, .int s] none (some 3))) h3 rfl).new (o := .tup [.int 0]) h4 rfl).new (o := .tup ([.int d, .int t, .int b, .int s] ++ [.int 0])) h5 rfl)
        have D7a := D7.new (o := .tup [V.int d, V.int t, V.int b, V.int s].reverse) h1 rfl
        have nd : ∀ {H' : Hp} {q : Addr}, Dk 12 H' dk → H' q = none → q ≠ dk := fun D h e => by
          obtain ⟨_, hz⟩ := D.lst
          rw [e, hz] at h; cases h
        have u2d := nd D7a h2
        have ld := nd D8 hl
        have D9 := D8.new (o := .lst [.ref p, bt, y, .ref u1, .ref u2, .ref u3, .ref u5, .non]) hl rfl
        have flb : ∀ y ∈ [V.int d, V.int t, V.int b, V.int s], Fl 10000000000000000000000000000000 y := fun y hy => (fl y hy).up (by decide)
        refine k _ _ ⟨l, _, rfl, upd_same, ld, by show 8 ≤ 8; decide, fun z hz => ?_, D9, g7.same E0 fun _ => D9.nt⟩
        simp at hz
        rcases hz with rfl | rfl | rfl | rfl | rfl | rfl | rfl | rfl
        · exact .tup (Same.t E0 hl7) fun _ => flb
        · exact (((th6.gr g7).same E0)).ck (by decide)
        · exact (h7.same E0).ck (by decide)
        · exact .tup (SqT.of (E1 _ _ upd_same)) fun _ y hy => flb y (List.mem_reverse.mp hy)
        · exact .lst (SqL.of (E2 _ _ upd_same)) u2d
        · exact .tup (SqT.of (E3 _ _ upd_same)) fun z => absurd z (by show ¬ (3 = 4); decide)
        · exact .tup (SqT.of (E5 _ _ upd_same)) fun z => absurd z (by show ¬ (5 = 4); decide)
        · exact .plain 0 .non
    rintro _ H7 ⟨lm, ms, rfl, em, lmd, ml, mc, D7, g7⟩
    have hc7 := g7.keep _ _ hne hc6
    have hw7 := g7.keep _ _ hnw hw6
    have hl7 := g7.t hl6
    have g47 := (g5.trans g6).trans g7
    have hwc7 : ∀ y ∈ ws, Wt K H7 y := fun y hy => ((hwc y hy).same s4).gr g47
    refine nrm [some (.ref a), some (.ref lw), some (.int c), some (.ref dk), some (.ref p), some bt, some (.ref lm), y7, y8] rfl ?_
    -- the loop over all
    refine ⟨_, rfl, _, rfl, fun D hD => lc_range (lo := 0) (n := 8) (fun i H' => ∃ zs : List V, H' D = some (.lst zs) ∧ zs.length = i ∧ (∀ y ∈ zs, Ck K H' dk y ∧ y ≠ .ref D) ∧ Dk (12 + 3 * i) H' dk ∧ Gr dk H7 H') ⟨[], upd_same, rfl, by simp, D7.new hD rfl, (Gr.refl D7.lst.choose_spec).new hD rfl⟩ (fun i H' hi p' => ?_) (fun H' p' => ?_)⟩
    · obtain ⟨zs, e1, e2, e3, e4, e5⟩ := p'
      have hDd : D ≠ dk := fun z => by
        obtain ⟨_, hz⟩ := D7.lst
        rw [z, hz] at hD; cases hD
      refine ⟨rfl, yesT ?_⟩
      refine ⟨_, rfl, _, rfl, .inr ⟨dk, _, p, _, 1000000, 4, 4, rfl, e4, by omega, .inl (e5.t hl7), fl, Nat.le_refl _, Nat.le_refl _, by decide, by decide, by decide, fun y H8 h8 fr8 D8 g8 => ?_⟩⟩
      have e6 := g8.keep _ _ hDd e1
      have keepD : ∀ c o, c ≠ dk → H7 c = some o → upd H8 D (.lst (zs ++ [y])) c = some o := fun c o nc e => by
        rw [upd_ne (ne_of_none e hD)]
        exact g8.keep _ _ nc (e5.keep _ _ nc e)
      refine ⟨_, e6, sz_small (by omega), zs ++ [y], upd_same, by rw [List.length_append, e2]; rfl, ?_, ?_, ?_⟩
      · intro z hz
        have nD : z ≠ .ref D := by
          rcases List.mem_append.mp hz with h | h
          · exact (e3 z h).2
          · rw [List.mem_singleton] at h
            subst h
            intro e
            have := fr8 D e
            rw [e1] at this; cases this
        refine ⟨Ck.put ?_ nD, nD⟩
        rcases List.mem_append.mp hz with h | h
        · exact (e3 z h).1.gr g8
        · rw [List.mem_singleton] at h
          subst h
          exact h8.ck (by decide)
      · obtain ⟨u1, u2, u3, u4, u5, u6⟩ := D8
        exact ⟨u1.lst, u2, u3, u4, by rw [upd_ne (Ne.symm hDd)]; exact u5, by omega⟩
      · exact ⟨keepD, e5.lst, fun n => (g8.nt (e5.nt n)).lst⟩
    · obtain ⟨zs, e1, e2, e3, e4, e5⟩ := p'
      have hDd : D ≠ dk := fun z => by
        obtain ⟨_, hz⟩ := D7.lst
        rw [z, hz] at hD; cases hD
      have em8 := e5.keep _ _ lmd em
      have hw8 := e5.keep _ _ hnw hw7
      have hc8 := e5.keep _ _ hne hc7
      refine ⟨lm, D, _, _, rfl, rfl, SqL.of em8, SqL.of e1, Nat.le_of_lt (sz_small (by omega)), fun u1 h1 => ?_⟩
      have T1 := same_new (o := .lst (ms ++ zs)) h1
      refine ⟨_, rfl, u1, lw, _, _, rfl, rfl, SqL.of upd_same, SqL.of (T1 _ _ hw8), Nat.le_of_lt (sz_small (by rw [List.length_append]; omega)), fun u2 h2 => ?_⟩
      have T2 := T1.trans (same_new (o := .lst (ms ++ zs ++ ws)) h2)
      have D2 := (e4.new (o := .lst (ms ++ zs)) h1 rfl).new (o := .lst (ms ++ zs ++ ws)) h2 rfl
      have u2d : u2 ≠ dk := fun z => by
        obtain ⟨_, hz⟩ := (e4.new (o := .lst (ms ++ zs)) h1 rfl).lst
        rw [z, hz] at h2; cases h2
      have eu2 : upd (upd H' u1 (.lst (ms ++ zs))) u2 (.lst (ms ++ zs ++ ws)) u2 = some (.lst (ms ++ zs ++ ws)) := upd_same
      have ckA : ∀ y ∈ ms ++ zs ++ ws, Ck K (upd (upd H' u1 (.lst (ms ++ zs))) u2 (.lst (ms ++ zs ++ ws))) dk y := fun y hy => by
        rcases List.mem_append.mp hy with hy | hy
        · rcases List.mem_append.mp hy with hy | hy
          · exact ((mc y hy).gr e5).same T2
          · exact (e3 y hy).1.same T2
        · exact (((hwc7 y hy).gr e5).same T2).ck
      have hc9 := T2 _ _ hc8
      have hw9 := T2 _ _ hw8
      generalize upd (upd H' u1 (.lst (ms ++ zs))) u2 (.lst (ms ++ zs ++ ws)) = H9 at T2 D2 eu2 ckA hc9 hw9 ⊢
      refine ⟨_, rfl, dk, _, rfl, D2, by omega, fun v H10 hv D10 g10 => ?_⟩
      refine ⟨by show 1 ≤ sizeLine; decide, fun u3 h3 => ?_⟩
      have eu2' := g10.keep _ _ u2d eu2
      have T3 := same_new (o := .lst [v]) h3
      refine ⟨u2, u3, _, _, rfl, rfl, SqL.of (T3 _ _ eu2'), SqL.of upd_same, Nat.le_of_lt (sz_small (by rw [List.length_append, List.length_append]; show ms.length + zs.length + ws.length + 1 < 100000; omega)), fun u4 h4 => ?_⟩
      have T4 := T3.trans (same_new (o := .lst (ms ++ zs ++ ws ++ [v])) h4)
      have nt4 := (D10.nt.lst (p := u3) (xs := [v])).lst (p := u4) (xs := ms ++ zs ++ ws ++ [v])
      have hc11 := T4 _ _ (g10.keep _ _ hne hc9)
      have hw11 := T4 _ _ (g10.keep _ _ hnw hw9)
      have ckB : ∀ y ∈ ms ++ zs ++ ws ++ [v], Ck K (upd (upd H10 u3 (.lst [v])) u4 (.lst (ms ++ zs ++ ws ++ [v]))) dk y := fun y hy => by
        rcases List.mem_append.mp hy with hy | hy
        · exact ((ckA y hy).gr g10).same T4
        · rw [List.mem_singleton] at hy
          subst hy
          exact hv.same T4
      have hwcB : ∀ y ∈ ws, Wt K (upd (upd H10 u3 (.lst [v])) u4 (.lst (ms ++ zs ++ ws ++ [v]))) y := fun y hy => ((((hwc7 y hy).gr e5).same T2).gr g10).same T4
      have e11 : upd (upd H10 u3 (.lst [v])) u4 (.lst (ms ++ zs ++ ws ++ [v])) u4 = some (.lst (ms ++ zs ++ ws ++ [v])) := upd_same
      generalize upd (upd H10 u3 (.lst [v])) u4 (.lst (ms ++ zs ++ ws ++ [v])) = H11 at nt4 hc11 hw11 ckB hwcB e11 ⊢
      generalize ms ++ zs ++ ws ++ [v] = all at ckB e11 ⊢
      refine ⟨u4, rfl, ⟨_, SqL.of e11⟩, for_list (xs := all) (fun i σ H' => (∃ y7, σ = [some (.ref a), some (.ref lw), some (.int c), some (.ref dk), some (.ref p), some bt, some (.ref lm), y7, y8]) ∧ Sn H11 H')
        ⟨⟨_, rfl⟩, Sn.refl nt4⟩ (fun i σ H' _ p => SqL.of (p.2.1 _ _ e11)) (fun i x σ H' hx hW => ?_) (fun σ H' hW => ?_)⟩
      · obtain ⟨⟨y7, rfl⟩, sH, nH⟩ := hW
        obtain ⟨r, hr'⟩ := ((ckB x (List.mem_of_getElem? hx)).same sH).chk
        refine sq_ifL (Sn H') (fun Q' k => ?_) ?_
        · refine ⟨_, rfl, x, r, rfl, hr', _, rfl, x, r, rfl, hr', nH, ?_⟩
          exact ⟨_, _, H', rfl, nH, Same.refl _, Sm.bl _ _, fun H3 s3 nt3 => ⟨_, rfl, k _ ⟨s3, nt3⟩⟩⟩
        · rintro H3 ⟨s3, nt3⟩
          exact ⟨⟨_, rfl⟩, sH.trans s3, nt3⟩
      · obtain ⟨⟨y7, rfl⟩, sH, nH⟩ := hW
        exact ⟨⟨_, _, _, _, _, _, _, rfl⟩, sH _ _ hc11, sH _ _ hw11, fun y hy => (hwcB y hy).same sH, nH⟩

end
set_option maxHeartbeats 40000000 in
theorem all_mk {l : PySem.W.OpenLaw} {w : World} {K : PySem.W.Frag} {h : Heap} {mg : Str → Option Value} {fa : Addr} (X : K.In h) (G : h.Ns mainGlobals mg) (hfa : mg "law" = some (.ref fa))
    {od0 an0 : Option Addr} {sl0 : Array (Option Value)} {oc0 kV0 dc0 pm0 cd0 ct0 : Value} {f0 : Addr}
    {od1 an1 : Option Addr} {sl1 : Array (Option Value)} {oc1 kV1 dc1 pm1 cd1 ct1 : Value} {f1 : Addr}
    {od2 an2 : Option Addr} {sl2 : Array (Option Value)} {oc2 kV2 dc2 pm2 cd2 ct2 : Value} {f2 : Addr}
    {od3 an3 : Option Addr} {sl3 : Array (Option Value)} {oc3 kV3 dc3 pm3 cd3 ct3 : Value} {f3 : Addr}
    {od4 an4 : Option Addr} {sl4 : Array (Option Value)} {oc4 kV4 dc4 pm4 cd4 ct4 : Value} {f4 : Addr}
    {od5 an5 : Option Addr} {sl5 : Array (Option Value)} {oc5 kV5 dc5 pm5 cd5 ct5 : Value} {f5 : Addr}
    {od6 an6 : Option Addr} {sl6 : Array (Option Value)} {oc6 kV6 dc6 pm6 cd6 ct6 : Value} {f6 : Addr}
    {od7 an7 : Option Addr} {sl7 : Array (Option Value)} {oc7 kV7 dc7 pm7 cd7 ct7 : Value} {f7 : Addr}
    {od8 an8 : Option Addr} {sl8 : Array (Option Value)} {oc8 kV8 dc8 pm8 cd8 ct8 : Value} {f8 : Addr}
    {od9 an9 : Option Addr} {sl9 : Array (Option Value)} {oc9 kV9 dc9 pm9 cd9 ct9 : Value} {f9 : Addr}
    {od10 an10 : Option Addr} {sl10 : Array (Option Value)} {oc10 kV10 dc10 pm10 cd10 ct10 : Value} {f10 : Addr}
    {od11 an11 : Option Addr} {sl11 : Array (Option Value)} {oc11 kV11 dc11 pm11 cd11 ct11 : Value} {f11 : Addr}
    {od12 an12 : Option Addr} {sl12 : Array (Option Value)} {oc12 kV12 dc12 pm12 cd12 ct12 : Value} {f12 : Addr}
    {od13 an13 : Option Addr} {sl13 : Array (Option Value)} {oc13 kV13 dc13 pm13 cd13 ct13 : Value} {f13 : Addr}
    {t_MOST_DAYS : Tok}
    {t_MOST_BOTTOM : Tok}
    {t_MOST_SHIFT : Tok}
    (a0 : PySem.W.nsIn K mainGlobals "is_from" = some (some (.ref f0))) (l0 : K.lookup f0 = some ⟨oc0, od0, .func (PySem.W.fnOf "is_from" "is_from" (defArgs s_is_from) (defBody s_is_from) (defScope s_is_from) .none kV0 dc0 pm0 an0 cd0 ct0), sl0⟩) (c0 : PySem.W.codeIn K cd0 "is_from" = true) (k0 : PySem.W.keepIn K (.ref f0) = true)
    (a1 : PySem.W.nsIn K mainGlobals "is_land" = some (some (.ref f1))) (l1 : K.lookup f1 = some ⟨oc1, od1, .func (PySem.W.fnOf "is_land" "is_land" (defArgs s_is_land) (defBody s_is_land) (defScope s_is_land) .none kV1 dc1 pm1 an1 cd1 ct1), sl1⟩) (c1 : PySem.W.codeIn K cd1 "is_land" = true) (k1 : PySem.W.keepIn K (.ref f1) = true)
    (a2 : PySem.W.nsIn K mainGlobals "_law_deck" = some (some (.ref f2))) (l2 : K.lookup f2 = some ⟨oc2, od2, .func (PySem.W.fnOf "_law_deck" "_law_deck" (defArgs s_law_deck) (defBody s_law_deck) (defScope s_law_deck) .none kV2 dc2 pm2 an2 cd2 ct2), sl2⟩) (c2 : PySem.W.codeIn K cd2 "_law_deck" = true) (k2 : PySem.W.keepIn K (.ref f2) = true)
    (a3 : PySem.W.nsIn K mainGlobals "_law_pick" = some (some (.ref f3))) (l3 : K.lookup f3 = some ⟨oc3, od3, .func (PySem.W.fnOf "_law_pick" "_law_pick" (defArgs s_law_pick) (defBody s_law_pick) (defScope s_law_pick) .none kV3 dc3 pm3 an3 cd3 ct3), sl3⟩) (c3 : PySem.W.codeIn K cd3 "_law_pick" = true) (k3 : PySem.W.keepIn K (.ref f3) = true)
    (a4 : PySem.W.nsIn K mainGlobals "_law_whole" = some (some (.ref f4))) (l4 : K.lookup f4 = some ⟨oc4, od4, .func (PySem.W.fnOf "_law_whole" "_law_whole" (defArgs s_law_whole) (defBody s_law_whole) (defScope s_law_whole) .none kV4 dc4 pm4 an4 cd4 ct4), sl4⟩) (c4 : PySem.W.codeIn K cd4 "_law_whole" = true) (k4 : PySem.W.keepIn K (.ref f4) = true)
    (a5 : PySem.W.nsIn K mainGlobals "_law_one" = some (some (.ref f5))) (l5 : K.lookup f5 = some ⟨oc5, od5, .func (PySem.W.fnOf "_law_one" "_law_one" (defArgs s_law_one) (defBody s_law_one) (defScope s_law_one) .none kV5 dc5 pm5 an5 cd5 ct5), sl5⟩) (c5 : PySem.W.codeIn K cd5 "_law_one" = true) (k5 : PySem.W.keepIn K (.ref f5) = true)
    (a6 : PySem.W.nsIn K mainGlobals "_law_sort" = some (some (.ref f6))) (l6 : K.lookup f6 = some ⟨oc6, od6, .func (PySem.W.fnOf "_law_sort" "_law_sort" (defArgs s_law_sort) (defBody s_law_sort) (defScope s_law_sort) .none kV6 dc6 pm6 an6 cd6 ct6), sl6⟩) (c6 : PySem.W.codeIn K cd6 "_law_sort" = true) (k6 : PySem.W.keepIn K (.ref f6) = true)
    (a7 : PySem.W.nsIn K mainGlobals "_law_same" = some (some (.ref f7))) (l7 : K.lookup f7 = some ⟨oc7, od7, .func (PySem.W.fnOf "_law_same" "_law_same" (defArgs s_law_same) (defBody s_law_same) (defScope s_law_same) .none kV7 dc7 pm7 an7 cd7 ct7), sl7⟩) (c7 : PySem.W.codeIn K cd7 "_law_same" = true) (k7 : PySem.W.keepIn K (.ref f7) = true)
    (a8 : PySem.W.nsIn K mainGlobals "_law_odd" = some (some (.ref f8))) (l8 : K.lookup f8 = some ⟨oc8, od8, .func (PySem.W.fnOf "_law_odd" "_law_odd" (defArgs s_law_odd) (defBody s_law_odd) (defScope s_law_odd) .none kV8 dc8 pm8 an8 cd8 ct8), sl8⟩) (c8 : PySem.W.codeIn K cd8 "_law_odd" = true) (k8 : PySem.W.keepIn K (.ref f8) = true)
    (a9 : PySem.W.nsIn K mainGlobals "_law_spoilt" = some (some (.ref f9))) (l9 : K.lookup f9 = some ⟨oc9, od9, .func (PySem.W.fnOf "_law_spoilt" "_law_spoilt" (defArgs s_law_spoilt) (defBody s_law_spoilt) (defScope s_law_spoilt) .none kV9 dc9 pm9 an9 cd9 ct9), sl9⟩) (c9 : PySem.W.codeIn K cd9 "_law_spoilt" = true) (k9 : PySem.W.keepIn K (.ref f9) = true)
    (a10 : PySem.W.nsIn K mainGlobals "_law_land" = some (some (.ref f10))) (l10 : K.lookup f10 = some ⟨oc10, od10, .func (PySem.W.fnOf "_law_land" "_law_land" (defArgs s_law_land) (defBody s_law_land) (defScope s_law_land) .none kV10 dc10 pm10 an10 cd10 ct10), sl10⟩) (c10 : PySem.W.codeIn K cd10 "_law_land" = true) (k10 : PySem.W.keepIn K (.ref f10) = true)
    (a11 : PySem.W.nsIn K mainGlobals "_law_any" = some (some (.ref f11))) (l11 : K.lookup f11 = some ⟨oc11, od11, .func (PySem.W.fnOf "_law_any" "_law_any" (defArgs s_law_any) (defBody s_law_any) (defScope s_law_any) .none kV11 dc11 pm11 an11 cd11 ct11), sl11⟩) (c11 : PySem.W.codeIn K cd11 "_law_any" = true) (k11 : PySem.W.keepIn K (.ref f11) = true)
    (a12 : PySem.W.nsIn K mainGlobals "_law_is_land" = some (some (.ref f12))) (l12 : K.lookup f12 = some ⟨oc12, od12, .func (PySem.W.fnOf "_law_is_land" "_law_is_land" (defArgs s_law_is_land) (defBody s_law_is_land) (defScope s_law_is_land) .none kV12 dc12 pm12 an12 cd12 ct12), sl12⟩) (c12 : PySem.W.codeIn K cd12 "_law_is_land" = true) (k12 : PySem.W.keepIn K (.ref f12) = true)
    (a13 : PySem.W.nsIn K mainGlobals "law" = some (some (.ref f13))) (l13 : K.lookup f13 = some ⟨oc13, od13, .func (PySem.W.fnOf "law" "law" (defArgs s_law) (defBody s_law) (defScope s_law) .none kV13 dc13 pm13 an13 cd13 ct13), sl13⟩) (c13 : PySem.W.codeIn K cd13 "law" = true) (k13 : PySem.W.keepIn K (.ref f13) = true)
    (b_bool : PySem.W.nsIn K mainGlobals "bool" = some none)
    (b_enumerate : PySem.W.nsIn K mainGlobals "enumerate" = some none)
    (b_int : PySem.W.nsIn K mainGlobals "int" = some none)
    (b_isinstance : PySem.W.nsIn K mainGlobals "isinstance" = some none)
    (b_len : PySem.W.nsIn K mainGlobals "len" = some none)
    (b_list : PySem.W.nsIn K mainGlobals "list" = some none)
    (b_range : PySem.W.nsIn K mainGlobals "range" = some none)
    (b_str : PySem.W.nsIn K mainGlobals "str" = some none)
    (b_tuple : PySem.W.nsIn K mainGlobals "tuple" = some none)
    (c_MOST_DAYS : PySem.W.nsIn K mainGlobals "MOST_DAYS" = some (some (.int 400 t_MOST_DAYS)))
    (c_MOST_BOTTOM : PySem.W.nsIn K mainGlobals "MOST_BOTTOM" = some (some (.int 60 t_MOST_BOTTOM)))
    (c_MOST_SHIFT : PySem.W.nsIn K mainGlobals "MOST_SHIFT" = some (some (.int 1000000 t_MOST_SHIFT))) :
    ∃ fd : FuncData, (∀ (s : Shared) (v : Value), BindsTo s fd ⟨[v], []⟩ [("script", v)]) ∧ ∀ base : Heap, K.In base → base.Ns mainGlobals mg → FnOk l.prog w K mg base CX0 6 fa fd ["script"] (sp_law K) := by
  have e := hfa.symm.trans (PySem.W.mg_of X G a13)
  cases e
  have F0 := fun_mk (st := s_is_from) l0 c0 k0
  have B0 := F0.binds (ps := ["thing", "low", "high"]) fun _ _ _ _ _ _ us hl => match us, hl with | [_, _, _], _ => rfl
  have F1 := fun_mk (st := s_is_land) l1 c1 k1
  have B1 := F1.binds (ps := ["thing"]) fun _ _ _ _ _ _ us hl => match us, hl with | [_], _ => rfl
  have F2 := fun_mk (st := s_law_deck) l2 c2 k2
  have B2 := F2.binds (ps := ["cell", "turn"]) fun _ _ _ _ _ _ us hl => match us, hl with | [_, _], _ => rfl
  have F3 := fun_mk (st := s_law_pick) l3 c3 k3
  have B3 := F3.binds (ps := ["deck", "size"]) fun _ _ _ _ _ _ us hl => match us, hl with | [_, _], _ => rfl
  have F4 := fun_mk (st := s_law_whole) l4 c4 k4
  have B4 := F4.binds (ps := ["thing"]) fun _ _ _ _ _ _ us hl => match us, hl with | [_], _ => rfl
  have F5 := fun_mk (st := s_law_one) l5 c5 k5
  have B5 := F5.binds (ps := ["deck", "some"]) fun _ _ _ _ _ _ us hl => match us, hl with | [_, _], _ => rfl
  have F6 := fun_mk (st := s_law_sort) l6 c6 k6
  have B6 := F6.binds (ps := ["thing"]) fun _ _ _ _ _ _ us hl => match us, hl with | [_], _ => rfl
  have F7 := fun_mk (st := s_law_same) l7 c7 k7
  have B7 := F7.binds (ps := ["told", "due"]) fun _ _ _ _ _ _ us hl => match us, hl with | [_, _], _ => rfl
  have F8 := fun_mk (st := s_law_odd) l8 c8 k8
  have B8 := F8.binds (ps := ["deck"]) fun _ _ _ _ _ _ us hl => match us, hl with | [_], _ => rfl
  have F9 := fun_mk (st := s_law_spoilt) l9 c9 k9
  have B9 := F9.binds (ps := ["deck", "thing"]) fun _ _ _ _ _ _ us hl => match us, hl with | [_, _], _ => rfl
  have F10 := fun_mk (st := s_law_land) l10 c10 k10
  have B10 := F10.binds (ps := ["deck", "long_so", "bottoms", "shifts"]) fun _ _ _ _ _ _ us hl => match us, hl with | [_, _, _, _], _ => rfl
  have F11 := fun_mk (st := s_law_any) l11 c11 k11
  have B11 := F11.binds (ps := ["deck"]) fun _ _ _ _ _ _ us hl => match us, hl with | [_], _ => rfl
  have F12 := fun_mk (st := s_law_is_land) l12 c12 k12
  have B12 := F12.binds (ps := ["thing"]) fun _ _ _ _ _ _ us hl => match us, hl with | [_], _ => rfl
  have F13 := fun_mk (st := s_law) l13 c13 k13
  have B13 := F13.binds (ps := ["script"]) fun _ _ _ _ _ _ us hl => match us, hl with | [_], _ => rfl
  have A : All K mg := ⟨⟨_, _, F0, PySem.W.mg_of X G a0, B0⟩, ⟨_, _, F1, PySem.W.mg_of X G a1, B1⟩, ⟨_, _, F2, PySem.W.mg_of X G a2, B2⟩, ⟨_, _, F3, PySem.W.mg_of X G a3, B3⟩, ⟨_, _, F4, PySem.W.mg_of X G a4, B4⟩, ⟨_, _, F5, PySem.W.mg_of X G a5, B5⟩, ⟨_, _, F6, PySem.W.mg_of X G a6, B6⟩, ⟨_, _, F7, PySem.W.mg_of X G a7, B7⟩, ⟨_, _, F8, PySem.W.mg_of X G a8, B8⟩, ⟨_, _, F9, PySem.W.mg_of X G a9, B9⟩, ⟨_, _, F10, PySem.W.mg_of X G a10, B10⟩, ⟨_, _, F11, PySem.W.mg_of X G a11, B11⟩, ⟨_, _, F12, PySem.W.mg_of X G a12, B12⟩, ⟨_, _, F13, PySem.W.mg_of X G a13, B13⟩, PySem.W.mg_none_of X G b_bool, PySem.W.mg_none_of X G b_enumerate, PySem.W.mg_none_of X G b_int, PySem.W.mg_none_of X G b_isinstance, PySem.W.mg_none_of X G b_len, PySem.W.mg_none_of X G b_list, PySem.W.mg_none_of X G b_range, PySem.W.mg_none_of X G b_str, PySem.W.mg_none_of X G b_tuple, ⟨_, PySem.W.mg_of X G c_MOST_DAYS⟩, ⟨_, PySem.W.mg_of X G c_MOST_BOTTOM⟩, ⟨_, PySem.W.mg_of X G c_MOST_SHIFT⟩⟩
  exact ⟨_, fun s v => .of_eq rfl, fun base _ _ => ok_law A F13⟩
end K01
open PySem PySem.W PyProof.Rows
set_option maxHeartbeats 0 in
theorem PySem.Challenge.cw_longyears_k01_lands_holds : PySem.Challenge.rw_longyears_k01_lands.Holds := by
  w_on; o_law; k_head; (case hw => w_witness2)
  k_fill
  refine L2.walk_of (l := PySem.Challenge.rw_longyears_k01_lands) (n := 63) (k := 6) (x := "script") (CX := fun w => L2.CX0) (sp := fun w => K01.sp_law _) rfl (by decide) rfl ⟨rfl, by decide, by decide⟩ (fun w h Y => PySem.W.kIn_of Y) ?F (fun _ _ a ns hl hO hS => ⟨a, ns, rfl, hS, hl, Ly.NoT.of_only hO, fun _ => rfl⟩) (fun _ _ _ _ _ h => h)
  case F =>
    intro w mg fa h KX G hmg
    refine' K01.all_mk KX G hmg ?a0 ?l0 ?c0 ?k0 ?a1 ?l1 ?c1 ?k1 ?a2 ?l2 ?c2 ?k2 ?a3 ?l3 ?c3 ?k3 ?a4 ?l4 ?c4 ?k4 ?a5 ?l5 ?c5 ?k5 ?a6 ?l6 ?c6 ?k6 ?a7 ?l7 ?c7 ?k7 ?a8 ?l8 ?c8 ?k8 ?a9 ?l9 ?c9 ?k9 ?a10 ?l10 ?c10 ?k10 ?a11 ?l11 ?c11 ?k11 ?a12 ?l12 ?c12 ?k12 ?a13 ?l13 ?c13 ?k13 ?b_bool ?b_enumerate ?b_int ?b_isinstance ?b_len ?b_list ?b_range ?b_str ?b_tuple ?c_MOST_DAYS ?c_MOST_BOTTOM ?c_MOST_SHIFT
    (case a0 => k_is); (case l0 => k_is); (case c0 => k_is); (case k0 => k_is); (case a1 => k_is); (case l1 => k_is); (case c1 => k_is); (case k1 => k_is); (case a2 => k_is); (case l2 => k_is); (case c2 => k_is); (case k2 => k_is); (case a3 => k_is); (case l3 => k_is); (case c3 => k_is); (case k3 => k_is); (case a4 => k_is); (case l4 => k_is); (case c4 => k_is); (case k4 => k_is); (case a5 => k_is); (case l5 => k_is); (case c5 => k_is); (case k5 => k_is); (case a6 => k_is); (case l6 => k_is); (case c6 => k_is); (case k6 => k_is); (case a7 => k_is); (case l7 => k_is); (case c7 => k_is); (case k7 => k_is); (case a8 => k_is); (case l8 => k_is); (case c8 => k_is); (case k8 => k_is); (case a9 => k_is); (case l9 => k_is); (case c9 => k_is); (case k9 => k_is); (case a10 => k_is); (case l10 => k_is); (case c10 => k_is); (case k10 => k_is); (case a11 => k_is); (case l11 => k_is); (case c11 => k_is); (case k11 => k_is); (case a12 => k_is); (case l12 => k_is); (case c12 => k_is); (case k12 => k_is); (case a13 => k_is); (case l13 => k_is); (case c13 => k_is); (case k13 => k_is); (case b_bool => k_is); (case b_enumerate => k_is); (case b_int => k_is); (case b_isinstance => k_is); (case b_len => k_is); (case b_list => k_is); (case b_range => k_is); (case b_str => k_is); (case b_tuple => k_is); (case c_MOST_DAYS => k_is); (case c_MOST_BOTTOM => k_is); (case c_MOST_SHIFT => k_is)
