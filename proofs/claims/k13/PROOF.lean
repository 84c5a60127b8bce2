import PyProof.Rows.All
import HandS.ForMost
import HandS.ForExc
import HandS.Wide
import HandS.EndBits
import HandS.IsInst
import HandS.Evl
import HandS.Style
import HandS.SortInts
import PyProof.LongRange
import KE.GoesMore
import HandS.SetFor
import HandS.Strs
import KE.KEqSeq
import HandS.Conv
import HandS.DictComp
import PyProof.Rows.IntBool
import KE.KRevSl
import HandS.SortRule
import HandS.Zip
import PySem.Challenge.RW_longyears_k13_whole_lands_by_words
set_option Elab.async false
set_option linter.all false
set_option maxHeartbeats 4000000
/-! lands, plainly -/
namespace Ly
/-! ### lands -/
def LandOk (d t b s : Int) : Prop := (1 ≤ d ∧ d ≤ 400) ∧ (0 ≤ t ∧ t < b) ∧ (1 ≤ b ∧ b ≤ 60) ∧ -1000000 ≤ s ∧ s ≤ 1000000
def Far (y : Int) : Prop := -1000000000000000000000000000000 ≤ y ∧ y ≤ 1000000000000000000000000000000
/-- the day on which a year begins -/
def fday (d t b s y : Int) : Int := ((d * b + t) * y + s) / b
/-- the year of a day -/
def yof (d t b s n : Int) : Int := ((n + 1) * b - s - 1) / (d * b + t)
theorem step_pos {d t b s : Int} (h : LandOk d t b s) : 1 ≤ d * b + t ∧ d * b + t ≤ 24060 := by
  obtain ⟨⟨h1, h2⟩, ⟨h3, h4⟩, ⟨h5, h6⟩, _⟩ := h
  have a1 : 1 * 1 ≤ d * b := Int.mul_le_mul h1 h5 (by decide) (by omega)
  have a2 : d * b ≤ 400 * 60 := Int.mul_le_mul h2 h6 (by omega) (by decide)
  omega
end Ly
namespace Ly
theorem fday_begin {d t b s : Int} (h : LandOk d t b s) (y : Int) : fday d t b s y = d * y + (t * y + s) / b := by
  obtain ⟨_, _, ⟨h5, _⟩, _⟩ := h
  unfold fday
  have e : (d * b + t) * y + s = (t * y + s) + b * (d * y) := by
    rw [Int.add_mul, Int.mul_comm d b, Int.mul_assoc]; omega
  rw [e, Int.add_mul_ediv_left _ _ (by omega)]
  omega
end Ly
set_option Elab.async false
set_option linter.all false
/-! the mathematics of lands -/
namespace Ly
theorem LandOk.b {d t b s : Int} (h : LandOk d t b s) : 1 ≤ b ∧ b ≤ 60 := h.2.2.1
theorem LandOk.d {d t b s : Int} (h : LandOk d t b s) : 1 ≤ d ∧ d ≤ 400 := h.1
theorem LandOk.t {d t b s : Int} (h : LandOk d t b s) : 0 ≤ t ∧ t < b := h.2.1
theorem LandOk.s {d t b s : Int} (h : LandOk d t b s) : -1000000 ≤ s ∧ s ≤ 1000000 := h.2.2.2
/-- year y begins by day m just where y is at most the year of m -/
theorem gal {d t b s : Int} (h : LandOk d t b s) (y m : Int) : fday d t b s y ≤ m ↔ y ≤ yof d t b s m := by
  have hb := h.b
  have hs := step_pos h
  unfold fday yof
  rw [Int.le_ediv_iff_mul_le (by omega)]
  have e : ((d * b + t) * y + s) / b ≤ m ↔ ((d * b + t) * y + s) / b < m + 1 := by omega
  rw [e, Int.ediv_lt_iff_lt_mul (by omega), Int.mul_comm (d * b + t) y]
  omega
theorem yof_low {d t b s : Int} (h : LandOk d t b s) (m : Int) : fday d t b s (yof d t b s m) ≤ m := (gal h _ m).mpr (Int.le_refl _)
theorem yof_high {d t b s : Int} (h : LandOk d t b s) (m : Int) : m < fday d t b s (yof d t b s m + 1) := by
  have := mt (gal h (yof d t b s m + 1) m).mp (by omega)
  omega
theorem yof_eq {d t b s : Int} (h : LandOk d t b s) {y m : Int} (h1 : fday d t b s y ≤ m) (h2 : m < fday d t b s (y + 1)) : yof d t b s m = y := by
  have a := (gal h y m).mp h1
  have c := mt (gal h (y + 1) m).mpr (by omega)
  omega
/-- T: the long years told so far -/
def tof (t b s y : Int) : Int := (t * y + s) / b
theorem fday_tof {d t b s : Int} (h : LandOk d t b s) (y : Int) : fday d t b s y = d * y + tof t b s y := fday_begin h y
theorem tof_step {d t b s : Int} (h : LandOk d t b s) (y : Int) : tof t b s (y + 1) = tof t b s y ∨ tof t b s (y + 1) = tof t b s y + 1 := by
  have hb := h.b
  have ht := h.t
  unfold tof
  have e : t * (y + 1) + s = (t * y + s) + t := by rw [Int.mul_add, Int.mul_one]; omega
  rw [e]
  generalize t * y + s = A
  have h1 : A / b ≤ (A + t) / b := Int.ediv_le_ediv (by omega) (by omega)
  have h2 : (A + t) / b ≤ (A + b * 1) / b := Int.ediv_le_ediv (by omega) (by omega)
  rw [Int.add_mul_ediv_left _ _ (by omega)] at h2
  omega
theorem flen {d t b s : Int} (h : LandOk d t b s) (y : Int) : fday d t b s (y + 1) - fday d t b s y = d + (tof t b s (y + 1) - tof t b s y) := by
  rw [fday_tof h, fday_tof h, Int.mul_add, Int.mul_one]; omega
theorem flen2 {d t b s : Int} (h : LandOk d t b s) (y : Int) : fday d t b s (y + 1) - fday d t b s y = d ∨ fday d t b s (y + 1) - fday d t b s y = d + 1 := by
  rw [flen h]
  rcases tof_step h y with e | e <;> omega
theorem fday_lt {d t b s : Int} (h : LandOk d t b s) (y : Int) : fday d t b s y < fday d t b s (y + 1) := by
  have := flen2 h y
  have := h.d
  omega
theorem yof_begin {d t b s : Int} (h : LandOk d t b s) (y : Int) : yof d t b s (fday d t b s y) = y := yof_eq h (Int.le_refl _) (fday_lt h y)
theorem yof_ahead {d t b s : Int} (h : LandOk d t b s) (y : Int) : yof d t b s (fday d t b s y - 1) = y - 1 := by
  have e := fday_lt h (y - 1)
  rw [Int.sub_add_cancel] at e
  exact yof_eq h (by omega) (by rw [Int.sub_add_cancel]; omega)
theorem fday_round {d t b s : Int} (h : LandOk d t b s) (y : Int) : fday d t b s (y + b) = fday d t b s y + (d * b + t) := by
  have hb := h.b
  unfold fday
  have e : (d * b + t) * (y + b) + s = ((d * b + t) * y + s) + b * (d * b + t) := by
    rw [Int.mul_add, Int.mul_comm (d * b + t) b]; omega
  rw [e, Int.add_mul_ediv_left _ _ (by omega)]
/-- the day behind: the same year, or the next one's first -/
theorem yof_succ {d t b s : Int} (h : LandOk d t b s) (m : Int) :
    yof d t b s (m + 1) = if m + 1 - fday d t b s (yof d t b s m) = fday d t b s (yof d t b s m + 1) - fday d t b s (yof d t b s m) then yof d t b s m + 1 else yof d t b s m := by
  have h1 := yof_low h m
  have h2 := yof_high h m
  split
  · rename_i e
    have e2 : m + 1 = fday d t b s (yof d t b s m + 1) := by omega
    rw [e2]
    exact yof_begin h _
  · exact yof_eq h (by omega) (by omega)
theorem ediv_abs {x k : Int} (hk : 1 ≤ k) {B : Int} (hB : 0 ≤ B) (h1 : -B ≤ x) (h2 : x ≤ B) : -B ≤ x / k ∧ x / k ≤ B := by
  constructor
  · rw [Int.le_ediv_iff_mul_le (by omega)]
    have : -B * k ≤ -B * 1 := Int.mul_le_mul_of_nonpos_left (by omega) hk
    omega
  · have h3 : x / k < B + 1 := by
      rw [Int.ediv_lt_iff_lt_mul (by omega)]
      have : (B + 1) * 1 ≤ (B + 1) * k := Int.mul_le_mul_of_nonneg_left hk (by omega)
      omega
    omega
theorem mul_abs {x k : Int} {M B : Int} (hk0 : 0 ≤ k) (hk : k ≤ M) (hB : 0 ≤ B) (h1 : -B ≤ x) (h2 : x ≤ B) : -(B * M) ≤ x * k ∧ x * k ≤ B * M := by
  have a1 : x * k ≤ B * k := Int.mul_le_mul_of_nonneg_right h2 hk0
  have a2 : B * k ≤ B * M := Int.mul_le_mul_of_nonneg_left hk hB
  have a3 : -B * k ≤ x * k := Int.mul_le_mul_of_nonneg_right h1 hk0
  have a4 : -B * k = -(B * k) := Int.neg_mul ..
  omega
theorem yof_abs {d t b s : Int} (h : LandOk d t b s) {m B : Int} (hB : 0 ≤ B) (h1 : -B ≤ m) (h2 : m ≤ B) : -(60 * B + 2000000) ≤ yof d t b s m ∧ yof d t b s m ≤ 60 * B + 2000000 := by
  have hb := h.b
  have hs := h.s
  have hp := step_pos h
  have hm := mul_abs (x := m + 1) (k := b) (M := 60) (B := B + 1) (by omega) (by omega) (by omega) (by omega) (by omega)
  unfold yof
  exact ediv_abs hp.1 (by omega) (by omega) (by omega)
theorem fday_abs {d t b s : Int} (h : LandOk d t b s) {y B : Int} (hB : 0 ≤ B) (h1 : -B ≤ y) (h2 : y ≤ B) : -(24060 * B + 2000000) ≤ fday d t b s y ∧ fday d t b s y ≤ 24060 * B + 2000000 := by
  have hb := h.b
  have hs := h.s
  have hp := step_pos h
  have hm := mul_abs (x := y) (k := d * b + t) (M := 24060) (B := B) (by omega) (by omega) (by omega) (by omega) (by omega)
  unfold fday
  rw [Int.mul_comm (d * b + t) y]
  exact ediv_abs hb.1 (by omega) (by omega) (by omega)
theorem tof_abs {d t b s : Int} (h : LandOk d t b s) {y B : Int} (hB : 0 ≤ B) (h1 : -B ≤ y) (h2 : y ≤ B) : -(B + 1000001) ≤ tof t b s y ∧ tof t b s y ≤ B + 1000001 := by
  have hb := h.b
  have hs := h.s
  have ht := h.t
  have hm := mul_abs (x := y) (k := t) (M := b) (B := B) (by omega) (by omega) (by omega) (by omega) (by omega)
  unfold tof
  rw [Int.mul_comm t y]
  have e1 : (B * b + 1000000 * b) / b = B + 1000000 := by rw [← Int.add_mul, Int.mul_ediv_cancel _ (by omega)]
  have e2 : (-(B * b) - 1000000 * b) / b = -B - 1000000 := by rw [← Int.neg_mul, ← Int.sub_mul, Int.mul_ediv_cancel _ (by omega)]
  have m1 : (y * t + s) / b ≤ (B * b + 1000000 * b) / b := Int.ediv_le_ediv (by omega) (by omega)
  have m2 : (-(B * b) - 1000000 * b) / b ≤ (y * t + s) / b := Int.ediv_le_ediv (by omega) (by omega)
  omega
theorem fday_abs2 {d t b s : Int} (h : LandOk d t b s) {y B : Int} (hB : 0 ≤ B) (h1 : -B ≤ y) (h2 : y ≤ B) : -(401 * B + 1000001) ≤ fday d t b s y ∧ fday d t b s y ≤ 401 * B + 1000001 := by
  have hd := h.d
  have ht := tof_abs h hB h1 h2
  have hm := mul_abs (x := y) (k := d) (M := 400) (B := B) (by omega) (by omega) (by omega) (by omega) (by omega)
  rw [fday_tof h, Int.mul_comm d y]
  omega
/-- of so many years as many are long as their part, below or above -/
theorem tof_part {d t b s : Int} (h : LandOk d t b s) (y : Int) {n : Int} (hn : 0 ≤ n) : n * t / b ≤ tof t b s (y + n) - tof t b s y ∧ tof t b s (y + n) - tof t b s y ≤ (n * t + b - 1) / b := by
  have hb := h.b
  unfold tof
  have e : t * (y + n) + s = (t * y + s) + n * t := by rw [Int.mul_add, Int.mul_comm t n]; omega
  rw [e]
  generalize t * y + s = A
  generalize n * t = N
  have hA := Int.emod_add_mul_ediv A b
  have hN := Int.emod_add_mul_ediv N b
  have a0 := Int.emod_nonneg A (show b ≠ 0 by omega)
  have a1 := Int.emod_lt_of_pos A (show 0 < b by omega)
  have n0 := Int.emod_nonneg N (show b ≠ 0 by omega)
  have n1 := Int.emod_lt_of_pos N (show 0 < b by omega)
  constructor
  · have : A / b + N / b ≤ (A + N) / b := by
      rw [Int.le_ediv_iff_mul_le (by omega), Int.add_mul, Int.mul_comm (A / b), Int.mul_comm (N / b)]
      omega
    omega
  · generalize hC : (N + b - 1) / b = C
    have h2 : N ≤ b * C := by
      have h3 := Int.emod_add_mul_ediv (N + b - 1) b
      have h4 := Int.emod_lt_of_pos (N + b - 1) (show 0 < b by omega)
      rw [hC] at h3
      omega
    have : (A + N) / b < A / b + C + 1 := by
      rw [Int.ediv_lt_iff_lt_mul (by omega), Int.add_mul, Int.add_mul, Int.mul_comm (A / b), Int.mul_comm C]
      omega
    omega
theorem tof_round {d t b s : Int} (h : LandOk d t b s) (y : Int) : tof t b s (y + b) = tof t b s y + t := by
  have hb := h.b
  unfold tof
  have e : t * (y + b) + s = (t * y + s) + b * t := by rw [Int.mul_add, Int.mul_comm t b]; omega
  rw [e, Int.add_mul_ediv_left _ _ (by omega)]
end Ly
set_option Elab.async false
set_option linter.all false
set_option maxHeartbeats 4000000
/-! days of the week: the mathematics -/
namespace Ly
/-- the greatest common measure of two numbers from 0 on -/
def gcdI (a b : Int) : Int := (Nat.gcd a.toNat b.toNat : Nat)
theorem gcdI_zero {a : Int} (h : 0 ≤ a) : gcdI a 0 = a := by
  unfold gcdI
  rw [show (0 : Int).toNat = 0 from rfl, Nat.gcd_zero_right]; omega
theorem gcdI_step {a b : Int} (ha : 0 ≤ a) (hb : 0 < b) : gcdI a b = gcdI b (a % b) := by
  unfold gcdI
  have e : (a % b).toNat = a.toNat % b.toNat := by
    obtain ⟨m, rfl⟩ : ∃ m : Nat, a = m := ⟨a.toNat, by omega⟩
    obtain ⟨n, rfl⟩ : ∃ n : Nat, b = n := ⟨b.toNat, by omega⟩
    show ((m : Int) % (n : Int)).toNat = m % n
    rw [← Int.natCast_emod, Int.toNat_natCast]
  rw [e, Nat.gcd_comm b.toNat, ← Nat.gcd_rec, Nat.gcd_comm]
theorem gcdI_dvd_l {a b : Int} (ha : 0 ≤ a) : gcdI a b ∣ a := by
  unfold gcdI
  have h := Int.natCast_dvd_natCast.mpr (Nat.gcd_dvd_left a.toNat b.toNat)
  rwa [Int.toNat_of_nonneg ha] at h
theorem gcdI_dvd_r {a b : Int} (hb : 0 ≤ b) : gcdI a b ∣ b := by
  unfold gcdI
  have h := Int.natCast_dvd_natCast.mpr (Nat.gcd_dvd_right a.toNat b.toNat)
  rwa [Int.toNat_of_nonneg hb] at h
theorem gcdI_pos {a b : Int} (ha : 0 < a) : 1 ≤ gcdI a b := by
  unfold gcdI
  have := Nat.gcd_pos_of_pos_left b.toNat (show 0 < a.toNat by omega)
  omega
theorem gcdI_pos_r {a b : Int} (hb : 0 < b) : 1 ≤ gcdI a b := by
  unfold gcdI
  have := Nat.gcd_pos_of_pos_right a.toNat (show 0 < b.toNat by omega)
  omega
theorem gcdI_comm (a b : Int) : gcdI a b = gcdI b a := by unfold gcdI; rw [Nat.gcd_comm]
theorem dvd_gcdI {k a b : Int} (hk : 0 ≤ k) (ha : 0 ≤ a) (hb : 0 ≤ b) (h1 : k ∣ a) (h2 : k ∣ b) : k ∣ gcdI a b := by
  obtain ⟨m, rfl⟩ : ∃ m : Nat, k = m := ⟨k.toNat, by omega⟩
  obtain ⟨x, rfl⟩ : ∃ x : Nat, a = x := ⟨a.toNat, by omega⟩
  obtain ⟨y, rfl⟩ : ∃ y : Nat, b = y := ⟨b.toNat, by omega⟩
  unfold gcdI
  exact Int.natCast_dvd_natCast.mpr (Nat.dvd_gcd (by simpa using Int.natCast_dvd_natCast.mp h1) (by simpa using Int.natCast_dvd_natCast.mp h2))
theorem gcdI_div {a b : Int} (ha : 0 < a) (hb : 0 ≤ b) : gcdI (a / gcdI a b) (b / gcdI a b) = 1 := by
  obtain ⟨x, rfl⟩ : ∃ x : Nat, a = x := ⟨a.toNat, by omega⟩
  obtain ⟨y, rfl⟩ : ∃ y : Nat, b = y := ⟨b.toNat, by omega⟩
  unfold gcdI
  have e1 : ((x : Int) / ((Nat.gcd (x : Int).toNat (y : Int).toNat : Nat) : Int)).toNat = x / Nat.gcd x y := by rw [Int.toNat_natCast, Int.toNat_natCast, ← Int.natCast_ediv, Int.toNat_natCast]
  have e2 : ((y : Int) / ((Nat.gcd (x : Int).toNat (y : Int).toNat : Nat) : Int)).toNat = y / Nat.gcd x y := by rw [Int.toNat_natCast, Int.toNat_natCast, ← Int.natCast_ediv, Int.toNat_natCast]
  rw [e1, e2, Nat.gcd_div (Nat.gcd_dvd_left x y) (Nat.gcd_dvd_right x y), Nat.div_self (Nat.gcd_pos_of_pos_left y (by omega))]
  rfl
theorem modeq {T y z : Int} : y % T = z % T ↔ T ∣ y - z := by
  rw [Int.dvd_iff_emod_eq_zero]
  exact Int.emod_eq_emod_iff_emod_sub_eq_zero
/-- S * y leaves aw by W, solved by the inverse -/
theorem solve {S W g T r bk : Int} (hg : 0 < g) (hS : S = g * r) (hW : W = g * T) (hb : T ∣ r * bk - 1) (y aw : Int) : W ∣ S * y - aw ↔ g ∣ aw ∧ y % T = (aw / g * bk) % T := by
  subst hS hW
  constructor
  · intro h
    have hga : g ∣ aw := by
      have h1 : g ∣ g * r * y - aw := Int.dvd_trans ⟨T, rfl⟩ h
      have h2 : g ∣ g * r * y := ⟨r * y, by rw [Int.mul_assoc]⟩
      have h3 := Int.dvd_sub h2 h1
      rwa [Int.sub_sub_self] at h3
    refine ⟨hga, ?_⟩
    obtain ⟨a, rfl⟩ := hga
    rw [Int.mul_ediv_cancel_left _ (by omega), modeq]
    have h2 : T ∣ r * y - a := by
      rw [Int.mul_assoc, ← Int.mul_sub] at h
      exact Int.dvd_of_mul_dvd_mul_left (by omega) h
    have h3 : T ∣ (r * y - a) * bk := Int.dvd_trans h2 ⟨bk, rfl⟩
    have h4 : T ∣ (r * bk - 1) * y := Int.dvd_trans hb ⟨y, rfl⟩
    have h5 := Int.dvd_sub h3 h4
    have e : (r * y - a) * bk - (r * bk - 1) * y = y - a * bk := by
      rw [Int.sub_mul, Int.sub_mul, Int.mul_right_comm r bk y, Int.one_mul]; omega
    rwa [e] at h5
  · rintro ⟨⟨a, rfl⟩, h⟩
    rw [Int.mul_ediv_cancel_left _ (by omega), modeq] at h
    rw [Int.mul_assoc, ← Int.mul_sub]
    refine Int.mul_dvd_mul_left g ?_
    have h3 : T ∣ (y - a * bk) * r := Int.dvd_trans h ⟨r, rfl⟩
    have h4 : T ∣ (r * bk - 1) * a := Int.dvd_trans hb ⟨a, rfl⟩
    have h5 := Int.dvd_add h3 h4
    have e : (y - a * bk) * r + (r * bk - 1) * a = r * y - a := by
      rw [Int.sub_mul, Int.sub_mul, Int.one_mul, Int.mul_comm y r, Int.mul_comm (a * bk) r, ← Int.mul_assoc, Int.mul_right_comm r a bk]; omega
    rwa [e] at h5
/-- a year has the place on the day nm of a week of wk -/
def has (d t b s pl wk nm y : Int) : Prop := (fday d t b s y + pl) % wk = nm
instance (d t b s pl wk nm y : Int) : Decidable (has d t b s pl wk nm y) := inferInstanceAs (Decidable (_ = _))
theorem has_iff {d t b s pl wk nm : Int} (h : LandOk d t b s) (hw : 1 ≤ wk) (h0 : 0 ≤ nm) (h1 : nm < wk) (y : Int) :
    has d t b s pl wk nm y ↔ ∃ j, 0 ≤ j ∧ j < b ∧ wk * b ∣ (d * b + t) * y - (nm * b + j - s - pl * b) := by
  have hb := h.b
  unfold has fday
  generalize hX : (d * b + t) * y = X
  have e : (X + s) / b + pl = (X + s + b * pl) / b := by rw [Int.add_mul_ediv_left _ _ (by omega)]
  rw [e]
  generalize hA : X + s + b * pl = A
  have hc : b * pl = pl * b := Int.mul_comm ..
  constructor
  · intro hh
    refine ⟨A % b, Int.emod_nonneg _ (by omega), Int.emod_lt_of_pos _ (by omega), (A / b) / wk, ?_⟩
    have q1 := Int.emod_add_mul_ediv A b
    have q2 := Int.emod_add_mul_ediv (A / b) wk
    rw [hh] at q2
    have q3 : b * (A / b) = b * (nm + wk * (A / b / wk)) := by rw [q2]
    rw [Int.mul_add, Int.mul_comm b nm, ← Int.mul_assoc, Int.mul_comm b wk] at q3
    omega
  · rintro ⟨j, j0, j1, k, hk⟩
    have hA2 : A = j + b * (nm + wk * k) := by
      rw [Int.mul_add, Int.mul_comm b nm, ← Int.mul_assoc, Int.mul_comm b wk]; omega
    rw [hA2, Int.add_mul_ediv_left _ _ (by omega), Int.ediv_eq_zero_of_lt j0 j1, Int.zero_add, Int.add_mul_emod_self_left]
    exact Int.emod_eq_of_lt h0 h1
/-- what stands in a round of years -/
structure Yso (d t b s pl wk nm : Int) (ys : List Int) (T : Int) : Prop where
  tpos : 1 ≤ T
  teq : T = wk * b / gcdI (d * b + t) (wk * b)
  rng : ∀ y ∈ ys, 0 ≤ y ∧ y < T
  inc : ys.Pairwise (· < ·)
  good : ∀ y, has d t b s pl wk nm y ↔ y % T ∈ ys
  len : ys.length ≤ 60
/-- the years found, ahead of sorting, from the first i rests -/
def fnd (b s pl nm g bk T : Int) : Nat → List Int
  | 0 => []
  | i + 1 => if (nm * b + i - s - pl * b) % g = 0 then fnd b s pl nm g bk T i ++ [(nm * b + i - s - pl * b) / g * bk % T] else fnd b s pl nm g bk T i
theorem fnd_len (b s pl nm g bk T : Int) : ∀ i, (fnd b s pl nm g bk T i).length ≤ i
  | 0 => Nat.le_refl _
  | i + 1 => by
    have ih := fnd_len b s pl nm g bk T i
    unfold fnd
    split
    · rw [List.length_append]; show _ + 1 ≤ _; omega
    · omega
theorem mem_fnd {b s pl nm g bk T z : Int} : ∀ {i : Nat}, z ∈ fnd b s pl nm g bk T i ↔ ∃ j : Nat, j < i ∧ (nm * b + j - s - pl * b) % g = 0 ∧ z = (nm * b + j - s - pl * b) / g * bk % T
  | 0 => by simp [fnd]
  | i + 1 => by
    have ih := mem_fnd (b := b) (s := s) (pl := pl) (nm := nm) (g := g) (bk := bk) (T := T) (z := z) (i := i)
    unfold fnd
    split
    · rename_i hc
      rw [List.mem_append, ih, List.mem_singleton]
      constructor
      · rintro (⟨j, a, r⟩ | e)
        · exact ⟨j, by omega, r⟩
        · exact ⟨i, by omega, hc, e⟩
      · rintro ⟨j, a, r, e⟩
        by_cases hj : j = i
        · subst hj; exact .inr e
        · exact .inl ⟨j, by omega, r, e⟩
    · rename_i hc
      rw [ih]
      constructor
      · rintro ⟨j, a, r⟩
        exact ⟨j, by omega, r⟩
      · rintro ⟨j, a, r, e⟩
        by_cases hj : j = i
        · subst hj; exact absurd r hc
        · exact ⟨j, by omega, r, e⟩
theorem yso_of {d t b s pl wk nm g bk T : Int} (h : LandOk d t b s) (hw : 1 ≤ wk) (h0 : 0 ≤ nm) (h1 : nm < wk) (hg : g = gcdI (d * b + t) (wk * b)) (hT : T = wk * b / g) (hb : T ∣ (d * b + t) / g * bk - 1) {ys : List Int}
    (hp : ys.Perm (fnd b s pl nm g bk T b.toNat)) (hs : ys.Pairwise (· ≤ ·)) : Yso d t b s pl wk nm ys T := by
  have hbb := h.b
  have hst := step_pos h
  have wb : 1 * 1 ≤ wk * b := Int.mul_le_mul hw hbb.1 (by decide) (by omega)
  have g1 : 1 ≤ g := by rw [hg]; exact gcdI_pos (by omega)
  have gS : (d * b + t) = g * ((d * b + t) / g) := by
    have := gcdI_dvd_l (a := d * b + t) (b := wk * b) (by omega)
    rw [← hg] at this
    exact (Int.mul_ediv_cancel' this).symm
  have gW : wk * b = g * T := by
    have := gcdI_dvd_r (a := d * b + t) (b := wk * b) (by omega)
    rw [← hg] at this
    rw [hT]
    exact (Int.mul_ediv_cancel' this).symm
  have T1 : 1 ≤ T := by
    rcases Int.lt_or_le T 1 with z | z
    · have : g * T ≤ g * 0 := Int.mul_le_mul_of_nonneg_left (by omega) (by omega)
      omega
    · exact z
  have sol := fun (y : Int) (j : Int) => solve (S := d * b + t) (W := wk * b) (g := g) (T := T) (by omega) gS gW hb y (nm * b + j - s - pl * b)
  have mem : ∀ z, z ∈ ys ↔ z ∈ fnd b s pl nm g bk T b.toNat := fun z => hp.mem_iff
  have rng : ∀ z ∈ ys, 0 ≤ z ∧ z < T := fun z hz => by
    obtain ⟨j, _, _, rfl⟩ := mem_fnd.mp ((mem z).mp hz)
    exact ⟨Int.emod_nonneg _ (by omega), Int.emod_lt_of_pos _ (by omega)⟩
  have dv : ∀ {x : Int}, x % g = 0 ↔ g ∣ x := fun {x} => (Int.dvd_iff_emod_eq_zero ..).symm
  have nodup : ∀ i : Nat, i ≤ b.toNat → (fnd b s pl nm g bk T i).Nodup := fun i => by
    induction i with
    | zero => intro _; exact List.nodup_nil
    | succ i ih =>
      intro hi
      unfold fnd
      split
      · rename_i hc
        rw [List.nodup_append]
        refine ⟨ih (by omega), by simp, ?_⟩
        intro z hz w hw' e
        rw [List.mem_singleton] at hw'
        subst hw'
        obtain ⟨j, hj, r, e2⟩ := mem_fnd.mp hz
        have zz : z % T = z := by
          rw [e2, Int.emod_emod_of_dvd _ (Int.dvd_refl T)]
        have s1 := (sol z j).mpr ⟨dv.mp r, by rw [zz]; exact e2⟩
        have s2 := (sol z i).mpr ⟨dv.mp hc, by rw [zz]; exact e⟩
        have s3 := Int.dvd_sub s1 s2
        have e3 : (d * b + t) * z - (nm * b + (j : Int) - s - pl * b) - ((d * b + t) * z - (nm * b + (i : Int) - s - pl * b)) = (i : Int) - j := by omega
        rw [e3] at s3
        have hle := Int.le_of_dvd (by omega) s3
        have : 1 * b ≤ wk * b := Int.mul_le_mul_of_nonneg_right hw (by omega)
        omega
      · exact ih (by omega)
  refine ⟨T1, by rw [hT, hg], rng, ?_, fun y => ?_, ?_⟩
  · have nd : ys.Nodup := hp.nodup_iff.mpr (nodup _ (Nat.le_refl _))
    refine (List.Pairwise.and hs nd).imp ?_
    rintro x y ⟨a, c⟩
    omega
  · rw [has_iff h hw h0 h1, mem, mem_fnd]
    constructor
    · rintro ⟨j, j0, j1, hd⟩
      obtain ⟨k, rfl⟩ : ∃ k : Nat, j = k := ⟨j.toNat, by omega⟩
      obtain ⟨a, c⟩ := (sol y k).mp hd
      exact ⟨k, by omega, dv.mpr a, c⟩
    · rintro ⟨j, hj, r, e⟩
      exact ⟨j, by omega, by omega, (sol y j).mpr ⟨dv.mp r, e⟩⟩
  · rw [hp.length_eq]
    have := fnd_len b s pl nm g bk T b.toNat
    omega
end Ly
set_option Elab.async false
set_option linter.all false
set_option maxHeartbeats 4000000
/-! counting, next ones, gaps: plain mathematics -/
namespace Ly
/-- two rising lists with the same members are the same -/
theorem pw_ext : ∀ {xs ys : List Int}, xs.Pairwise (· < ·) → ys.Pairwise (· < ·) → (∀ z, z ∈ xs ↔ z ∈ ys) → xs = ys
  | [], [], _, _, _ => rfl
  | [], y :: ys, _, _, h => absurd ((h y).mpr (List.mem_cons_self ..)) (by simp)
  | x :: xs, [], _, _, h => absurd ((h x).mp (List.mem_cons_self ..)) (by simp)
  | x :: xs, y :: ys, hx, hy, h => by
    rw [List.pairwise_cons] at hx hy
    have e : x = y := by
      rcases List.mem_cons.mp ((h x).mp (List.mem_cons_self ..)) with e | e
      · exact e
      · rcases List.mem_cons.mp ((h y).mpr (List.mem_cons_self ..)) with e' | e'
        · exact e'.symm
        · have := hx.1 y e'
          have := hy.1 x e
          omega
    subst e
    rw [pw_ext hx.2 hy.2 fun z => ?_]
    constructor
    · intro hz
      rcases List.mem_cons.mp ((h z).mp (List.mem_cons_of_mem _ hz)) with e | e
      · have := hx.1 z hz; omega
      · exact e
    · intro hz
      rcases List.mem_cons.mp ((h z).mpr (List.mem_cons_of_mem _ hz)) with e | e
      · have := hy.1 z hz; omega
      · exact e
/-- the numbers from a on, n of them, of which p holds -/
def flt (p : Int → Bool) (a : Int) : Nat → List Int
  | 0 => []
  | n + 1 => if p (a + n) then flt p a n ++ [a + n] else flt p a n
theorem mem_flt {p : Int → Bool} {a z : Int} : ∀ {n : Nat}, z ∈ flt p a n ↔ a ≤ z ∧ z < a + n ∧ p z = true
  | 0 => by simp [flt]; omega
  | n + 1 => by
    have ih := mem_flt (p := p) (a := a) (z := z) (n := n)
    unfold flt
    split
    · rename_i h
      rw [List.mem_append, ih, List.mem_singleton]
      constructor
      · rintro (⟨x, y, q⟩ | rfl)
        · exact ⟨x, by omega, q⟩
        · exact ⟨by omega, by omega, h⟩
      · rintro ⟨x, y, q⟩
        by_cases e : z = a + n
        · exact .inr e
        · exact .inl ⟨x, by omega, q⟩
    · rename_i h
      rw [ih]
      constructor
      · rintro ⟨x, y, q⟩
        exact ⟨x, by omega, q⟩
      · rintro ⟨x, y, q⟩
        refine ⟨x, ?_, q⟩
        by_cases e : z = a + n
        · subst e; exact absurd q h
        · omega
theorem flt_inc {p : Int → Bool} {a : Int} : ∀ {n : Nat}, (flt p a n).Pairwise (· < ·)
  | 0 => List.Pairwise.nil
  | n + 1 => by
    unfold flt
    split
    · rw [List.pairwise_append]
      refine ⟨flt_inc, List.pairwise_singleton .., ?_⟩
      intro x hx y hy
      rw [List.mem_singleton] at hy
      have := mem_flt.mp hx
      omega
    · exact flt_inc
theorem flt_len {p : Int → Bool} {a : Int} : ∀ {n : Nat}, (flt p a n).length ≤ n
  | 0 => Nat.le_refl _
  | n + 1 => by
    have := flt_len (p := p) (a := a) (n := n)
    unfold flt
    split
    · rw [List.length_append]; show _ + 1 ≤ _; omega
    · omega
/-- how many of the n numbers from a on -/
def cnt (p : Int → Bool) (a : Int) : Nat → Int
  | 0 => 0
  | n + 1 => cnt p a n + if p (a + n) then 1 else 0
theorem cnt_flt {p : Int → Bool} {a : Int} : ∀ {n : Nat}, cnt p a n = ((flt p a n).length : Nat)
  | 0 => rfl
  | n + 1 => by
    have ih := cnt_flt (p := p) (a := a) (n := n)
    unfold cnt flt
    split
    · rw [ih, List.length_append]; show _ = ((_ + 1 : Nat) : Int); omega
    · rw [ih]; omega
theorem cnt_nonneg {p : Int → Bool} {a : Int} {n : Nat} : 0 ≤ cnt p a n := by rw [cnt_flt]; omega
theorem cnt_congr {p q : Int → Bool} {a : Int} : ∀ {n : Nat}, (∀ z, a ≤ z → z < a + n → p z = q z) → cnt p a n = cnt q a n
  | 0, _ => rfl
  | n + 1, h => by
    unfold cnt
    rw [cnt_congr (n := n) fun z h1 h2 => h z h1 (by omega), h (a + n) (by omega) (by omega)]
theorem cnt_add {p : Int → Bool} {a : Int} {n : Nat} : ∀ {m : Nat}, cnt p a (n + m) = cnt p a n + cnt p (a + n) m
  | 0 => by simp [cnt]
  | m + 1 => by
    show cnt p a (n + m) + _ = _ + (cnt p (a + n) m + _)
    rw [cnt_add (m := m), show a + ((n.add m : Nat) : Int) = a + n + m by show a + ((n + m : Nat) : Int) = _; omega]
    omega
theorem cnt_shift {p : Int → Bool} {a T : Int} (h : ∀ z, p (z + T) = p z) : ∀ {n : Nat}, cnt p (a + T) n = cnt p a n
  | 0 => rfl
  | n + 1 => by
    unfold cnt
    rw [cnt_shift h (n := n), show a + T + (n : Int) = a + n + T by omega, h]
theorem cnt_zero {p : Int → Bool} {a : Int} {n : Nat} (h : ∀ z, a ≤ z → z < a + n → p z = false) : cnt p a n = 0 := by
  rw [cnt_congr (q := fun _ => false) h]
  induction n with
  | zero => rfl
  | succ n ih =>
    show cnt _ _ _ + 0 = 0
    rw [ih fun z a b => h z a (by omega)]
    rfl
/-- o is the first number from n on of which p holds -/
def Fst (p : Int → Prop) (n m : Int) : Prop := n ≤ m ∧ p m ∧ ∀ z, n ≤ z → p z → m ≤ z
theorem Fst.uniq {p : Int → Prop} {n m k : Int} (a : Fst p n m) (b : Fst p n k) : m = k := by
  have := a.2.2 k b.1 b.2.1
  have := b.2.2 m a.1 a.2.1
  omega
/-- the least of what leaves one of the rests -/
theorem fst_rests {rs : List Int} {T n m : Int} (hT : 1 ≤ T) (hr : ∀ r ∈ rs, 0 ≤ r ∧ r < T) (hm : m ∈ rs.map fun r => n + (r - n) % T) (hl : ∀ y, y ∈ rs.map (fun r => n + (r - n) % T) → m ≤ y) : Fst (fun z => z % T ∈ rs) n m := by
  have key : ∀ r ∈ rs, (n + (r - n) % T) % T = r := fun r h => by
    have h1 := hr r h
    rw [Int.add_emod_emod, show n + (r - n) = r by omega]
    exact Int.emod_eq_of_lt h1.1 h1.2
  obtain ⟨r, hr1, rfl⟩ := List.mem_map.mp hm
  have p0 := Int.emod_nonneg (r - n) (show T ≠ 0 by omega)
  refine ⟨by omega, ?_, ?_⟩
  · show _ % T ∈ rs
    rw [key r hr1]; exact hr1
  · intro z hz hp
    have h2 := hl _ (List.mem_map.mpr ⟨z % T, hp, rfl⟩)
    have : n + (z % T - n) % T ≤ z := by
      have e : (z % T - n) % T = (z - n) % T := by rw [Int.emod_sub_emod]
      rw [e]
      have h3 := Int.emod_add_mul_ediv (z - n) T
      have h4 : 0 ≤ (z - n) / T := Int.ediv_nonneg (by omega) (by omega)
      have h5 : 0 ≤ T * ((z - n) / T) := Int.mul_nonneg (by omega) h4
      omega
    omega
/-- the sum by which numbers that leave rests are counted -/
def csum (rs : List Int) (T a z : Int) : Int := (rs.map fun r => (z - 1 - r) / T - (a - 1 - r) / T).sum
theorem div_step {T x : Int} (hT : 1 ≤ T) : x / T - (x - 1) / T = if x % T = 0 then 1 else 0 := by
  have h1 := Int.emod_add_mul_ediv x T
  have h2 := Int.emod_nonneg x (show T ≠ 0 by omega)
  have h3 := Int.emod_lt_of_pos x (show 0 < T by omega)
  split
  · rename_i e
    have : (x - 1) / T = x / T - 1 := by
      refine (Int.ediv_emod_unique (r := T - 1) (q := x / T - 1) (by omega) |>.mpr ⟨?_, by omega, by omega⟩).1
      rw [Int.mul_sub, Int.mul_one]; omega
    omega
  · rename_i e
    have : (x - 1) / T = x / T := by
      exact (Int.ediv_emod_unique (r := x % T - 1) (q := x / T) (by omega) |>.mpr ⟨by omega, by omega, by omega⟩).1
    omega
theorem sum_ind : ∀ {rs : List Int} {x : Int}, rs.Nodup → (rs.map fun r => if x = r then (1 : Int) else 0).sum = if x ∈ rs then 1 else 0
  | [], x, _ => by simp
  | r :: rs, x, h => by
    rw [List.nodup_cons] at h
    rw [List.map_cons, List.sum_cons, sum_ind h.2]
    by_cases e : x = r
    · subst e
      simp [h.1]
    · simp [e]
theorem csum_cnt {rs : List Int} {T a : Int} (hT : 1 ≤ T) (hr : ∀ r ∈ rs, 0 ≤ r ∧ r < T) (nd : rs.Nodup) : ∀ {n : Nat}, csum rs T a (a + n) = cnt (fun z => decide (z % T ∈ rs)) a n
  | 0 => by
    unfold csum cnt
    rw [show a + ((0 : Nat) : Int) = a by omega]
    induction rs with
    | nil => rfl
    | cons r rs ih =>
      rw [List.map_cons, List.sum_cons, ih (fun x h => hr x (List.mem_cons_of_mem _ h)) (List.nodup_cons.mp nd).2]
      omega
  | n + 1 => by
    have ih := csum_cnt (a := a) hT hr nd (n := n)
    unfold cnt
    rw [← ih]
    unfold csum
    have e : ∀ (ls : List Int) (f g h : Int → Int), (∀ r ∈ ls, f r = g r + h r) → (ls.map f).sum = (ls.map g).sum + (ls.map h).sum := fun ls f g h => by
      induction ls with
      | nil => intro _; rfl
      | cons x ls ih =>
        intro q
        rw [List.map_cons, List.map_cons, List.map_cons, List.sum_cons, List.sum_cons, List.sum_cons, ih fun r m => q r (List.mem_cons_of_mem _ m), q x (List.mem_cons_self ..)]
        omega
    rw [e rs _ (fun r => (a + n - 1 - r) / T - (a - 1 - r) / T) (fun r => if (a + n) % T = r then (1 : Int) else 0) ?_, sum_ind nd]
    · by_cases q : (a + n) % T ∈ rs <;> simp [q]
    · intro r h
      have h1 := hr r h
      have h2 := div_step (x := a + n - r) hT
      rw [show a + ((n + 1 : Nat) : Int) - 1 - r = a + n - r by omega, show a + (n : Int) - 1 - r = a + n - r - 1 by omega]
      have h3 : ((a + n - r) % T = 0) ↔ (a + n) % T = r := by
        rw [← Int.emod_eq_emod_iff_emod_sub_eq_zero, Int.emod_eq_of_lt h1.1 h1.2]
      by_cases q : (a + n) % T = r
      · rw [if_pos q]; rw [if_pos (h3.mpr q)] at h2; omega
      · rw [if_neg q]; rw [if_neg (fun z => q (h3.mp z))] at h2; omega
/-- p comes again behind T -/
def Per (p : Int → Prop) (T : Int) : Prop := ∀ z k, p (z + T * k) ↔ p z
theorem per_mod {T : Int} {rs : List Int} : Per (fun z => z % T ∈ rs) T := fun z k => by
  show (z + T * k) % T ∈ rs ↔ _
  rw [Int.add_mul_emod_self_left]
/-- g lies between one and the next -/
def Gap (p : Int → Prop) (g : Int) : Prop := ∃ y, p y ∧ Fst p (y + 1) (y + g)
theorem Gap.congr {p q : Int → Prop} (h : ∀ z, p z ↔ q z) {g : Int} : Gap p g ↔ Gap q g := by
  have e : p = q := funext fun z => propext (h z)
  rw [e]
def difs (xs : List Int) : List Int := List.zipWith (fun a b => b - a) xs xs.tail
theorem difs_get {xs : List Int} {i : Nat} {x y : Int} (h1 : xs[i]? = some x) (h2 : xs[i + 1]? = some y) : (difs xs)[i]? = some (y - x) := by
  unfold difs
  rw [List.getElem?_zipWith, h1, List.getElem?_tail, h2]
theorem difs_len (xs : List Int) : (difs xs).length = xs.length - 1 := by
  unfold difs
  rw [List.length_zipWith, List.length_tail]; omega
theorem mem_difs {xs : List Int} {g : Int} : g ∈ difs xs ↔ ∃ (i : Nat) (x y : Int), xs[i]? = some x ∧ xs[i + 1]? = some y ∧ g = y - x := by
  constructor
  · intro h
    obtain ⟨i, hi⟩ := List.getElem?_of_mem h
    have hl : i < (difs xs).length := (List.getElem?_eq_some_iff.mp hi).1
    rw [difs_len] at hl
    have h1 : xs[i]? = some xs[i] := List.getElem?_eq_getElem (by omega)
    have h2 : xs[i + 1]? = some xs[i + 1] := List.getElem?_eq_getElem (by omega)
    have h3 := difs_get h1 h2
    rw [hi] at h3
    exact ⟨i, _, _, h1, h2, Option.some.inj h3⟩
  · rintro ⟨i, x, y, h1, h2, rfl⟩
    exact List.mem_of_getElem? (difs_get h1 h2)
theorem pw_lt {xs : List Int} (h : xs.Pairwise (· < ·)) {i j : Nat} {x y : Int} (hi : xs[i]? = some x) (hj : xs[j]? = some y) (hij : i < j) : x < y := by
  obtain ⟨a, rfl⟩ := List.getElem?_eq_some_iff.mp hi
  obtain ⟨b, rfl⟩ := List.getElem?_eq_some_iff.mp hj
  exact List.pairwise_iff_getElem.mp h i j a b hij
/-- a whole round of numbers -/
structure Rnd (p : Int → Prop) (a T : Int) (zs : List Int) : Prop where
  per : Per p T
  pos : 1 ≤ T
  inc : zs.Pairwise (· < ·)
  mem : ∀ z, z ∈ zs ↔ a ≤ z ∧ z < a + T ∧ p z
/-- a round and the first one of the next -/
def rnd (T : Int) (zs : List Int) : List Int := zs ++ (zs.take 1).map (· + T)
theorem Per.add {p : Int → Prop} {T : Int} (h : Per p T) (z : Int) : p (z + T) ↔ p z := by
  have := h z 1
  rwa [Int.mul_one] at this
theorem Rnd.ne {p : Int → Prop} {a T : Int} {zs : List Int} (R : Rnd p a T zs) : zs = [] ↔ ∀ z, ¬ p z := by
  constructor
  · intro e z hz
    have h0 := Int.emod_nonneg (z - a) (show T ≠ 0 by have := R.pos; omega)
    have h1 := Int.emod_lt_of_pos (z - a) (show 0 < T by have := R.pos; omega)
    have h2 := Int.emod_add_mul_ediv (z - a) T
    have := (R.mem (a + (z - a) % T)).mpr ⟨by omega, by omega, by rw [← R.per _ ((z - a) / T), show a + (z - a) % T + T * ((z - a) / T) = z by omega]; exact hz⟩
    rw [e] at this; exact absurd this (by simp)
  · intro h
    cases zs with
    | nil => rfl
    | cons x xs => exact absurd ((R.mem x).mp (List.mem_cons_self ..)).2.2 (h x)
theorem Rnd.inc2 {p : Int → Prop} {a T : Int} {zs : List Int} (R : Rnd p a T zs) : (rnd T zs).Pairwise (· < ·) := by
  unfold rnd
  rw [List.pairwise_append]
  refine ⟨R.inc, ?_, ?_⟩
  · cases zs with
    | nil => exact List.Pairwise.nil
    | cons x xs => exact List.pairwise_singleton ..
  · intro x hx y hy
    obtain ⟨z, hz, rfl⟩ := List.mem_map.mp hy
    have h1 := (R.mem x).mp hx
    have h2 := (R.mem z).mp (List.mem_of_mem_take hz)
    omega
theorem Rnd.next {p : Int → Prop} {a T : Int} {zs : List Int} (R : Rnd p a T zs) {i : Nat} {x y : Int} (h1 : (rnd T zs)[i]? = some x) (h2 : (rnd T zs)[i + 1]? = some y) : p x ∧ Fst p (x + 1) y := by
  have pw := R.inc2
  cases zs with
  | nil => simp [rnd] at h1
  | cons z0 zs =>
  have hp : ∀ z ∈ rnd T (z0 :: zs), p z := fun z hz => by
    rcases List.mem_append.mp hz with h | h
    · exact ((R.mem z).mp h).2.2
    · obtain ⟨w, hw, rfl⟩ := List.mem_map.mp h
      rw [R.per.add]
      exact ((R.mem w).mp (List.mem_of_mem_take hw)).2.2
  have h0 := (R.mem z0).mp (List.mem_cons_self ..)
  have hfirst : ∀ z ∈ z0 :: zs, z0 ≤ z := fun z hz => by
    rcases List.mem_cons.mp hz with e | e
    · omega
    · have := (List.pairwise_cons.mp R.inc).1 z e; omega
  have comp : ∀ z, p z → z0 ≤ z → z ≤ z0 + T → z ∈ rnd T (z0 :: zs) := fun z hz a1 a2 => by
    by_cases c : z < a + T
    · exact List.mem_append_left _ ((R.mem z).mpr ⟨by omega, c, hz⟩)
    · have : z - T ∈ z0 :: zs := (R.mem (z - T)).mpr ⟨by omega, by omega, by rw [← R.per.add, Int.sub_add_cancel]; exact hz⟩
      have := hfirst _ this
      have e : z = z0 + T := by omega
      subst e
      exact List.mem_append_right _ (by simp)
  have mx := List.mem_of_getElem? h1
  have my := List.mem_of_getElem? h2
  have rng : ∀ z ∈ rnd T (z0 :: zs), z0 ≤ z ∧ z ≤ z0 + T := fun z hz => by
    have Tp := R.pos
    rcases List.mem_append.mp hz with h | h
    · have := (R.mem z).mp h
      have := hfirst z h
      have h5 : z ≤ z0 + T := by
        have : z < a + T := ((R.mem z).mp h).2.1
        omega
      exact ⟨by omega, h5⟩
    · simp at h; omega
  refine ⟨hp x mx, by have := pw_lt pw h1 h2 (Nat.lt_succ_self i); omega, hp y my, fun z hz pz => ?_⟩
  by_cases c : y ≤ z
  · exact c
  · have hm := comp z pz (by have := rng x mx; omega) (by have := rng y my; omega)
    obtain ⟨j, hj⟩ := List.getElem?_of_mem hm
    rcases Nat.lt_trichotomy j i with q | q | q
    · have := pw_lt pw hj h1 q; omega
    · subst q; rw [h1] at hj; cases hj; omega
    · by_cases e : j = i + 1
      · subst e; rw [h2] at hj; cases hj; omega
      · have := pw_lt pw h2 hj (by omega); omega
theorem Rnd.gap {p : Int → Prop} {a T : Int} {zs : List Int} (R : Rnd p a T zs) (g : Int) : g ∈ difs (rnd T zs) ↔ Gap p g := by
  rw [mem_difs]
  constructor
  · rintro ⟨i, x, y, h1, h2, rfl⟩
    obtain ⟨a1, a2⟩ := R.next h1 h2
    exact ⟨x, a1, by rw [show x + (y - x) = y by omega]; exact a2⟩
  · rintro ⟨y, hy, hF⟩
    have h0 := Int.emod_nonneg (y - a) (show T ≠ 0 by have := R.pos; omega)
    have h1 := Int.emod_lt_of_pos (y - a) (show 0 < T by have := R.pos; omega)
    have h2 := Int.emod_add_mul_ediv (y - a) T
    generalize hk : (y - a) / T = k at h2
    generalize hr : (y - a) % T = r at h0 h1 h2
    have sh : ∀ z, p (z + T * k) ↔ p z := fun z => R.per z k
    have m : a + r ∈ zs := (R.mem _).mpr ⟨by omega, by omega, by rw [← sh, show a + r + T * k = y by omega]; exact hy⟩
    obtain ⟨i, hi⟩ := List.getElem?_of_mem m
    have hil := (List.getElem?_eq_some_iff.mp hi).1
    have r1 : (rnd T zs)[i]? = some (a + r) := by
      unfold rnd
      rw [List.getElem?_append_left hil]; exact hi
    have hl : i + 1 < (rnd T zs).length := by
      unfold rnd
      cases zs with
      | nil => simp at hil
      | cons x xs => simp at hil ⊢; omega
    have r2 : (rnd T zs)[i + 1]? = some (rnd T zs)[i + 1] := List.getElem?_eq_getElem hl
    have nx := (R.next r1 r2).2
    have F2 : Fst p (a + r + 1) (a + r + g) := by
      refine ⟨by have := hF.1; omega, ?_, fun z hz pz => ?_⟩
      · rw [← sh, show a + r + g + T * k = y + g by omega]; exact hF.2.1
      · have := hF.2.2 (z + T * k) (by omega) ((sh z).mpr pz)
        omega
    have e := nx.uniq F2
    exact ⟨i, _, _, r1, r2, by omega⟩
theorem Rnd.flt {p : Int → Bool} {a T : Int} (h : Per (fun z => p z = true) T) (hT : 1 ≤ T) : Rnd (fun z => p z = true) a T (flt p a T.toNat) :=
  ⟨h, hT, flt_inc, fun z => by rw [mem_flt]; constructor <;> rintro ⟨x, y, q⟩ <;> exact ⟨x, by omega, q⟩⟩
/-! ### at most three lengths -/
theorem least_of {P : Nat → Prop} (h : ∃ n, P n) : ∃ n, P n ∧ ∀ m, P m → n ≤ m := by
  obtain ⟨n, hn⟩ := h
  induction n using Nat.strongRecOn with
  | _ n ih =>
    by_cases c : ∃ m, m < n ∧ P m
    · obtain ⟨m, a, b⟩ := c
      exact ih m a b
    · exact ⟨n, hn, fun m hm => by
        rcases Nat.lt_or_ge m n with q | q
        · exact absurd ⟨m, q, hm⟩ c
        · exact q⟩
theorem small_mul {W k b : Int} (h1 : -W < W * k) (h2 : W * k < W) (hW : 0 < W) : k = 0 := by
  rcases Int.lt_trichotomy k 0 with q | q | q
  · have : W * k ≤ W * (-1) := Int.mul_le_mul_of_nonneg_left (by omega) (by omega)
    omega
  · exact q
  · have : W * 1 ≤ W * k := Int.mul_le_mul_of_nonneg_left (by omega) (by omega)
    omega
theorem three {S W b c : Int} (hb : 1 ≤ b) (hW : b ≤ W) : ∃ α β : Int, 1 ≤ α ∧ 1 ≤ β ∧ ∀ g, Gap (fun y => (S * y + c) % W < b) g → g = α ∨ g = β ∨ g = α + β := by
  obtain ⟨α, ⟨a1, δ, kα, d0, d1, hα⟩, amin⟩ := least_of (P := fun n => 1 ≤ n ∧ ∃ d k : Int, 0 ≤ d ∧ d < b ∧ S * (n : Int) = d + W * k) ⟨W.toNat, by omega, 0, S, by omega, by omega, by rw [Int.toNat_of_nonneg (by omega), Int.zero_add, Int.mul_comm]⟩
  obtain ⟨β, ⟨b1, ε, kβ, e0, e1, hβ⟩, bmin⟩ := least_of (P := fun n => 1 ≤ n ∧ ∃ d k : Int, 0 ≤ d ∧ d < b ∧ S * (n : Int) = -d + W * k) ⟨W.toNat, by omega, 0, S, by omega, by omega, by rw [Int.toNat_of_nonneg (by omega), Int.mul_comm]; omega⟩
  refine ⟨α, β, by omega, by omega, ?_⟩
  rintro g ⟨y, hy, hF⟩
  have pos : ∀ z, (∃ x k, 0 ≤ x ∧ x < b ∧ S * z + c = x + W * k) → (S * z + c) % W < b := by
    rintro z ⟨x, k, x0, x1, e⟩
    rw [e, Int.add_mul_emod_self_left, Int.emod_eq_of_lt x0 (by omega)]; exact x1
  have neg : ∀ z, (S * z + c) % W < b → ∃ x k, 0 ≤ x ∧ x < b ∧ S * z + c = x + W * k := fun z h =>
    ⟨(S * z + c) % W, (S * z + c) / W, Int.emod_nonneg _ (by omega), h, (Int.emod_add_mul_ediv _ _).symm⟩
  obtain ⟨x, k, x0, x1, ex⟩ := neg y hy
  obtain ⟨x', k', x0', x1', ex'⟩ := neg (y + g) hF.2.1
  have g1 : 1 ≤ g := by have := hF.1; omega
  rw [Int.mul_add] at ex'
  have lim : ∀ n : Int, 1 ≤ n → (∃ x k, 0 ≤ x ∧ x < b ∧ S * (y + n) + c = x + W * k) → g ≤ n := fun n hn h => by
    have := hF.2.2 (y + n) (by omega) (pos _ h)
    omega
  obtain ⟨G, rfl⟩ : ∃ G : Nat, g = G := ⟨g.toNat, by omega⟩
  have A : x + δ < b → (G : Int) ≤ α := fun h => lim α (by omega) ⟨x + δ, k + kα, by omega, h, by rw [Int.mul_add, Int.mul_add]; omega⟩
  have B : ε ≤ x → (G : Int) ≤ β := fun h => lim β (by omega) ⟨x - ε, k + kβ, by omega, by omega, by rw [Int.mul_add, Int.mul_add]; omega⟩
  have C : b ≤ x + δ → x < ε → (G : Int) ≤ α + β := fun h1 h2 => lim (α + β) (by omega) ⟨x + δ - ε, k + (kα + kβ), by omega, by omega, by rw [Int.mul_add, Int.mul_add, Int.mul_add, Int.mul_add]; omega⟩
  have sub : ∀ m : Nat, m < G → S * ((G - m : Nat) : Int) = S * (G : Int) - S * (m : Int) := fun m h => by
    rw [← Int.mul_sub]; congr 1; omega
  by_cases c1 : x ≤ x'
  · have h1 := amin G ⟨by omega, x' - x, k' - k, by omega, by omega, by rw [Int.mul_sub]; omega⟩
    by_cases c2 : x + δ < b
    · have := A c2; left; omega
    · by_cases c3 : α = G
      · exfalso
        subst c3
        have e : W * (kα - (k' - k)) = (x' - x) - δ := by rw [Int.mul_sub, Int.mul_sub]; omega
        have := small_mul (W := W) (k := kα - (k' - k)) (b := b) (by omega) (by omega) (by omega)
        rw [this] at e
        omega
      · have h2 := bmin (G - α) ⟨by omega, δ - (x' - x), k' - k - kα, by omega, by omega, by rw [sub α (by omega), Int.mul_sub, Int.mul_sub]; omega⟩
        by_cases c4 : ε ≤ x
        · have := B c4; omega
        · have := C (by omega) (by omega); right; right; omega
  · have h1 := bmin G ⟨by omega, x - x', k' - k, by omega, by omega, by rw [Int.mul_sub]; omega⟩
    by_cases c2 : ε ≤ x
    · have := B c2; right; left; omega
    · by_cases c3 : β = G
      · exfalso
        subst c3
        have e : W * (kβ - (k' - k)) = ε - (x - x') := by rw [Int.mul_sub, Int.mul_sub]; omega
        have := small_mul (W := W) (k := kβ - (k' - k)) (b := b) (by omega) (by omega) (by omega)
        rw [this] at e
        omega
      · have h2 := amin (G - β) ⟨by omega, ε - (x - x'), k' - k - kβ, by omega, by omega, by rw [sub β (by omega), Int.mul_sub, Int.mul_sub]; omega⟩
        by_cases c4 : x + δ < b
        · have := A c4; omega
        · have := C (by omega) (by omega); right; right; omega
/-- a rising list out of three numbers -/
theorem three_list {α β : Int} (ha : 1 ≤ α) (hb : 1 ≤ β) {L : List Int} (hL : L.Pairwise (· < ·)) (hm : ∀ g ∈ L, g = α ∨ g = β ∨ g = α + β) : L.length ≤ 3 ∧ ∀ x y z, L = [x, y, z] → z = x + y := by
  match L, hL, hm with
  | [], _, _ => exact ⟨by simp, by simp⟩
  | [_], _, _ => exact ⟨by simp, by simp⟩
  | [_, _], _, _ => exact ⟨by simp, by simp⟩
  | [x, y, z], h, m =>
    refine ⟨by simp, ?_⟩
    rintro x' y' z' e
    cases e
    simp at h m
    omega
  | x :: y :: z :: w :: r, h, m =>
    exfalso
    simp at h m
    omega
end Ly
set_option Elab.async false
set_option linter.all false
set_option maxHeartbeats 4000000
/-! lands alike, and the first year that parts them -/
namespace Ly
theorem bezout : ∀ (a b : Nat), ∃ x y : Int, (a : Int) * x + (b : Int) * y = (Nat.gcd a b : Nat) := by
  intro a b
  induction a, b using Nat.gcd.induction with
  | H0 n => exact ⟨0, 1, by simp⟩
  | H1 m n hm ih =>
    obtain ⟨x, y, h⟩ := ih
    refine ⟨y - (n / m : Nat) * x, x, ?_⟩
    rw [Nat.gcd_rec m n, ← h]
    have e : (n : Int) = (n % m : Nat) + (m : Int) * (n / m : Nat) := by
      have := Nat.mod_add_div n m
      exact_mod_cast this.symm
    have e2 : (n : Int) * x = (n % m : Nat) * x + (m : Int) * ((n / m : Nat) * x) := by
      rw [← Int.mul_assoc, ← Int.add_mul, ← e]
    rw [Int.mul_sub, e2]
    omega
theorem inv_of {a b : Int} (ha : 0 ≤ a) (hb : 0 ≤ b) (h : gcdI a b = 1) : ∃ x y : Int, a * x + b * y = 1 := by
  obtain ⟨x, y, e⟩ := bezout a.toNat b.toNat
  rw [Int.toNat_of_nonneg ha, Int.toNat_of_nonneg hb] at e
  exact ⟨x, y, by rw [e]; exact h⟩
/-- the least form of a land: its numbers -/
def lfT (t b : Int) : Int := t / gcdI b t
def lfB (t b : Int) : Int := b / gcdI b t
def lfS (t b s : Int) : Int := s / gcdI b t
structure Lf (d t b s t' b' s' : Int) : Prop where
  g : ∃ g, 1 ≤ g ∧ b = g * b' ∧ t = g * t' ∧ s' = s / g
  t0 : 0 ≤ t' ∧ t' < b'
  b0 : 1 ≤ b' ∧ b' ≤ 60
  one : ∃ x y, b' * x + t' * y = 1
theorem lf_of {d t b s : Int} (h : LandOk d t b s) : Lf d t b s (lfT t b) (lfB t b) (lfS t b s) := by
  have hb := h.b
  have ht := h.t
  have g1 : 1 ≤ gcdI b t := gcdI_pos (by omega)
  have db := gcdI_dvd_l (a := b) (b := t) (by omega)
  have dt := gcdI_dvd_r (a := b) (b := t) (by omega)
  have eb : b = gcdI b t * (b / gcdI b t) := (Int.mul_ediv_cancel' db).symm
  have et : t = gcdI b t * (t / gcdI b t) := (Int.mul_ediv_cancel' dt).symm
  have gd := gcdI_div (a := b) (b := t) (by omega) (by omega)
  unfold lfT lfB lfS
  generalize hg : gcdI b t = g at *
  have t0 : 0 ≤ t / g := Int.ediv_nonneg ht.1 (by omega)
  have b0 : 0 ≤ b / g := Int.ediv_nonneg (by omega) (by omega)
  have lt : t / g < b / g := by
    rcases Int.lt_or_le (t / g) (b / g) with q | q
    · exact q
    · have : g * (b / g) ≤ g * (t / g) := Int.mul_le_mul_of_nonneg_left q (by omega)
      omega
  have le : b / g ≤ 60 := by
    have : 1 * (b / g) ≤ g * (b / g) := Int.mul_le_mul_of_nonneg_right g1 b0
    omega
  exact ⟨⟨g, g1, eb, et, rfl⟩, ⟨t0, lt⟩, ⟨by omega, le⟩, inv_of b0 t0 gd⟩
/-- a year's first day by the least form -/
theorem Lf.day {d t b s t' b' s' : Int} (L : Lf d t b s t' b' s') (y : Int) : fday d t b s y = ((d * b' + t') * y + s') / b' := by
  obtain ⟨g, g1, eb, et, es⟩ := L.g
  unfold fday
  subst eb et es
  rw [← Int.ediv_ediv_of_nonneg (by omega)]
  congr 1
  rw [show (d * (g * b') + g * t') * y + s = s + g * ((d * b' + t') * y) by
    rw [← Int.mul_assoc d, Int.mul_comm d g, Int.mul_assoc g d, ← Int.mul_add, Int.mul_assoc]; omega]
  rw [Int.add_mul_ediv_left _ _ (by omega)]
  omega
theorem Lf.step_inv {d t b s t' b' s' : Int} (L : Lf d t b s t' b' s') : ∃ x y, b' * x + (d * b' + t') * y = 1 := by
  obtain ⟨x, y, e⟩ := L.one
  refine ⟨x - d * y, y, ?_⟩
  rw [Int.mul_sub, Int.add_mul, show b' * (d * y) = d * b' * y by rw [← Int.mul_assoc, Int.mul_comm b' d]]
  omega
theorem cross {S1 b1 S2 b2 : Int} (h1 : 1 ≤ b1) (h2 : 1 ≤ b2) (i1 : ∃ x y, b1 * x + S1 * y = 1) (i2 : ∃ x y, b2 * x + S2 * y = 1) (e : S1 * b2 = S2 * b1) : b1 = b2 ∧ S1 = S2 := by
  have d1 : b1 ∣ b2 := by
    obtain ⟨x, y, q⟩ := i1
    refine ⟨b2 * x + S2 * y, ?_⟩
    have : b2 * (b1 * x + S1 * y) = b2 := by rw [q, Int.mul_one]
    refine this.symm.trans ?_
    rw [Int.mul_add, Int.mul_add, ← Int.mul_assoc, ← Int.mul_assoc, ← Int.mul_assoc, ← Int.mul_assoc, Int.mul_comm b2 S1, e, Int.mul_comm b2 b1, Int.mul_comm S2 b1]
  have d2 : b2 ∣ b1 := by
    obtain ⟨x, y, q⟩ := i2
    refine ⟨b1 * x + S1 * y, ?_⟩
    have : b1 * (b2 * x + S2 * y) = b1 := by rw [q, Int.mul_one]
    refine this.symm.trans ?_
    rw [Int.mul_add, Int.mul_add, ← Int.mul_assoc, ← Int.mul_assoc, ← Int.mul_assoc, ← Int.mul_assoc, Int.mul_comm b1 S2, ← e, Int.mul_comm b1 b2, Int.mul_comm S1 b2]
  have l1 := Int.le_of_dvd (by omega) d1
  have l2 := Int.le_of_dvd (by omega) d2
  have eb : b1 = b2 := by omega
  subst eb
  exact ⟨rfl, Int.eq_of_mul_eq_mul_right (by omega) e⟩
/-- slopes that differ part by year 7200 -/
theorem part_slope {S1 b1 s1 S2 b2 s2 : Int} (h1 : 1 ≤ b1 ∧ b1 ≤ 60) (h2 : 1 ≤ b2 ∧ b2 ≤ 60) (lt : S2 * b1 < S1 * b2) (e0 : s1 / b1 = s2 / b2) (eY : (S1 * 7200 + s1) / b1 = (S2 * 7200 + s2) / b2) : False := by
  have bb : b1 * b2 ≤ 60 * 60 := Int.mul_le_mul h1.2 h2.2 (by omega) (by omega)
  generalize hm : s1 / b1 = m at e0
  generalize hn : (S1 * 7200 + s1) / b1 = n at eY
  have a1 := Int.emod_add_mul_ediv s1 b1
  have a2 := Int.emod_add_mul_ediv s2 b2
  have a3 := Int.emod_add_mul_ediv (S1 * 7200 + s1) b1
  have a4 := Int.emod_add_mul_ediv (S2 * 7200 + s2) b2
  have r1 := Int.emod_nonneg s1 (show b1 ≠ 0 by omega)
  have r2 := Int.emod_lt_of_pos s2 (show 0 < b2 by omega)
  have r3 := Int.emod_lt_of_pos (S1 * 7200 + s1) (show 0 < b1 by omega)
  have r4 := Int.emod_nonneg (S2 * 7200 + s2) (show b2 ≠ 0 by omega)
  rw [hm] at a1
  rw [← e0] at a2
  rw [hn] at a3
  rw [← eY] at a4
  -- b2 * s1 ≥ b1 b2 m ; b1 * s2 ≤ b1 b2 m + b1 b2 - b1
  have p1 : b2 * (b1 * m) ≤ b2 * s1 := Int.mul_le_mul_of_nonneg_left (by omega) (by omega)
  have p2 : b1 * s2 ≤ b1 * (b2 * m + b2) := Int.mul_le_mul_of_nonneg_left (by omega) (by omega)
  have p3 : b2 * (S1 * 7200 + s1) ≤ b2 * (b1 * n + b1 - 1) := Int.mul_le_mul_of_nonneg_left (by omega) (by omega)
  have p4 : b1 * (b2 * n) ≤ b1 * (S2 * 7200 + s2) := Int.mul_le_mul_of_nonneg_left (by omega) (by omega)
  have q1 : b2 * (b1 * m) = b1 * (b2 * m) := by rw [← Int.mul_assoc, ← Int.mul_assoc, Int.mul_comm b2 b1]
  have q2 : b2 * (b1 * n) = b1 * (b2 * n) := by rw [← Int.mul_assoc, ← Int.mul_assoc, Int.mul_comm b2 b1]
  have q3 : b2 * b1 = b1 * b2 := Int.mul_comm ..
  have q4 : b2 * (S1 * 7200) = (S1 * b2) * 7200 := by rw [← Int.mul_assoc, Int.mul_comm b2 S1]
  have q5 : b1 * (S2 * 7200) = (S2 * b1) * 7200 := by rw [← Int.mul_assoc, Int.mul_comm b1 S2]
  rw [Int.mul_add] at p2 p4
  rw [Int.mul_add, Int.mul_sub, Int.mul_add, Int.mul_one] at p3
  omega
/-- shifts that differ part by year 59 -/
theorem part_shift {S b s1 s2 : Int} (hb : 1 ≤ b ∧ b ≤ 60) (i : ∃ x y, b * x + S * y = 1) (lt : s1 < s2) : ∃ y, 0 ≤ y ∧ y < b ∧ (S * y + s1) / b ≠ (S * y + s2) / b := by
  obtain ⟨x, u, e⟩ := i
  refine ⟨(-s2 * u) % b, Int.emod_nonneg _ (by omega), Int.emod_lt_of_pos _ (by omega), ?_⟩
  have d : b ∣ S * ((-s2 * u) % b) + s2 := by
    have h := Int.emod_add_mul_ediv (-s2 * u) b
    have h2 : (-s2 * u) % b = -s2 * u - b * ((-s2 * u) / b) := by omega
    rw [h2]
    refine ⟨s2 * x - S * ((-s2 * u) / b), ?_⟩
    have h3 : s2 * (b * x + S * u) = s2 := by rw [e, Int.mul_one]
    rw [Int.mul_sub, Int.mul_sub]
    have h4 : S * (-s2 * u) = -(s2 * (S * u)) := by
      rw [← Int.mul_assoc, Int.mul_neg, Int.neg_mul, ← Int.mul_assoc s2, Int.mul_comm S s2]
    have h5 : S * (b * (-s2 * u / b)) = b * (S * (-s2 * u / b)) := by rw [← Int.mul_assoc, ← Int.mul_assoc, Int.mul_comm S b]
    have h6 : b * (s2 * x) = s2 * (b * x) := by rw [← Int.mul_assoc, ← Int.mul_assoc, Int.mul_comm b s2]
    rw [Int.mul_add] at h3
    omega
  generalize S * ((-s2 * u) % b) = A at d ⊢
  obtain ⟨k, hk⟩ := d
  have e2 : (A + s2) / b = k := by rw [hk, Int.mul_ediv_cancel_left _ (by omega)]
  have e1 : (A + s1) / b < k := by
    rw [Int.ediv_lt_iff_lt_mul (by omega), Int.mul_comm k b]
    omega
  omega
theorem parted {d t b s d2 t2 b2 s2 : Int} (h : LandOk d t b s) (h2 : LandOk d2 t2 b2 s2) (ne : ¬ (d = d2 ∧ lfT t b = lfT t2 b2 ∧ lfB t b = lfB t2 b2 ∧ lfS t b s = lfS t2 b2 s2)) :
    ∃ y, 0 ≤ y ∧ y ≤ 7200 ∧ fday d t b s y ≠ fday d2 t2 b2 s2 y := by
  have L := lf_of h
  have L2 := lf_of h2
  have i1 := L.step_inv
  have i2 := L2.step_inv
  generalize lfT t b = T1 at *
  generalize lfB t b = B1 at *
  generalize lfS t b s = S1 at *
  generalize lfT t2 b2 = T2 at *
  generalize lfB t2 b2 = B2 at *
  generalize lfS t2 b2 s2 = S2 at *
  by_cases c0 : fday d t b s 0 = fday d2 t2 b2 s2 0
  · by_cases cY : fday d t b s 7200 = fday d2 t2 b2 s2 7200
    · rw [L.day, L2.day, Int.mul_zero, Int.mul_zero, Int.zero_add, Int.zero_add] at c0
      rw [L.day, L2.day] at cY
      rcases Int.lt_trichotomy ((d * B1 + T1) * B2) ((d2 * B2 + T2) * B1) with q | q | q
      · exact (part_slope L2.b0 L.b0 q c0.symm cY.symm).elim
      · obtain ⟨eb, es⟩ := cross L.b0.1 L2.b0.1 i1 i2 q
        subst eb
        have t1 := L.t0
        have t2' := L2.t0
        have bp := L.b0
        have ed : d = d2 := by
          have z1 : (d * B1 + T1) / B1 = d := by rw [Int.add_comm, Int.add_mul_ediv_right _ _ (by omega), Int.ediv_eq_zero_of_lt t1.1 t1.2]; omega
          have z2 : (d2 * B1 + T2) / B1 = d2 := by rw [Int.add_comm, Int.add_mul_ediv_right _ _ (by omega), Int.ediv_eq_zero_of_lt t2'.1 t2'.2]; omega
          rw [← z1, ← z2, es]
        subst ed
        have et : T1 = T2 := by omega
        subst et
        have nS : S1 ≠ S2 := fun z => ne ⟨rfl, rfl, rfl, z⟩
        rcases Int.lt_or_lt_of_ne nS with w | w
        · obtain ⟨y, y0, y1, hy⟩ := part_shift L.b0 i1 w
          exact ⟨y, y0, by omega, by rw [L.day, L2.day]; exact hy⟩
        · obtain ⟨y, y0, y1, hy⟩ := part_shift L.b0 i1 w
          exact ⟨y, y0, by omega, by rw [L.day, L2.day]; exact fun z => hy z.symm⟩
      · exact (part_slope L.b0 L2.b0 q c0 cY).elim
    · exact ⟨7200, by decide, by decide, cY⟩
  · exact ⟨0, by decide, by decide, c0⟩
theorem alike_all {d t b s d2 t2 b2 s2 : Int} (h : LandOk d t b s) (h2 : LandOk d2 t2 b2 s2) (e : d = d2 ∧ lfT t b = lfT t2 b2 ∧ lfB t b = lfB t2 b2 ∧ lfS t b s = lfS t2 b2 s2) (y : Int) : fday d t b s y = fday d2 t2 b2 s2 y := by
  rw [(lf_of h).day, (lf_of h2).day, e.1, e.2.1, e.2.2.1, e.2.2.2]
end Ly
set_option Elab.async false
set_option linter.all false
set_option maxHeartbeats 4000000
/-! rounds of years: plain mathematics -/
namespace Ly
/-- behind how many years all comes again -/
def turnOf (d t b wk : Int) : Int := wk * b / gcdI (d * b + t) (wk * b)
theorem turn_facts {d t b s wk : Int} (h : LandOk d t b s) (hw : 1 ≤ wk ∧ wk ≤ 20) : 1 ≤ turnOf d t b wk ∧ turnOf d t b wk ≤ 1200 ∧ ∃ g r, 1 ≤ g ∧ d * b + t = g * r ∧ wk * b = g * turnOf d t b wk := by
  have hbb := h.b
  have hst := step_pos h
  have wb : 1 * 1 ≤ wk * b := Int.mul_le_mul hw.1 hbb.1 (by decide) (by omega)
  have wb2 : wk * b ≤ 20 * 60 := Int.mul_le_mul hw.2 hbb.2 (by omega) (by omega)
  have g1 : 1 ≤ gcdI (d * b + t) (wk * b) := gcdI_pos (by omega)
  have gS := gcdI_dvd_l (a := d * b + t) (b := wk * b) (by omega)
  have gW := gcdI_dvd_r (a := d * b + t) (b := wk * b) (by omega)
  unfold turnOf
  generalize gcdI (d * b + t) (wk * b) = g at g1 gS gW ⊢
  have e := (Int.mul_ediv_cancel' gW).symm
  refine ⟨?_, (ediv_abs g1 (B := 1200) (by omega) (by omega) (by omega)).2, g, (d * b + t) / g, g1, (Int.mul_ediv_cancel' gS).symm, e⟩
  rcases Int.lt_or_le (wk * b / g) 1 with z | z
  · have : g * (wk * b / g) ≤ g * 0 := Int.mul_le_mul_of_nonneg_left (by omega) (by omega)
    omega
  · exact z
theorem per_has {d t b s pl wk nm : Int} (h : LandOk d t b s) (hw : 1 ≤ wk ∧ wk ≤ 20) : Per (has d t b s pl wk nm) (turnOf d t b wk) := fun z k => by
  obtain ⟨_, _, g, r, g1, eS, eW⟩ := turn_facts h hw
  have hb := h.b
  unfold has fday
  have e : (d * b + t) * (z + turnOf d t b wk * k) + s = (d * b + t) * z + s + b * (wk * (r * k)) := by
    have e1 : (d * b + t) * (turnOf d t b wk * k) = b * (wk * (r * k)) := by
      rw [eS, show g * r * (turnOf d t b wk * k) = (g * turnOf d t b wk) * (r * k) by
        rw [Int.mul_assoc, Int.mul_assoc, ← Int.mul_assoc r, Int.mul_comm r, Int.mul_assoc]]
      rw [← eW, Int.mul_comm wk b, Int.mul_assoc]
    rw [Int.mul_add, e1]; omega
  rw [e, Int.add_mul_ediv_left _ _ (by omega), show ((d * b + t) * z + s) / b + wk * (r * k) + pl = ((d * b + t) * z + s) / b + pl + wk * (r * k) by omega, Int.add_mul_emod_self_left]
abbrev hasB (d t b s pl wk nm : Int) : Int → Bool := fun x => decide (has d t b s pl wk nm x)
theorem per_hasB {d t b s pl wk nm : Int} (h : LandOk d t b s) (hw : 1 ≤ wk ∧ wk ≤ 20) : Per (fun z => hasB d t b s pl wk nm z = true) (turnOf d t b wk) := fun z k => by
  have := per_has (pl := pl) (nm := nm) h hw z k
  simp only [decide_eq_true_iff]
  exact this
theorem rnd_has {d t b s pl wk nm : Int} (h : LandOk d t b s) (hw : 1 ≤ wk ∧ wk ≤ 20) (a : Int) : Rnd (has d t b s pl wk nm) a (turnOf d t b wk) (flt (hasB d t b s pl wk nm) a (turnOf d t b wk).toNat) :=
  ⟨per_has h hw, (turn_facts h hw).1, flt_inc, fun z => by
    have := (turn_facts h hw).1
    rw [mem_flt, decide_eq_true_iff]
    constructor <;> rintro ⟨x, y, q⟩ <;> exact ⟨x, by omega, q⟩⟩
theorem Rnd.fst {p : Int → Prop} {a T m : Int} {zs r : List Int} (R : Rnd p a T zs) (e : zs = m :: r) : Fst p a m := by
  subst e
  have h := (R.mem m).mp (List.mem_cons_self ..)
  refine ⟨h.1, h.2.2, fun z hz pz => ?_⟩
  by_cases c : z < a + T
  · rcases List.mem_cons.mp ((R.mem z).mpr ⟨hz, c, pz⟩) with e | e
    · omega
    · have := (List.pairwise_cons.mp R.inc).1 z e; omega
  · omega
theorem flt_ge {p : Int → Bool} {a k : Int} {n : Nat} (h0 : 0 ≤ k) (h1 : k ≤ n) : (flt p a n).filter (fun z => decide (z ≥ a + k)) = flt p (a + k) ((n : Int) - k).toNat := by
  refine pw_ext (flt_inc.filter _) flt_inc fun z => ?_
  rw [List.mem_filter, mem_flt, mem_flt, decide_eq_true_iff]
  constructor
  · rintro ⟨⟨x, y, q⟩, w⟩
    exact ⟨w, by omega, q⟩
  · rintro ⟨x, y, q⟩
    exact ⟨⟨by omega, by omega, q⟩, x⟩
theorem rnd_later {p : Int → Bool} {a T k m : Int} {r : List Int} (h : Per (fun z => p z = true) T) (hT : 1 ≤ T) (h0 : 0 ≤ k) (h1 : k ≤ T) (e : flt p (a + k) (T - k).toNat = []) (e2 : flt p a T.toNat = m :: r) : Fst (fun z => p z = true) (a + k) (m + T) := by
  have R := Rnd.flt (a := a) h hT
  have F := R.fst e2
  have hm := (R.mem m).mp (by rw [e2]; exact List.mem_cons_self ..)
  refine ⟨by omega, (h.add m).mpr hm.2.2, fun z hz pz => ?_⟩
  by_cases c : z < a + T
  · have : z ∈ flt p (a + k) (T - k).toNat := mem_flt.mpr ⟨hz, by omega, pz⟩
    rw [e] at this; exact absurd this (by simp)
  · have := F.2.2 (z - T) (by omega) ((h.add _).mp (by rw [Int.sub_add_cancel]; exact pz))
    omega
theorem csum_turns {T a k : Int} (hT : 1 ≤ T) : ∀ rs : List Int, csum rs T a (a + T * k) = k * rs.length
  | [] => by simp [csum]
  | r :: rs => by
    have ih := csum_turns (a := a) (k := k) hT rs
    unfold csum at ih ⊢
    rw [List.map_cons, List.sum_cons, ih, show a + T * k - 1 - r = a - 1 - r + T * k by omega, Int.add_mul_ediv_left _ _ (by omega), List.length_cons]
    have : k * ((rs.length + 1 : Nat) : Int) = k * (rs.length : Int) + k := by rw [show ((rs.length + 1 : Nat) : Int) = (rs.length : Int) + 1 by omega, Int.mul_add, Int.mul_one]
    omega
theorem cnt_turns {rs : List Int} {T a k : Int} (hT : 1 ≤ T) (hk : 0 ≤ k) (hr : ∀ r ∈ rs, 0 ≤ r ∧ r < T) (nd : rs.Nodup) : cnt (fun z => decide (z % T ∈ rs)) a (T * k).toNat = k * rs.length := by
  have h0 : 0 ≤ T * k := Int.mul_nonneg (by omega) hk
  rw [← csum_cnt hT hr nd, show ((T * k).toNat : Int) = T * k by omega]
  exact csum_turns hT rs
theorem yso_ex {d t b s pl wk nm : Int} (h : LandOk d t b s) (hw : 1 ≤ wk ∧ wk ≤ 20) (hn : 0 ≤ nm ∧ nm < wk) : ∃ ys, Yso d t b s pl wk nm ys (turnOf d t b wk) := by
  have hbb := h.b
  have hst := step_pos h
  have wb : 1 * 1 ≤ wk * b := Int.mul_le_mul hw.1 hbb.1 (by decide) (by omega)
  have gd := gcdI_div (a := d * b + t) (b := wk * b) (by omega) (by omega)
  have g1 : 1 ≤ gcdI (d * b + t) (wk * b) := gcdI_pos (by omega)
  obtain ⟨x, y, e⟩ := inv_of (Int.ediv_nonneg (by omega) (by omega)) (Int.ediv_nonneg (by omega) (by omega)) gd
  refine ⟨(fnd b s pl nm (gcdI (d * b + t) (wk * b)) x (wk * b / gcdI (d * b + t) (wk * b)) b.toNat).mergeSort (fun a b => decide (a ≤ b)), yso_of h hw.1 hn.1 hn.2 rfl rfl (bk := x) ⟨-y, ?_⟩ (List.mergeSort_perm _ _) ?_⟩
  · rw [Int.mul_neg]; omega
  · refine (List.pairwise_mergeSort (le := fun a b => decide (a ≤ b)) (fun a b c h1 h2 => ?_) (fun a b => ?_) _).imp fun h => of_decide_eq_true h
    · exact decide_eq_true (by have := of_decide_eq_true h1; have := of_decide_eq_true h2; omega)
    · rw [Bool.or_eq_true, decide_eq_true_iff, decide_eq_true_iff]; omega
theorem flt_has_len {d t b s pl wk nm : Int} (h : LandOk d t b s) (hw : 1 ≤ wk ∧ wk ≤ 20) (hn : 0 ≤ nm ∧ nm < wk) (a : Int) : (flt (hasB d t b s pl wk nm) a (turnOf d t b wk).toNat).length ≤ 60 := by
  obtain ⟨ys, Y⟩ := yso_ex (pl := pl) h hw hn
  have tp := Y.tpos
  have e := cnt_flt (p := hasB d t b s pl wk nm) (a := a) (n := (turnOf d t b wk).toNat)
  rw [cnt_congr (q := fun z => decide (z % turnOf d t b wk ∈ ys)) fun x _ _ => decide_eq_decide.mpr (Y.good x)] at e
  have e2 := cnt_turns (a := a) (k := 1) tp (by decide) Y.rng (Y.inc.imp fun h => by omega)
  rw [Int.mul_one] at e2
  have := Y.len
  omega
end Ly
set_option Elab.async false
set_option linter.all false
set_option maxHeartbeats 4000000
/-! measures that bar; all days of the week together; three lengths -/
namespace Ly
theorem sum_add {α : Type} : ∀ (ls : List α) (f g h : α → Int), (∀ r ∈ ls, f r = g r + h r) → (ls.map f).sum = (ls.map g).sum + (ls.map h).sum
  | [], f, g, h, _ => rfl
  | x :: ls, f, g, h, q => by
    rw [List.map_cons, List.map_cons, List.map_cons, List.sum_cons, List.sum_cons, List.sum_cons, sum_add ls f g h fun r m => q r (List.mem_cons_of_mem _ m), q x (List.mem_cons_self ..)]
    omega
theorem sum_one {m : Int} : ∀ {n : Nat}, 0 ≤ m → ((List.range n).map fun k : Nat => if m = (k : Int) then (1 : Int) else 0).sum = if m < n then 1 else 0
  | 0, h => by rw [if_neg (by omega)]; rfl
  | n + 1, h => by
    rw [List.range_succ, List.map_append, List.sum_append, sum_one h]
    simp only [List.map_cons, List.map_nil, List.sum_cons, List.sum_nil]
    by_cases e : m < (n : Int)
    · rw [if_pos e, if_neg (by omega), if_pos (by omega)]; rfl
    · by_cases e2 : m = (n : Int)
      · rw [if_neg e, if_pos e2, if_pos (by omega)]; rfl
      · rw [if_neg e, if_neg e2, if_neg (by omega)]; rfl
/-- all days of the week together have all years -/
theorem cnt_week {d t b s pl wk a : Int} (hw : 1 ≤ wk) : ∀ n : Nat, ((List.range wk.toNat).map fun k : Nat => cnt (hasB d t b s pl wk (k : Int)) a n).sum = n
  | 0 => by
    have : (List.range wk.toNat).map (fun k : Nat => cnt (hasB d t b s pl wk (k : Int)) a 0) = (List.range wk.toNat).map (fun _ => (0 : Int)) := rfl
    rw [this]
    generalize List.range wk.toNat = ls
    induction ls with
    | nil => rfl
    | cons x ls ih => rw [List.map_cons, List.sum_cons, ih]; rfl
  | n + 1 => by
    have m0 := Int.emod_nonneg (fday d t b s (a + n) + pl) (show wk ≠ 0 by omega)
    have m1 := Int.emod_lt_of_pos (fday d t b s (a + n) + pl) (show 0 < wk by omega)
    rw [sum_add _ _ (fun k : Nat => cnt (hasB d t b s pl wk (k : Int)) a n) (fun k : Nat => if (fday d t b s (a + n) + pl) % wk = (k : Int) then (1 : Int) else 0) fun r _ => ?_, cnt_week hw n, sum_one m0, if_pos (by omega)]
    · omega
    · show cnt _ a n + (if hasB d t b s pl wk (r : Int) (a + n) = true then 1 else 0) = _
      congr 1
      by_cases c : (fday d t b s (a + n) + pl) % wk = (r : Int)
      · rw [if_pos c, if_pos (show hasB d t b s pl wk (r : Int) (a + n) = true from decide_eq_true c)]
      · rw [if_neg c, if_neg (show ¬ hasB d t b s pl wk (r : Int) (a + n) = true from fun z => c (of_decide_eq_true z))]
/-- i is a measure that bars -/
def BarI (d t b s pl wk nm i : Int) : Prop := 1 ≤ i ∧ i ∣ d * b + t ∧ i ∣ wk * b ∧ ∀ j, 0 ≤ j → j < b → (nm * b + j) % i ≠ (s + pl * b) % i
theorem bar_none {d t b s pl wk nm i : Int} (h : LandOk d t b s) (hw : 1 ≤ wk ∧ wk ≤ 20) (hn : 0 ≤ nm ∧ nm < wk) (B : BarI d t b s pl wk nm i) (y : Int) : ¬ has d t b s pl wk nm y := by
  intro hy
  obtain ⟨j, j0, j1, hd⟩ := (has_iff h hw.1 hn.1 hn.2 y).mp hy
  refine B.2.2.2 j j0 j1 ?_
  rw [modeq]
  have h1 : i ∣ (d * b + t) * y := Int.dvd_trans B.2.1 ⟨y, rfl⟩
  have h2 := Int.dvd_trans B.2.2.1 hd
  have h3 := Int.dvd_sub h1 h2
  rwa [show (d * b + t) * y - ((d * b + t) * y - (nm * b + j - s - pl * b)) = nm * b + j - (s + pl * b) by omega] at h3
theorem bar_gcd {d t b s pl wk nm : Int} (h : LandOk d t b s) (hw : 1 ≤ wk ∧ wk ≤ 20) (hn : 0 ≤ nm ∧ nm < wk) (hno : ∀ y, ¬ has d t b s pl wk nm y) : BarI d t b s pl wk nm (gcdI (d * b + t) (wk * b)) := by
  have hbb := h.b
  have hst := step_pos h
  have wb : 1 * 1 ≤ wk * b := Int.mul_le_mul hw.1 hbb.1 (by decide) (by omega)
  have g1 : 1 ≤ gcdI (d * b + t) (wk * b) := gcdI_pos (by omega)
  have gS := gcdI_dvd_l (a := d * b + t) (b := wk * b) (by omega)
  have gW := gcdI_dvd_r (a := d * b + t) (b := wk * b) (by omega)
  have gd := gcdI_div (a := d * b + t) (b := wk * b) (by omega) (by omega)
  obtain ⟨x, y, e⟩ := inv_of (Int.ediv_nonneg (by omega) (by omega)) (Int.ediv_nonneg (by omega) (by omega)) gd
  refine ⟨g1, gS, gW, fun j j0 j1 ej => ?_⟩
  rw [modeq] at ej
  generalize gcdI (d * b + t) (wk * b) = g at g1 gS gW gd e ej
  have eS := (Int.mul_ediv_cancel' gS).symm
  have eW := (Int.mul_ediv_cancel' gW).symm
  have ej2 : g ∣ nm * b + j - s - pl * b := by rwa [show nm * b + j - s - pl * b = nm * b + j - (s + pl * b) by omega]
  have T1 : 1 ≤ wk * b / g := by
    rcases Int.lt_or_le (wk * b / g) 1 with z | z
    · have : g * (wk * b / g) ≤ g * 0 := Int.mul_le_mul_of_nonneg_left (by omega) (by omega)
      omega
    · exact z
  have := (solve (S := d * b + t) (W := wk * b) (g := g) (T := wk * b / g) (r := (d * b + t) / g) (bk := x) (by omega) eS eW ⟨-y, by rw [Int.mul_neg]; omega⟩ ((nm * b + j - s - pl * b) / g * x % (wk * b / g)) (nm * b + j - s - pl * b)).mpr ⟨ej2, by rw [Int.emod_emod_of_dvd _ (Int.dvd_refl _)]⟩
  exact hno _ ((has_iff h hw.1 hn.1 hn.2 _).mpr ⟨j, j0, j1, this⟩)
/-- the years with a day on a day of the week are those of an interval -/
theorem has_int {d t b s pl wk nm : Int} (h : LandOk d t b s) (hw : 1 ≤ wk) (hn : 0 ≤ nm ∧ nm < wk) (y : Int) : has d t b s pl wk nm y ↔ ((d * b + t) * y + (s + pl * b - nm * b)) % (wk * b) < b := by
  have hbb := h.b
  have wb : 1 * b ≤ wk * b := Int.mul_le_mul_of_nonneg_right hw (by omega)
  rw [has_iff h hw hn.1 hn.2]
  constructor
  · rintro ⟨j, j0, j1, k, hk⟩
    rw [show (d * b + t) * y + (s + pl * b - nm * b) = j + wk * b * k by omega, Int.add_mul_emod_self_left, Int.emod_eq_of_lt j0 (by omega)]
    exact j1
  · intro hh
    have e := Int.emod_add_mul_ediv ((d * b + t) * y + (s + pl * b - nm * b)) (wk * b)
    exact ⟨_, Int.emod_nonneg _ (by omega), hh, ((d * b + t) * y + (s + pl * b - nm * b)) / (wk * b), by omega⟩
theorem three_has {d t b s pl wk nm : Int} (h : LandOk d t b s) (hw : 1 ≤ wk ∧ wk ≤ 20) (hn : 0 ≤ nm ∧ nm < wk) {L : List Int} (hL : L.Pairwise (· < ·)) (hm : ∀ g, g ∈ L ↔ Gap (has d t b s pl wk nm) g) : L.length ≤ 3 ∧ ∀ x y z, L = [x, y, z] → z = x + y := by
  have hbb := h.b
  have wb : 1 * b ≤ wk * b := Int.mul_le_mul_of_nonneg_right hw.1 (by omega)
  obtain ⟨α, β, a1, b1, ht⟩ := three (S := d * b + t) (W := wk * b) (b := b) (c := s + pl * b - nm * b) hbb.1 (by omega)
  refine three_list a1 b1 hL fun g hg => ht g ?_
  rw [← Gap.congr (fun y => has_int h hw.1 hn y)]
  exact (hm g).mp hg
theorem gaps_nil {d t b s pl wk nm : Int} (h : LandOk d t b s) (hw : 1 ≤ wk ∧ wk ≤ 20) {L : List Int} (hm : ∀ g, g ∈ L ↔ Gap (has d t b s pl wk nm) g) : L = [] ↔ ∀ y, ¬ has d t b s pl wk nm y := by
  have R := rnd_has (pl := pl) (nm := nm) h hw 0
  constructor
  · intro e y hy
    have hne : flt (hasB d t b s pl wk nm) (y + 1) (turnOf d t b wk).toNat ≠ [] := fun z => (rnd_has (pl := pl) (nm := nm) h hw (y + 1)).ne.mp z y hy
    cases hf : flt (hasB d t b s pl wk nm) (y + 1) (turnOf d t b wk).toNat with
    | nil => exact hne hf
    | cons m r =>
      have F := (rnd_has (pl := pl) (nm := nm) h hw (y + 1)).fst hf
      have : m - y ∈ L := (hm _).mpr ⟨y, hy, by rw [show y + (m - y) = m by omega]; exact F⟩
      rw [e] at this; exact absurd this (by simp)
  · intro hno
    cases L with
    | nil => rfl
    | cons g L =>
      obtain ⟨y, hy, _⟩ := (hm g).mp (List.mem_cons_self ..)
      exact absurd hy (hno y)
end Ly
set_option Elab.async false
set_option linter.all false
set_option maxHeartbeats 4000000
/-! two lands: days with two places -/
namespace Ly
/-- the day z has the place pl -/
def At (d t b s pl z : Int) : Prop := ∃ y, z = fday d t b s y + pl
theorem fday_turns {d t b s : Int} (h : LandOk d t b s) (y m : Int) : fday d t b s (y + b * m) = fday d t b s y + (d * b + t) * m := by
  have hb := h.b
  unfold fday
  have e : (d * b + t) * (y + b * m) + s = ((d * b + t) * y + s) + b * ((d * b + t) * m) := by
    rw [Int.mul_add, ← Int.mul_assoc (d * b + t) b m, Int.mul_comm (d * b + t) b, Int.mul_assoc b]; omega
  rw [e, Int.add_mul_ediv_left _ _ (by omega)]
theorem fday_mono {d t b s : Int} (h : LandOk d t b s) (y : Int) : ∀ n : Nat, fday d t b s y + n ≤ fday d t b s (y + n)
  | 0 => by simp
  | n + 1 => by
    have := fday_mono h y n
    have h2 := fday_lt h (y + n)
    rw [show y + ((n + 1 : Nat) : Int) = y + n + 1 by omega]
    omega
theorem fday_le {d t b s : Int} (h : LandOk d t b s) {y z : Int} (hz : y ≤ z) : fday d t b s y + (z - y) ≤ fday d t b s z := by
  have := fday_mono h y (z - y).toNat
  rw [show y + ((z - y).toNat : Int) = z by omega] at this
  omega
/-- what days with a place leave by the step, year by year -/
def dso (d t b s pl : Int) : List Int := (List.range b.toNat).map fun k : Nat => (fday d t b s (k : Int) + pl) % (d * b + t)
theorem dso_len {d t b s pl : Int} : (dso d t b s pl).length = b.toNat := by unfold dso; rw [List.length_map, List.length_range]
theorem mem_dso {d t b s pl u : Int} : u ∈ dso d t b s pl ↔ ∃ k : Int, 0 ≤ k ∧ k < b ∧ u = (fday d t b s k + pl) % (d * b + t) := by
  unfold dso
  rw [List.mem_map]
  constructor
  · rintro ⟨k, hk, rfl⟩
    rw [List.mem_range] at hk
    exact ⟨k, by omega, by omega, rfl⟩
  · rintro ⟨k, k0, k1, rfl⟩
    exact ⟨k.toNat, List.mem_range.mpr (by omega), by rw [show ((k.toNat : Nat) : Int) = k by omega]⟩
theorem at_dso {d t b s pl : Int} (h : LandOk d t b s) (z : Int) : At d t b s pl z ↔ z % (d * b + t) ∈ dso d t b s pl := by
  have hb := h.b
  have hp := step_pos h
  rw [mem_dso]
  constructor
  · rintro ⟨y, rfl⟩
    have h1 := Int.emod_add_mul_ediv y b
    refine ⟨y % b, Int.emod_nonneg _ (by omega), Int.emod_lt_of_pos _ (by omega), ?_⟩
    have e := fday_turns h (y % b) (y / b)
    rw [h1] at e
    rw [e, show fday d t b s (y % b) + (d * b + t) * (y / b) + pl = fday d t b s (y % b) + pl + (d * b + t) * (y / b) by omega, Int.add_mul_emod_self_left]
  · rintro ⟨k, k0, k1, e⟩
    rw [modeq] at e
    obtain ⟨m, hm⟩ := e
    refine ⟨k + b * m, ?_⟩
    rw [fday_turns h]
    omega
theorem dso_rng {d t b s pl : Int} (h : LandOk d t b s) : ∀ u ∈ dso d t b s pl, 0 ≤ u ∧ u < d * b + t := fun u hu => by
  have hp := step_pos h
  obtain ⟨k, _, _, rfl⟩ := mem_dso.mp hu
  exact ⟨Int.emod_nonneg _ (by omega), Int.emod_lt_of_pos _ (by omega)⟩
theorem dso_nodup {d t b s pl : Int} (h : LandOk d t b s) : (dso d t b s pl).Nodup := by
  have hp := step_pos h
  have hb := h.b
  unfold dso
  rw [List.nodup_iff_pairwise_ne, List.pairwise_map]
  refine (List.pairwise_lt_range (n := b.toNat)).imp_of_mem ?_
  intro i j hi hj hij e
  rw [List.mem_range] at hi hj
  rw [modeq] at e
  have h1 := fday_le h (y := (i : Int)) (z := (j : Int)) (by omega)
  have h2 := fday_le h (y := (j : Int)) (z := (i : Int) + b) (by omega)
  rw [fday_round h] at h2
  have h3 : (d * b + t) ∣ (fday d t b s j + pl) - (fday d t b s i + pl) := by
    have := Int.dvd_neg.mpr e
    rwa [Int.neg_sub] at this
  have h4 := Int.le_of_dvd (by omega) h3
  omega
/-- days with both places -/
def Both (d t b s pl d2 t2 b2 s2 pl2 z : Int) : Prop := At d t b s pl z ∧ At d2 t2 b2 s2 pl2 z
/-- no day of the one leaves by i what one of the other does -/
def PrtI (d t b s pl d2 t2 b2 s2 pl2 i : Int) : Prop := ∀ k k2, 0 ≤ k → k < b → 0 ≤ k2 → k2 < b2 → (fday d t b s k + pl) % i ≠ (fday d2 t2 b2 s2 k2 + pl2) % i
theorem prt_dso {d t b s pl d2 t2 b2 s2 pl2 i : Int} (h1 : i ∣ d * b + t) (h2 : i ∣ d2 * b2 + t2) :
    PrtI d t b s pl d2 t2 b2 s2 pl2 i ↔ ∀ u ∈ dso d t b s pl, ∀ v ∈ dso d2 t2 b2 s2 pl2, u % i ≠ v % i := by
  constructor
  · intro h u hu v hv
    obtain ⟨k, k0, k1, rfl⟩ := mem_dso.mp hu
    obtain ⟨k2, k20, k21, rfl⟩ := mem_dso.mp hv
    rw [Int.emod_emod_of_dvd _ h1, Int.emod_emod_of_dvd _ h2]
    exact h k k2 k0 k1 k20 k21
  · intro h k k2 k0 k1 k20 k21
    have := h _ (mem_dso.mpr ⟨k, k0, k1, rfl⟩) _ (mem_dso.mpr ⟨k2, k20, k21, rfl⟩)
    rwa [Int.emod_emod_of_dvd _ h1, Int.emod_emod_of_dvd _ h2] at this
/-- the days found, one for each pair that fits -/
def sol (S g bk turn u v : Int) : Int := u + S * ((v - u) / g * bk % turn)
def cfnd (S g bk turn : Int) (us vs : List Int) : List Int := us.flatMap fun u => (vs.filter fun v => decide (v % g = u % g)).map (sol S g bk turn u)
structure Cmn (d t b s pl d2 t2 b2 s2 pl2 : Int) (rs : List Int) (T : Int) : Prop where
  tpos : 1 ≤ T ∧ T < 1000000000
  teq : T = (d * b + t) * ((d2 * b2 + t2) / gcdI (d * b + t) (d2 * b2 + t2))
  rng : ∀ r ∈ rs, 0 ≤ r ∧ r < T
  nodup : rs.Nodup
  good : ∀ z, Both d t b s pl d2 t2 b2 s2 pl2 z ↔ z % T ∈ rs
  len : rs.length ≤ 3600
theorem flat_len {us : List Int} {f : Int → List Int} {m : Nat} (h : ∀ u ∈ us, (f u).length ≤ m) : (us.flatMap f).length ≤ us.length * m := by
  induction us with
  | nil => simp
  | cons u us ih =>
    rw [List.flatMap_cons, List.length_append, List.length_cons, Nat.add_mul, Nat.one_mul]
    have h1 := ih fun x hx => h x (List.mem_cons_of_mem _ hx)
    have h2 := h u (List.mem_cons_self ..)
    omega
theorem cmn_of {d t b s pl d2 t2 b2 s2 pl2 g bk turn : Int} (h : LandOk d t b s) (h2 : LandOk d2 t2 b2 s2) (hg : g = gcdI (d * b + t) (d2 * b2 + t2)) (hT : turn = (d2 * b2 + t2) / g) (hb : turn ∣ (d * b + t) / g * bk - 1) :
    Cmn d t b s pl d2 t2 b2 s2 pl2 (cfnd (d * b + t) g bk turn (dso d t b s pl) (dso d2 t2 b2 s2 pl2)) ((d * b + t) * turn) := by
  have hp := step_pos h
  have hp2 := step_pos h2
  have g1 : 1 ≤ g := by rw [hg]; exact gcdI_pos (by omega)
  have eS : d * b + t = g * ((d * b + t) / g) := by
    have := gcdI_dvd_l (a := d * b + t) (b := d2 * b2 + t2) (by omega)
    rw [← hg] at this
    exact (Int.mul_ediv_cancel' this).symm
  have eW : d2 * b2 + t2 = g * turn := by
    have := gcdI_dvd_r (a := d * b + t) (b := d2 * b2 + t2) (by omega)
    rw [← hg] at this
    rw [hT]
    exact (Int.mul_ediv_cancel' this).symm
  have rU := dso_rng (pl := pl) h
  have rV := dso_rng (pl := pl2) h2
  have nU := dso_nodup (pl := pl) h
  have nV := dso_nodup (pl := pl2) h2
  have aU := at_dso (pl := pl) h
  have aV := at_dso (pl := pl2) h2
  have lU := dso_len (d := d) (t := t) (b := b) (s := s) (pl := pl)
  have lV := dso_len (d := d2) (t := t2) (b := b2) (s := s2) (pl := pl2)
  have hbb := h.b
  have hbb2 := h2.b
  have teq : turn = (d2 * b2 + t2) / gcdI (d * b + t) (d2 * b2 + t2) := by rw [hT, hg]
  generalize dso d t b s pl = us at rU nU aU lU ⊢
  generalize dso d2 t2 b2 s2 pl2 = vs at rV nV aV lV ⊢
  rw [show (d * b + t) * turn = (d * b + t) * ((d2 * b2 + t2) / gcdI (d * b + t) (d2 * b2 + t2)) by rw [← teq]]
  rw [← teq]
  have T1 : 1 ≤ turn := by
    rcases Int.lt_or_le turn 1 with z | z
    · have : g * turn ≤ g * 0 := Int.mul_le_mul_of_nonneg_left (by omega) (by omega)
      omega
    · exact z
  have T2 : turn ≤ 24060 := by
    have : 1 * turn ≤ g * turn := Int.mul_le_mul_of_nonneg_right g1 (by omega)
    omega
  generalize hS : d * b + t = S at *
  generalize hW : d2 * b2 + t2 = W at *
  have solv := fun (k aw : Int) => solve (S := S) (W := W) (g := g) (T := turn) (by omega) eS eW hb k aw
  have ST1 : 1 * 1 ≤ S * turn := Int.mul_le_mul hp.1 T1 (by decide) (by omega)
  have ST2 : S * turn ≤ 24060 * 24060 := Int.mul_le_mul hp.2 T2 (by omega) (by decide)
  -- what sol leaves
  have s0 : ∀ u v, u ∈ us → 0 ≤ sol S g bk turn u v ∧ sol S g bk turn u v < S * turn := fun u v hu => by
    have r := rU u hu
    unfold sol
    have m0 := Int.emod_nonneg ((v - u) / g * bk) (show turn ≠ 0 by omega)
    have m1 := Int.emod_lt_of_pos ((v - u) / g * bk) (show 0 < turn by omega)
    generalize (v - u) / g * bk % turn = k at m0 m1 ⊢
    have a1 : 0 ≤ S * k := Int.mul_nonneg (by omega) m0
    have a2 : S * k ≤ S * (turn - 1) := Int.mul_le_mul_of_nonneg_left (by omega) (by omega)
    rw [Int.mul_sub, Int.mul_one] at a2
    omega
  have s1 : ∀ u v, u ∈ us → sol S g bk turn u v % S = u := fun u v hu => by
    have r := rU u hu
    unfold sol
    rw [Int.add_mul_emod_self_left, Int.emod_eq_of_lt r.1 r.2]
  have s2' : ∀ u v, v ∈ vs → v % g = u % g → sol S g bk turn u v % W = v := fun u v hv e => by
    have r := rV v hv
    have hd : g ∣ v - u := modeq.mp e
    have h5 := (solv ((v - u) / g * bk % turn) (v - u)).mpr ⟨hd, by rw [Int.emod_emod_of_dvd _ (Int.dvd_refl _)]⟩
    unfold sol
    have : (u + S * ((v - u) / g * bk % turn)) % W = v % W := by
      rw [modeq]
      rwa [show u + S * ((v - u) / g * bk % turn) - v = S * ((v - u) / g * bk % turn) - (v - u) by omega]
    rw [this, Int.emod_eq_of_lt r.1 r.2]
  have mem : ∀ x, x ∈ cfnd S g bk turn us vs ↔ ∃ u v, u ∈ us ∧ v ∈ vs ∧ v % g = u % g ∧ x = sol S g bk turn u v := fun x => by
    unfold cfnd
    rw [List.mem_flatMap]
    constructor
    · rintro ⟨u, hu, hx⟩
      obtain ⟨v, hv, rfl⟩ := List.mem_map.mp hx
      rw [List.mem_filter, decide_eq_true_iff] at hv
      exact ⟨u, v, hu, hv.1, hv.2, rfl⟩
    · rintro ⟨u, v, hu, hv, e, rfl⟩
      exact ⟨u, hu, List.mem_map.mpr ⟨v, List.mem_filter.mpr ⟨hv, decide_eq_true e⟩, rfl⟩⟩
  have dW : W ∣ S * turn := ⟨S / g, by rw [eW]; conv => lhs; rw [eS]
                                       rw [Int.mul_assoc, Int.mul_assoc, Int.mul_comm (S / g) turn]⟩
  refine ⟨⟨by omega, by omega⟩, by rw [hS, hW, ← teq], fun r hr => ?_, ?_, fun z => ?_, ?_⟩
  · obtain ⟨u, v, hu, _, _, rfl⟩ := (mem r).mp hr
    exact s0 u v hu
  · unfold cfnd
    rw [List.nodup_iff_pairwise_ne, List.pairwise_flatMap]
    constructor
    · intro u hu
      rw [List.pairwise_map]
      refine ((nV.filter _).imp_of_mem ?_)
      intro v v' hv hv' hne e
      rw [List.mem_filter, decide_eq_true_iff] at hv hv'
      have e1 := s2' u v hv.1 hv.2
      have e2 := s2' u v' hv'.1 hv'.2
      rw [e, e2] at e1
      exact hne e1.symm
    · refine nU.imp_of_mem ?_
      intro u u' hu hu' hne x hx y hy e
      obtain ⟨v, _, rfl⟩ := List.mem_map.mp hx
      obtain ⟨v', _, rfl⟩ := List.mem_map.mp hy
      have e1 := s1 u v hu
      have e2 := s1 u' v' hu'
      rw [e, e2] at e1
      exact hne e1.symm
  · unfold Both
    rw [aU, aV, mem]
    have dS : S ∣ S * turn := ⟨turn, rfl⟩
    constructor
    · rintro ⟨hu, hv⟩
      refine ⟨z % S, z % W, hu, hv, ?_, ?_⟩
      · rw [Int.emod_emod_of_dvd _ ⟨turn, eW⟩, Int.emod_emod_of_dvd _ ⟨S / g, eS⟩]
      · have eg : z % W % g = z % S % g := by rw [Int.emod_emod_of_dvd _ ⟨turn, eW⟩, Int.emod_emod_of_dvd _ ⟨S / g, eS⟩]
        have x1 := s1 (z % S) (z % W) hu
        have x2 := s2' (z % S) (z % W) hv eg
        have x0 := s0 (z % S) (z % W) hu
        generalize sol S g bk turn (z % S) (z % W) = x at x0 x1 x2
        have h3 : x % S = z % S := x1
        have h4 : x % W = z % W := x2
        rw [modeq] at h3 h4
        obtain ⟨k, hk⟩ := h3
        have h5 := (solv k 0).mp (by rw [← hk, Int.sub_zero]; exact h4)
        rw [Int.zero_ediv, Int.zero_mul, Int.zero_emod] at h5
        obtain ⟨j, hj⟩ := (Int.dvd_iff_emod_eq_zero ..).mpr h5.2
        have : z = x + S * turn * (-j) := by
          rw [Int.mul_neg, Int.mul_assoc, ← hj, ← hk]; omega
        rw [this, Int.add_mul_emod_self_left, Int.emod_eq_of_lt x0.1 x0.2]
    · rintro ⟨u, v, hu, hv, e, ez⟩
      have y1 : z % S = u := by rw [← Int.emod_emod_of_dvd z dS, ez]; exact s1 u v hu
      have y2 : z % W = v := by rw [← Int.emod_emod_of_dvd z dW, ez]; exact s2' u v hv e
      rw [y1, y2]
      exact ⟨hu, hv⟩
  · refine Nat.le_trans (flat_len (m := 60) fun u _ => ?_) (by rw [lU]; omega)
    rw [List.length_map]
    exact Nat.le_trans (List.length_filter_le ..) (by rw [lV]; omega)
/-- the round of two lands -/
def lcmOf (d t b d2 t2 b2 : Int) : Int := (d * b + t) * ((d2 * b2 + t2) / gcdI (d * b + t) (d2 * b2 + t2))
theorem cmn_ex {d t b s pl d2 t2 b2 s2 pl2 : Int} (h : LandOk d t b s) (h2 : LandOk d2 t2 b2 s2) : ∃ rs, Cmn d t b s pl d2 t2 b2 s2 pl2 rs (lcmOf d t b d2 t2 b2) := by
  have hp := step_pos h
  have hp2 := step_pos h2
  have g1 : 1 ≤ gcdI (d * b + t) (d2 * b2 + t2) := gcdI_pos (by omega)
  have gd := gcdI_div (a := d * b + t) (b := d2 * b2 + t2) (by omega) (by omega)
  obtain ⟨x, y, e⟩ := inv_of (Int.ediv_nonneg (by omega) (by omega)) (Int.ediv_nonneg (by omega) (by omega)) gd
  exact ⟨_, cmn_of h h2 rfl rfl (bk := x) ⟨-y, by rw [Int.mul_neg]; omega⟩⟩
theorem both_prt {d t b s pl d2 t2 b2 s2 pl2 : Int} (h : LandOk d t b s) (h2 : LandOk d2 t2 b2 s2) : (∀ z, ¬ Both d t b s pl d2 t2 b2 s2 pl2 z) ↔ PrtI d t b s pl d2 t2 b2 s2 pl2 (gcdI (d * b + t) (d2 * b2 + t2)) := by
  have hp := step_pos h
  have hp2 := step_pos h2
  have gS := gcdI_dvd_l (a := d * b + t) (b := d2 * b2 + t2) (by omega)
  have gW := gcdI_dvd_r (a := d * b + t) (b := d2 * b2 + t2) (by omega)
  rw [prt_dso gS gW]
  constructor
  · intro hno u hu v hv e
    have g1 : 1 ≤ gcdI (d * b + t) (d2 * b2 + t2) := gcdI_pos (by omega)
    have gd := gcdI_div (a := d * b + t) (b := d2 * b2 + t2) (by omega) (by omega)
    obtain ⟨x, y, e2⟩ := inv_of (Int.ediv_nonneg (by omega) (by omega)) (Int.ediv_nonneg (by omega) (by omega)) gd
    have C := cmn_of (pl := pl) (pl2 := pl2) h h2 rfl rfl (bk := x) ⟨-y, by rw [Int.mul_neg]; omega⟩
    have m : sol (d * b + t) (gcdI (d * b + t) (d2 * b2 + t2)) x ((d2 * b2 + t2) / gcdI (d * b + t) (d2 * b2 + t2)) u v ∈ cfnd (d * b + t) (gcdI (d * b + t) (d2 * b2 + t2)) x ((d2 * b2 + t2) / gcdI (d * b + t) (d2 * b2 + t2)) (dso d t b s pl) (dso d2 t2 b2 s2 pl2) := by
      unfold cfnd
      exact List.mem_flatMap.mpr ⟨u, hu, List.mem_map.mpr ⟨v, List.mem_filter.mpr ⟨hv, decide_eq_true e.symm⟩, rfl⟩⟩
    have r := C.rng _ m
    exact hno _ ((C.good _).mpr (by rw [Int.emod_eq_of_lt r.1 r.2]; exact m))
  · rintro hp z ⟨hu, hv⟩
    have a1 := (at_dso h z).mp hu
    have a2 := (at_dso h2 z).mp hv
    refine hp _ a1 _ a2 ?_
    rw [Int.emod_emod_of_dvd _ gS, Int.emod_emod_of_dvd _ gW]
theorem prt_up {d t b s pl d2 t2 b2 s2 pl2 i g : Int} (hi : i ∣ g) (hp : PrtI d t b s pl d2 t2 b2 s2 pl2 i) : PrtI d t b s pl d2 t2 b2 s2 pl2 g := fun k k2 a b c e z => by
  refine hp k k2 a b c e ?_
  rw [← Int.emod_emod_of_dvd _ hi, z, Int.emod_emod_of_dvd _ hi]
theorem at_yof {d t b s pl : Int} (h : LandOk d t b s) (hp : 0 ≤ pl ∧ pl < d) (z : Int) : At d t b s pl z ↔ z - fday d t b s (yof d t b s z) = pl := by
  constructor
  · rintro ⟨y, rfl⟩
    have := flen2 h y
    rw [yof_eq h (y := y) (by omega) (by omega)]
    omega
  · intro e
    exact ⟨yof d t b s z, by omega⟩
theorem per_both {d t b s pl d2 t2 b2 s2 pl2 : Int} (h : LandOk d t b s) (h2 : LandOk d2 t2 b2 s2) : Per (Both d t b s pl d2 t2 b2 s2 pl2) (lcmOf d t b d2 t2 b2) := fun z k => by
  obtain ⟨rs, C⟩ := cmn_ex (pl := pl) (pl2 := pl2) h h2
  rw [C.good, C.good, Int.add_mul_emod_self_left]
theorem both_symm {d t b s pl d2 t2 b2 s2 pl2 : Int} : Both d t b s pl d2 t2 b2 s2 pl2 = Both d2 t2 b2 s2 pl2 d t b s pl := funext fun z => propext ⟨fun h => ⟨h.2, h.1⟩, fun h => ⟨h.2, h.1⟩⟩
theorem lcm_many {d t b s d2 t2 b2 s2 : Int} (h : LandOk d t b s) (h2 : LandOk d2 t2 b2 s2) : (d * b + t) * (d2 * b2 + t2) / gcdI (d * b + t) (d2 * b2 + t2) = lcmOf d t b d2 t2 b2 := by
  have hp2 := step_pos h2
  unfold lcmOf
  rw [Int.mul_ediv_assoc _ (gcdI_dvd_r (by omega))]
open Classical in
noncomputable def bothB (d t b s pl d2 t2 b2 s2 pl2 : Int) : Int → Bool := fun z => decide (Both d t b s pl d2 t2 b2 s2 pl2 z)
theorem bothB_iff {d t b s pl d2 t2 b2 s2 pl2 z : Int} : bothB d t b s pl d2 t2 b2 s2 pl2 z = true ↔ Both d t b s pl d2 t2 b2 s2 pl2 z := by
  unfold bothB
  exact @decide_eq_true_iff _ (Classical.propDecidable _)
theorem rnd_both {d t b s pl d2 t2 b2 s2 pl2 : Int} (h : LandOk d t b s) (h2 : LandOk d2 t2 b2 s2) (a : Int) : Rnd (Both d t b s pl d2 t2 b2 s2 pl2) a (lcmOf d t b d2 t2 b2) (flt (bothB d t b s pl d2 t2 b2 s2 pl2) a (lcmOf d t b d2 t2 b2).toNat) := by
  obtain ⟨rs, C⟩ := cmn_ex (pl := pl) (pl2 := pl2) h h2
  have := C.tpos
  refine ⟨per_both h h2, this.1, flt_inc, fun z => ?_⟩
  rw [mem_flt, bothB_iff]
  constructor <;> rintro ⟨x, y, q⟩ <;> exact ⟨x, by omega, q⟩
end Ly
set_option Elab.async false
set_option linter.all false
set_option maxHeartbeats 4000000
/-! long years; so many days later; weeks named on -/
namespace Ly
/-- the year z is long -/
def Lng (t b s z : Int) : Prop := tof t b s (z + 1) = tof t b s z + 1
theorem tof_le {d t b s : Int} (h : LandOk d t b s) {y z : Int} (hz : y ≤ z) : tof t b s y ≤ tof t b s z := by
  have hb := h.b
  have ht := h.t
  unfold tof
  refine Int.ediv_le_ediv (by omega) ?_
  have := Int.mul_le_mul_of_nonneg_left hz ht.1
  omega
theorem no_long {d t b s : Int} (h : LandOk d t b s) (h0 : t = 0) (z : Int) : ¬ Lng t b s z := by
  subst h0
  unfold Lng tof
  rw [Int.zero_mul, Int.zero_mul]
  omega
theorem fst_long {d t b s : Int} (h : LandOk d t b s) (h0 : t ≠ 0) (y : Int) : Fst (Lng t b s) y (-((s - (tof t b s y + 1) * b) / t) - 1) := by
  have hb := h.b
  have ht := h.t
  have t1 : 1 ≤ t := by omega
  generalize hW : tof t b s y + 1 = W
  -- the least number with t * m + s at least W * b
  have key : ∀ m : Int, W ≤ tof t b s m ↔ -((s - W * b) / t) ≤ m := fun m => by
    unfold tof
    rw [Int.le_ediv_iff_mul_le (by omega)]
    have e : -((s - W * b) / t) ≤ m ↔ -m ≤ (s - W * b) / t := by omega
    rw [e, Int.le_ediv_iff_mul_le (by omega), Int.neg_mul, Int.mul_comm m t]
    omega
  have k1 := (key (-((s - W * b) / t))).mpr (Int.le_refl _)
  have k2 := mt (key (-((s - W * b) / t) - 1)).mp (by omega)
  have k4 : ¬ -((s - W * b) / t) ≤ y := fun z => absurd ((key y).mpr z) (by omega)
  generalize -((s - W * b) / t) = m at key k1 k2 k4
  refine ⟨by omega, ?_, fun z hz hl => ?_⟩
  · unfold Lng
    rw [show m - 1 + 1 = m by omega]
    have := tof_step h (m - 1)
    rw [show m - 1 + 1 = m by omega] at this
    omega
  · unfold Lng at hl
    have := tof_le h hz
    have := (key (z + 1)).mp (by omega)
    omega
/-- so many days later -/
theorem fday_later {d t b s : Int} (h : LandOk d t b s) (by' y : Int) : fday d t b (s + by' * b) y = fday d t b s y + by' := by
  have hb := h.b
  unfold fday
  rw [← Int.add_assoc, Int.add_mul_ediv_right _ _ (by omega)]
theorem yof_later {d t b s : Int} (by' n : Int) : yof d t b (s + by' * b) (n + by') = yof d t b s n := by
  unfold yof
  congr 1
  rw [show n + by' + 1 = n + 1 + by' by omega, Int.add_mul]
  omega
theorem tof_later {d t b s : Int} (h : LandOk d t b s) (by' y : Int) : tof t b (s + by' * b) y = tof t b s y + by' := by
  have hb := h.b
  unfold tof
  rw [← Int.add_assoc, Int.add_mul_ediv_right _ _ (by omega)]
theorem long_later {d t b s : Int} (h : LandOk d t b s) (by' : Int) : Lng t b (s + by' * b) = Lng t b s := funext fun z => propext (by
  unfold Lng
  rw [tof_later h, tof_later h]
  omega)
/-- years counted from another one -/
theorem fday_back {d t b s : Int} (back y : Int) : fday d t b (s + back * (d * b + t)) y = fday d t b s (y + back) := by
  unfold fday
  congr 1
  rw [Int.mul_add (d * b + t) y back, Int.mul_comm back]
  omega
theorem tof_back {d t b s : Int} (h : LandOk d t b s) (back y : Int) : tof t b (s + back * (d * b + t)) y = tof t b s (y + back) + back * d := by
  have hb := h.b
  unfold tof
  rw [← Int.add_mul_ediv_right _ _ (show b ≠ 0 by omega)]
  congr 1
  rw [Int.mul_add t y back, Int.mul_add back, Int.mul_comm t back, Int.mul_assoc back d b]
  omega
theorem mod_named {x wk nm k : Int} (hn : 0 ≤ nm ∧ nm < wk) : (x + k) % wk = (nm + k) % wk ↔ x % wk = nm := by
  rw [modeq, show x + k - (nm + k) = x - nm by omega, ← modeq, Int.emod_eq_of_lt hn.1 hn.2]
theorem has_later {d t b s pl wk nm : Int} (h : LandOk d t b s) (hn : 0 ≤ nm ∧ nm < wk) (by' : Int) : has d t b (s + by' * b) pl wk ((nm + by') % wk) = has d t b s pl wk nm := funext fun z => propext (by
  unfold has
  rw [fday_later h, show fday d t b s z + by' + pl = fday d t b s z + pl + by' by omega, mod_named hn])
theorem has_called {d t b s pl wk nm o : Int} (hn : 0 ≤ nm ∧ nm < wk) : has d t b s o wk ((nm + o - pl) % wk) = has d t b s pl wk nm := funext fun z => propext (by
  unfold has
  rw [show fday d t b s z + o = fday d t b s z + pl + (o - pl) by omega, show nm + o - pl = nm + (o - pl) by omega, mod_named hn])
theorem at_later {d t b s pl : Int} (h : LandOk d t b s) (by' z : Int) : At d t b (s + by' * b) pl (z + by') ↔ At d t b s pl z := by
  unfold At
  constructor
  · rintro ⟨y, e⟩
    exact ⟨y, by rw [fday_later h] at e; omega⟩
  · rintro ⟨y, e⟩
    exact ⟨y, by rw [fday_later h]; omega⟩
theorem both_later {d t b s pl d2 t2 b2 s2 pl2 : Int} (h : LandOk d t b s) (h2 : LandOk d2 t2 b2 s2) (by' z : Int) : Both d t b (s + by' * b) pl d2 t2 b2 (s2 + by' * b2) pl2 (z + by') ↔ Both d t b s pl d2 t2 b2 s2 pl2 z := by
  unfold Both
  rw [at_later h, at_later h2]
end Ly
set_option Elab.async false
set_option linter.all false
set_option maxRecDepth 100000
set_option maxHeartbeats 4000000
/-! lands by words; lands told back: plain mathematics -/
namespace Ly
theorem sun_ok : LandOk 365 1 4 0 := by unfold LandOk; omega
theorem moon_ok : LandOk 354 11 30 0 := by unfold LandOk; omega
theorem even_ok : LandOk 364 0 1 3 := by unfold LandOk; omega
theorem gap_uniq {p : Int → Prop} {L M : List Int} (hL : L.Pairwise (· < ·)) (hM : M.Pairwise (· < ·)) (h : ∀ g, g ∈ L ↔ Gap p g) (k : ∀ g, g ∈ M ↔ Gap p g) : L = M :=
  pw_ext hL hM fun g => (h g).trans (k g).symm
theorem sun_gaps (g : Int) : g ∈ ([5, 6, 11] : List Int) ↔ Gap (has 365 1 4 0 0 7 0) g := by
  have R := rnd_has (pl := 0) (nm := 0) sun_ok (wk := 7) (by decide) 0
  rw [← R.gap]
  have e : difs (rnd (turnOf 365 1 4 7) (flt (hasB 365 1 4 0 0 7 0) 0 (turnOf 365 1 4 7).toNat)) = [6, 11, 6, 5] := by decide +kernel
  rw [e]
  simp only [List.mem_cons, List.not_mem_nil, or_false]
  omega
theorem even_has (z : Int) : has 364 0 1 3 0 7 3 z := by
  show (fday 364 0 1 3 z + 0) % 7 = 3
  unfold fday
  omega
theorem even_gaps (g : Int) : g ∈ ([1] : List Int) ↔ Gap (has 364 0 1 3 0 7 3) g := by
  rw [List.mem_singleton]
  constructor
  · rintro rfl
    exact ⟨0, even_has _, by omega, even_has _, fun z h _ => by omega⟩
  · rintro ⟨y, _, h1, _, h2⟩
    have := h2 (y + 1) (by omega) (even_has _)
    omega
theorem even_not (z : Int) : ¬ has 364 0 1 3 0 7 4 z := by
  show ¬ (fday 364 0 1 3 z + 0) % 7 = 4
  unfold fday
  omega
theorem even_none (g : Int) : g ∈ ([] : List Int) ↔ Gap (has 364 0 1 3 0 7 4) g := by
  constructor
  · intro h; exact absurd h (by simp)
  · rintro ⟨y, h, _⟩
    exact absurd h (even_not y)
theorem even_bar : BarI 364 0 1 3 0 7 4 7 := ⟨by decide, ⟨52, by decide⟩, ⟨1, by decide⟩, fun j h1 h2 => by
  have e : j = 0 := by omega
  subst e
  decide⟩
theorem sun_many : cnt (fun x => decide (has 365 1 4 0 0 7 0 x)) 0 (28 - 0 : Int).toNat = 4 := by
  rw [cnt_congr (q := hasB 365 1 4 0 0 7 0) fun z _ _ => rfl]
  decide +kernel
theorem sun_next : Fst (has 365 1 4 0 0 7 1) 0 1 := ⟨by decide, by show (fday 365 1 4 0 1 + 0) % 7 = 1; decide, fun z h k => by
  by_cases e : z = 0
  · subst e
    exact absurd k (by show ¬ (fday 365 1 4 0 0 + 0) % 7 = 1; decide)
  · omega⟩
theorem sm_zero : Both 365 1 4 0 0 354 11 30 0 0 0 := ⟨⟨0, by decide⟩, ⟨0, by decide⟩⟩
theorem sm_fst : Fst (Both 365 1 4 0 0 354 11 30 0 0) 0 0 := ⟨by decide, sm_zero, fun z h _ => h⟩
theorem sun_days : cnt (bothB 365 1 4 0 0 365 1 4 0 0) 0 (1461 - 0 : Int).toNat = 4 := by
  rw [cnt_congr (q := fun z => decide (z - fday 365 1 4 0 (yof 365 1 4 0 z) = 0)) fun z _ _ => by
    rw [Bool.eq_iff_iff, bothB_iff, decide_eq_true_iff, ← at_yof sun_ok (by decide)]
    exact ⟨fun h => h.1, fun h => ⟨h, h⟩⟩]
  decide +kernel
theorem sun_part (k : Int) (h0 : 0 ≤ k) (h1 : k < 4) : fday 365 1 4 0 k = fday 365 0 1 0 k := by
  unfold fday
  omega
theorem seven_no (z : Int) : ¬ Both 7 0 1 0 0 14 0 1 0 3 z := by
  rintro ⟨⟨y, h⟩, ⟨y', h'⟩⟩
  unfold fday at h h'
  omega
theorem seven_yes : Both 7 0 1 0 0 14 0 1 0 7 7 := ⟨⟨1, by decide⟩, ⟨0, by decide⟩⟩
theorem seven_next : Fst (Both 7 0 1 0 0 14 0 1 0 7) 8 21 := ⟨by decide, ⟨⟨3, by decide⟩, ⟨1, by decide⟩⟩, fun z h k => by
  obtain ⟨⟨y, h1⟩, ⟨y', h2⟩⟩ := k
  unfold fday at h1 h2
  omega⟩
/-- where there is one there is a gap -/
theorem gap_some {d t b s pl wk nm : Int} (h : LandOk d t b s) (hw : 1 ≤ wk ∧ wk ≤ 20) (hno : ∀ g, ¬ Gap (has d t b s pl wk nm) g) (z : Int) : ¬ has d t b s pl wk nm z := by
  have R := rnd_has (pl := pl) (nm := nm) h hw 0
  refine (R.ne.mp ?_) z
  cases e : flt (hasB d t b s pl wk nm) 0 (turnOf d t b wk).toNat with
  | nil => rfl
  | cons x xs =>
    rw [e] at R
    have hg : ∃ g, g ∈ difs (rnd (turnOf d t b wk) (x :: xs)) := by
      cases xs with
      | nil => exact ⟨_, by simp [rnd, difs]; rfl⟩
      | cons y ys => exact ⟨y - x, by simp [rnd, difs]⟩
    obtain ⟨g, hg⟩ := hg
    exact absurd ((R.gap g).mp hg) (hno g)
theorem plain_fday (d y : Int) : fday d 0 1 5 y = d * y + 5 := by unfold fday; simp
theorem plain_yof {d : Int} (h : 1 ≤ d) : yof d 0 1 5 4 = -1 := by
  unfold yof
  rw [show d * 1 + 0 = d by omega, show ((4 + 1) * 1 - 5 - 1 : Int) = -1 by decide]
  refine Int.le_antisymm ?_ ?_
  · have : (-1 : Int) / d < 0 := Int.ediv_neg_of_neg_of_pos (by decide) (by omega)
    omega
  · exact Int.le_ediv_of_mul_le (by omega) (by omega)
end Ly
namespace Ly
/-! ### lands told back -/
def mx : List Int → Int
  | [] => 0
  | [x] => x
  | x :: r => max x (mx r)
def mn : List Int → Int
  | [] => 0
  | [x] => x
  | x :: r => min x (mn r)
theorem mx_is : ∀ {ns : List Int}, ns ≠ [] → mx ns ∈ ns ∧ ∀ y ∈ ns, y ≤ mx ns
  | [], h => absurd rfl h
  | [x], _ => ⟨by simp [mx], by simp [mx]⟩
  | x :: z :: r, _ => by
    have ⟨h1, h2⟩ := mx_is (ns := z :: r) (by simp)
    show max x (mx (z :: r)) ∈ _ ∧ _
    refine ⟨?_, fun y hy => ?_⟩
    · by_cases c : x ≤ mx (z :: r)
      · rw [Int.max_eq_right c]; exact List.mem_cons_of_mem _ h1
      · rw [Int.max_eq_left (by omega)]; exact List.mem_cons_self ..
    · show y ≤ max x (mx (z :: r))
      rcases List.mem_cons.mp hy with e | e
      · omega
      · have := h2 y e; omega
theorem mn_is : ∀ {ns : List Int}, ns ≠ [] → mn ns ∈ ns ∧ ∀ y ∈ ns, mn ns ≤ y
  | [], h => absurd rfl h
  | [x], _ => ⟨by simp [mn], by simp [mn]⟩
  | x :: z :: r, _ => by
    have ⟨h1, h2⟩ := mn_is (ns := z :: r) (by simp)
    show min x (mn (z :: r)) ∈ _ ∧ _
    refine ⟨?_, fun y hy => ?_⟩
    · by_cases c : x ≤ mn (z :: r)
      · rw [Int.min_eq_left c]; exact List.mem_cons_self ..
      · rw [Int.min_eq_right (by omega)]; exact List.mem_cons_of_mem _ h1
    · show min x (mn (z :: r)) ≤ y
      rcases List.mem_cons.mp hy with e | e
      · omega
      · have := h2 y e; omega
theorem mx_eq {ns : List Int} {m : Int} (h : m ∈ ns) (k : ∀ y ∈ ns, y ≤ m) : m = mx ns := by
  have ⟨h1, h2⟩ := mx_is (ns := ns) (by rintro rfl; simp at h)
  have := h2 m h
  have := k _ h1
  omega
theorem mn_eq {ns : List Int} {m : Int} (h : m ∈ ns) (k : ∀ y ∈ ns, m ≤ y) : m = mn ns := by
  have ⟨h1, h2⟩ := mn_is (ns := ns) (by rintro rfl; simp at h)
  have := h2 m h
  have := k _ h1
  omega
abbrev Rw := List (Int × Int)
def lowB (R : Rw) (st b : Int) : List Int := R.map fun r => r.2 * b - st * r.1
def highB (R : Rw) (st b : Int) : List Int := R.map fun r => r.2 * b + b - 1 - st * r.1
def byL (R : Rw) (d t b : Int) : List (List Int) :=
  (List.range (mn (highB R (d * b + t) b) + 1 - mx (lowB R (d * b + t) b)).toNat).map fun i : Nat => [d, t, b, mx (lowB R (d * b + t) b) + i]
def topsL (R : Rw) (d b : Int) (k : Nat) : List (List Int) := (List.range k).flatMap fun t : Nat => if gcdI b t = 1 then byL R d t b else []
def botsL (R : Rw) (d : Int) (k : Nat) : List (List Int) := (List.range k).flatMap fun j : Nat => topsL R d (1 + j) (1 + j)
def daysL (R : Rw) (most : Nat) (lo : Int) (k : Nat) : List (List Int) := (List.range k).flatMap fun j : Nat => botsL R (lo + j) most
def nearOf (R : Rw) : Int := match R.head?, R.getLast? with
  | some a, some z => (z.2 - a.2) / (z.1 - a.1)
  | _, _ => 0
def landsL (R : Rw) (most : Int) : List (List Int) := daysL R most.toNat (max 1 (nearOf R - 2)) (min 400 (nearOf R + 2) + 1 - max 1 (nearOf R - 2)).toNat
theorem flat_succ {α : Type} (f : Nat → List α) (k : Nat) : (List.range (k + 1)).flatMap f = (List.range k).flatMap f ++ f k := by
  rw [List.range_succ, List.flatMap_append]; simp
theorem begins {d t b s y n : Int} (hb : 1 ≤ b) : fday d t b s y = n ↔ n * b - (d * b + t) * y ≤ s ∧ s ≤ n * b + b - 1 - (d * b + t) * y := by
  unfold fday
  generalize (d * b + t) * y = x
  constructor
  · rintro rfl
    have h1 := Int.emod_nonneg (x + s) (show b ≠ 0 by omega)
    have h2 := Int.emod_lt_of_pos (x + s) (show 0 < b by omega)
    have h3 := Int.emod_add_mul_ediv (x + s) b
    have h4 := Int.mul_comm b ((x + s) / b)
    omega
  · rintro ⟨h1, h2⟩
    have e : x + s = (x + s - n * b) + n * b := by omega
    rw [e, Int.add_mul_ediv_right _ _ (by omega), Int.ediv_eq_zero_of_lt (by omega) (by omega)]
    omega
theorem mem_byL {R : Rw} {d t b : Int} (hR : R ≠ []) (hb : 1 ≤ b) {L : List Int} : L ∈ byL R d t b ↔ ∃ s, L = [d, t, b, s] ∧ ∀ r ∈ R, fday d t b s r.1 = r.2 := by
  have l1 : lowB R (d * b + t) b ≠ [] := by unfold lowB; simpa using hR
  have l2 : highB R (d * b + t) b ≠ [] := by unfold highB; simpa using hR
  have ⟨a1, a2⟩ := mx_is l1
  have ⟨b1, b2⟩ := mn_is l2
  unfold byL
  rw [List.mem_map]
  constructor
  · rintro ⟨i, hi, rfl⟩
    refine ⟨_, rfl, fun r hr => (begins hb).mpr ?_⟩
    have h1 := a2 _ (List.mem_map.mpr ⟨r, hr, rfl⟩)
    have h2 := b2 _ (List.mem_map.mpr ⟨r, hr, rfl⟩)
    have h3 := List.mem_range.mp hi
    omega
  · rintro ⟨s, rfl, h⟩
    have h1 : mx (lowB R (d * b + t) b) ≤ s := by
      obtain ⟨r, hr, e⟩ := List.mem_map.mp a1
      have := (begins hb).mp (h r hr)
      omega
    have h2 : s ≤ mn (highB R (d * b + t) b) := by
      obtain ⟨r, hr, e⟩ := List.mem_map.mp b1
      have := (begins hb).mp (h r hr)
      omega
    refine ⟨(s - mx (lowB R (d * b + t) b)).toNat, List.mem_range.mpr (by omega), ?_⟩
    congr 3
    simp only [List.cons.injEq, and_true]
    omega
theorem byL_len {R : Rw} {d t b : Int} (hR : R ≠ []) (hb : 1 ≤ b) : (byL R d t b).length ≤ b.toNat := by
  have l1 : lowB R (d * b + t) b ≠ [] := by unfold lowB; simpa using hR
  have l2 : highB R (d * b + t) b ≠ [] := by unfold highB; simpa using hR
  have ⟨_, a2⟩ := mx_is l1
  have ⟨_, b2⟩ := mn_is l2
  unfold byL
  rw [List.length_map, List.length_range]
  obtain ⟨r, hr⟩ := List.exists_mem_of_ne_nil R hR
  have h1 := a2 _ (List.mem_map.mpr ⟨r, hr, rfl⟩)
  have h2 := b2 _ (List.mem_map.mpr ⟨r, hr, rfl⟩)
  omega
theorem flatN_len {α : Type} {f : Nat → List α} {m : Nat} : ∀ {k : Nat}, (∀ i, i < k → (f i).length ≤ m) → ((List.range k).flatMap f).length ≤ k * m
  | 0, _ => by simp
  | k + 1, h => by
    rw [flat_succ, List.length_append, Nat.succ_mul]
    have := flatN_len (k := k) fun i hi => h i (by omega)
    have := h k (by omega)
    omega
theorem topsL_len {R : Rw} {d b : Int} (hR : R ≠ []) (hb : 1 ≤ b) (hB : b ≤ 12) {k : Nat} (hk : k ≤ 12) : (topsL R d b k).length ≤ 144 := by
  have := flatN_len (f := fun t : Nat => if gcdI b t = 1 then byL R d t b else []) (m := 12) (k := k) fun i _ => by
    split
    · have := byL_len (d := d) (t := (i : Int)) hR hb; omega
    · exact Nat.zero_le _
  unfold topsL
  have : k * 12 ≤ 12 * 12 := Nat.mul_le_mul_right _ hk
  omega
theorem botsL_len {R : Rw} {d : Int} (hR : R ≠ []) {k : Nat} (hk : k ≤ 12) : (botsL R d k).length ≤ 1728 := by
  have := flatN_len (f := fun j : Nat => topsL R d (1 + j) (1 + j)) (m := 144) (k := k) fun i hi => topsL_len hR (by omega) (by omega) (by omega)
  unfold botsL
  have : k * 144 ≤ 12 * 144 := Nat.mul_le_mul_right _ hk
  omega
theorem daysL_len {R : Rw} {lo : Int} {most : Nat} (hR : R ≠ []) (hm : most ≤ 12) {k : Nat} (hk : k ≤ 6) : (daysL R most lo k).length ≤ 10368 := by
  have := flatN_len (f := fun j : Nat => botsL R (lo + j) most) (m := 1728) (k := k) fun i hi => botsL_len hR hm
  unfold daysL
  have : k * 1728 ≤ 6 * 1728 := Nat.mul_le_mul_right _ hk
  omega
theorem mem_topsL {R : Rw} {d b : Int} {k : Nat} (hR : R ≠ []) (hb : 1 ≤ b) {L : List Int} : L ∈ topsL R d b k ↔ ∃ t s : Int, 0 ≤ t ∧ t < k ∧ gcdI b t = 1 ∧ L = [d, t, b, s] ∧ ∀ r ∈ R, fday d t b s r.1 = r.2 := by
  unfold topsL
  rw [List.mem_flatMap]
  constructor
  · rintro ⟨t, ht, h⟩
    split at h
    · rename_i g
      obtain ⟨s, e, h⟩ := (mem_byL hR hb).mp h
      exact ⟨t, s, by omega, by have := List.mem_range.mp ht; omega, g, e, h⟩
    · exact absurd h (by simp)
  · rintro ⟨t, s, h0, h1, g, e, h⟩
    obtain ⟨n, rfl⟩ : ∃ n : Nat, t = n := ⟨t.toNat, by omega⟩
    exact ⟨n, List.mem_range.mpr (by omega), by rw [if_pos g]; exact (mem_byL hR hb).mpr ⟨s, e, h⟩⟩
theorem mem_botsL {R : Rw} {d : Int} {k : Nat} (hR : R ≠ []) {L : List Int} : L ∈ botsL R d k ↔ ∃ t b s : Int, 1 ≤ b ∧ b ≤ k ∧ 0 ≤ t ∧ t < b ∧ gcdI b t = 1 ∧ L = [d, t, b, s] ∧ ∀ r ∈ R, fday d t b s r.1 = r.2 := by
  unfold botsL
  rw [List.mem_flatMap]
  constructor
  · rintro ⟨j, hj, h⟩
    obtain ⟨t, s, h0, h1, g, e, h⟩ := (mem_topsL hR (by omega)).mp h
    exact ⟨t, 1 + j, s, by omega, by have := List.mem_range.mp hj; omega, h0, by omega, g, e, h⟩
  · rintro ⟨t, b, s, b1, b2, h0, h1, g, e, h⟩
    obtain ⟨n, rfl⟩ : ∃ n : Nat, b = 1 + (n : Int) := ⟨(b - 1).toNat, by omega⟩
    exact ⟨n, List.mem_range.mpr (by omega), (mem_topsL hR (by omega)).mpr ⟨t, s, h0, by omega, g, e, h⟩⟩
theorem mem_daysL {R : Rw} {lo : Int} {most k : Nat} (hR : R ≠ []) {L : List Int} : L ∈ daysL R most lo k ↔ ∃ d t b s : Int, lo ≤ d ∧ d < lo + k ∧ 1 ≤ b ∧ b ≤ most ∧ 0 ≤ t ∧ t < b ∧ gcdI b t = 1 ∧ L = [d, t, b, s] ∧ ∀ r ∈ R, fday d t b s r.1 = r.2 := by
  unfold daysL
  rw [List.mem_flatMap]
  constructor
  · rintro ⟨j, hj, h⟩
    obtain ⟨t, b, s, b1, b2, h⟩ := (mem_botsL hR).mp h
    exact ⟨lo + j, t, b, s, by omega, by have := List.mem_range.mp hj; omega, b1, b2, h⟩
  · rintro ⟨d, t, b, s, d1, d2, h⟩
    obtain ⟨n, rfl⟩ : ∃ n : Nat, d = lo + (n : Int) := ⟨(d - lo).toNat, by omega⟩
    exact ⟨n, List.mem_range.mpr (by omega), (mem_botsL hR).mpr ⟨t, b, s, h⟩⟩
/-- what begins all -/
def Tells (R : Rw) (most : Int) (L : List Int) : Prop := ∃ d t b s : Int, 1 ≤ d ∧ d ≤ 400 ∧ 1 ≤ b ∧ b ≤ most ∧ 0 ≤ t ∧ t < b ∧ gcdI b t = 1 ∧ L = [d, t, b, s] ∧ ∀ r ∈ R, fday d t b s r.1 = r.2
theorem mul_lt_of {a b c : Int} (hb : 1 ≤ b) (h : a * b < c * b) : a < c := Int.lt_of_mul_lt_mul_right h (by omega)
/-- the days of a land that begins two years lie near -/
theorem near_of {d t b s y n y' n' : Int} (hb : 1 ≤ b) (ht : 0 ≤ t ∧ t < b) (hy : y < y') (h1 : fday d t b s y = n) (h2 : fday d t b s y' = n') : d ≤ (n' - n) / (y' - y) ∧ (n' - n) / (y' - y) ≤ d + 1 := by
  have a := (begins hb).mp h1
  have c := (begins hb).mp h2
  have e1 : (d * b + t) * y' - (d * b + t) * y = (d * b + t) * (y' - y) := by rw [Int.mul_sub]
  have e2 : (d * b + t) * (y' - y) = d * (y' - y) * b + t * (y' - y) := by
    rw [Int.add_mul, Int.mul_assoc, Int.mul_comm b, ← Int.mul_assoc]
  have e3 : n' * b - n * b = (n' - n) * b := by rw [Int.sub_mul]
  have f1 : 0 ≤ t * (y' - y) := Int.mul_nonneg ht.1 (by omega)
  have f2 : t * (y' - y) ≤ b * (y' - y) - (y' - y) := by
    have := Int.mul_le_mul_of_nonneg_right (show t ≤ b - 1 by omega) (show 0 ≤ y' - y by omega)
    rw [Int.sub_mul, Int.one_mul] at this
    exact this
  have f3 : (d + 1) * (y' - y) * b = d * (y' - y) * b + b * (y' - y) := by
    rw [Int.add_mul, Int.one_mul, Int.add_mul, Int.mul_comm b]
  have g1 : d * (y' - y) - 1 < n' - n := by
    refine mul_lt_of hb ?_
    rw [Int.sub_mul, Int.one_mul]
    omega
  have g2 : n' - n < (d + 1) * (y' - y) + 1 := by
    refine mul_lt_of hb ?_
    rw [Int.add_mul, Int.one_mul, f3]
    omega
  constructor
  · exact Int.le_ediv_of_mul_le (by omega) (by omega)
  · have : (n' - n) / (y' - y) < d + 1 + 1 := Int.ediv_lt_of_lt_mul (by omega) (by
      rw [Int.add_mul (d + 1), Int.one_mul]
      omega)
    omega
theorem mem_landsL {R : Rw} {most : Int} (h2 : 2 ≤ R.length) (hp : R.Pairwise fun a b => a.1 < b.1) {L : List Int} : L ∈ landsL R most ↔ Tells R most L := by
  have hR : R ≠ [] := by rintro rfl; simp at h2
  obtain ⟨x, r, rfl⟩ : ∃ x r, R = x :: r := by cases R with | nil => exact absurd rfl hR | cons x r => exact ⟨x, r, rfl⟩
  have hr : r ≠ [] := by rintro rfl; simp at h2
  obtain ⟨z, hz⟩ : ∃ z, (x :: r).getLast? = some z := ⟨_, List.getLast?_eq_some_getLast hR⟩
  have hzr : z ∈ r := by
    have : (x :: r).getLast? = r.getLast? := by
      cases r with
      | nil => exact absurd rfl hr
      | cons y q => rw [List.getLast?_cons_cons]
    rw [this] at hz
    exact List.mem_of_getLast? hz
  have hxz : x.1 < z.1 := (List.pairwise_cons.mp hp).1 z hzr
  have en : nearOf (x :: r) = (z.2 - x.2) / (z.1 - x.1) := by
    unfold nearOf
    rw [hz]
    rfl
  unfold landsL Tells
  rw [mem_daysL hR]
  constructor
  · rintro ⟨d, t, b, s, d1, d2, b1, b2, h⟩
    exact ⟨d, t, b, s, by omega, by omega, b1, by omega, h⟩
  · rintro ⟨d, t, b, s, d1, d2, b1, b2, t1, t2, g, e, h⟩
    have := near_of b1 ⟨t1, t2⟩ hxz (h x (List.mem_cons_self ..)) (h z (List.mem_cons_of_mem _ hzr))
    rw [← en] at this
    exact ⟨d, t, b, s, by omega, by omega, b1, by omega, t1, t2, g, e, h⟩
/-! ### none twice -/
theorem flat_nodup {α : Type} {f : Nat → List α} (g : α → Int) : ∀ {k : Nat}, (∀ i, i < k → (f i).Nodup) → (∀ i x, i < k → x ∈ f i → g x = (i : Int)) → ((List.range k).flatMap f).Nodup
  | 0, _, _ => by simp
  | k + 1, h1, h2 => by
    rw [flat_succ, List.nodup_append]
    refine ⟨flat_nodup g (fun i hi => h1 i (by omega)) (fun i x hi => h2 i x (by omega)), h1 k (by omega), fun x hx y hy e => ?_⟩
    subst e
    obtain ⟨i, hi, hx⟩ := List.mem_flatMap.mp hx
    have hi := List.mem_range.mp hi
    have a := h2 i x (by omega) hx
    have b := h2 k x (by omega) hy
    omega
theorem map_nodup {α β : Type} {f : α → β} (hf : ∀ a b, f a = f b → a = b) {l : List α} (h : l.Nodup) : (l.map f).Nodup := by
  unfold List.Nodup at *
  rw [List.pairwise_map]
  exact h.imp fun {a b} n e => n (hf a b e)
theorem byL_nodup {R : Rw} {d t b : Int} : (byL R d t b).Nodup := by
  unfold byL
  refine map_nodup (fun a b e => ?_) List.nodup_range
  simp only [List.cons.injEq, and_true, true_and] at e
  omega
theorem landsL_nodup {R : Rw} {most : Int} (hR : R ≠ []) : (landsL R most).Nodup := by
  unfold landsL daysL
  refine flat_nodup (fun L => L.getD 0 0 - max 1 (nearOf R - 2)) (fun i _ => ?_) (fun i L hi hL => ?_)
  · unfold botsL
    refine flat_nodup (fun L => L.getD 2 0 - 1) (fun j _ => ?_) (fun j L hj hL => ?_)
    · unfold topsL
      refine flat_nodup (fun L => L.getD 1 0) (fun k _ => ?_) (fun k L hk hL => ?_)
      · split
        · exact byL_nodup
        · exact List.nodup_nil
      · split at hL
        · obtain ⟨s, rfl, _⟩ := (mem_byL hR (by omega)).mp hL
          rfl
        · exact absurd hL (by simp)
    · obtain ⟨t, s, _, _, _, rfl, _⟩ := (mem_topsL hR (by omega)).mp hL
      show (1 + (j : Int)) - 1 = j
      omega
  · obtain ⟨t, b, s, _, _, _, _, _, rfl, _⟩ := (mem_botsL hR).mp hL
    show max 1 (nearOf R - 2) + (i : Int) - max 1 (nearOf R - 2) = i
    omega
/-! ### the order of tuples -/
def lexL : List Int → List Int → Bool
  | _, [] => false
  | [], _ :: _ => true
  | x :: r, y :: q => if x = y then lexL r q else decide (x < y)
theorem lexL_asym : ∀ x y : List Int, lexL x y = true → lexL y x = false
  | _, [], h => by simp [lexL] at h
  | [], y :: q, _ => by simp [lexL]
  | x :: r, y :: q, h => by
    unfold lexL at h ⊢
    by_cases e : x = y
    · subst e
      rw [if_pos rfl] at h ⊢
      exact lexL_asym r q h
    · rw [if_neg e] at h
      rw [if_neg (Ne.symm e)]
      have := of_decide_eq_true h
      exact decide_eq_false (by omega)
theorem lexL_tr : ∀ x y z : List Int, lexL y x = false → lexL z y = false → lexL z x = false
  | [], y, z, _, _ => by cases z <;> simp [lexL]
  | x :: r, [], z, h, _ => by simp [lexL] at h
  | x :: r, y :: q, [], _, h => by simp [lexL] at h
  | x :: r, y :: q, z :: p, h1, h2 => by
    unfold lexL at h1 h2 ⊢
    by_cases e : y = x
    · by_cases e' : z = y
      · subst e; subst e'
        rw [if_pos rfl] at h1 h2 ⊢
        exact lexL_tr r q p h1 h2
      · subst e
        rw [if_neg e'] at h2 ⊢
        exact h2
    · rw [if_neg e] at h1
      have a := of_decide_eq_false h1
      by_cases e' : z = y
      · subst e'
        rw [if_neg e]
        exact h1
      · rw [if_neg e'] at h2
        have b := of_decide_eq_false h2
        rw [if_neg (by omega)]
        exact decide_eq_false (by omega)
theorem lexL_tot : ∀ x y : List Int, lexL x y = false → lexL y x = false → x = y
  | [], [], _, _ => rfl
  | [], y :: q, h, _ => by simp [lexL] at h
  | x :: r, [], _, h => by simp [lexL] at h
  | x :: r, y :: q, h1, h2 => by
    unfold lexL at h1 h2
    by_cases e : x = y
    · subst e
      rw [if_pos rfl] at h1 h2
      rw [lexL_tot r q h1 h2]
    · rw [if_neg e] at h1
      rw [if_neg (Ne.symm e)] at h2
      have a := of_decide_eq_false h1
      have b := of_decide_eq_false h2
      omega
theorem lexL_refl (x : List Int) : lexL x x = false := by
  cases h : lexL x x with
  | false => rfl
  | true => rw [lexL_asym x x h] at h; cases h
/-- two sorted lists without doubles that have the same members are the same -/
theorem lex_uniq : ∀ {l m : List (List Int)}, l.Pairwise (fun a b => lexL b a = false) → m.Pairwise (fun a b => lexL b a = false) → l.Nodup → m.Nodup → (∀ x, x ∈ l ↔ x ∈ m) → l = m
  | [], [], _, _, _, _, _ => rfl
  | [], y :: m, _, _, _, _, h => absurd ((h y).mpr (List.mem_cons_self ..)) (by simp)
  | x :: l, [], _, _, _, _, h => absurd ((h x).mp (List.mem_cons_self ..)) (by simp)
  | x :: l, y :: m, h1, h2, n1, n2, h => by
    rw [List.pairwise_cons] at h1 h2
    unfold List.Nodup at n1 n2
    rw [List.pairwise_cons] at n1 n2
    have e : x = y := by
      rcases List.mem_cons.mp ((h x).mp (List.mem_cons_self ..)) with e | e
      · exact e
      · rcases List.mem_cons.mp ((h y).mpr (List.mem_cons_self ..)) with e' | e'
        · exact e'.symm
        · exact lexL_tot x y (h2.1 x e) (h1.1 y e')
    subst e
    rw [lex_uniq h1.2 h2.2 n1.2 n2.2 fun z => ?_]
    constructor
    · intro hz
      rcases List.mem_cons.mp ((h z).mp (List.mem_cons_of_mem _ hz)) with e | e
      · exact absurd e.symm (n1.1 z hz)
      · exact e
    · intro hz
      rcases List.mem_cons.mp ((h z).mpr (List.mem_cons_of_mem _ hz)) with e | e
      · exact absurd e.symm (n2.1 z hz)
      · exact e
theorem told_one : landsL [(9999, -1000000), (10000, -999600)] 1 = [[400, 0, 1, -4999600]] := by decide +kernel
end Ly
set_option Elab.async false
set_option linter.all false
set_option maxRecDepth 100000
set_option maxHeartbeats 4000000
/-! the base: what is forgotten behind a call, ranges of any size, lists read -/
namespace Ly
open PySem PySem.Spec PyProof.Rows L2

/-! ### forgetting -/
/-- no dict with tuple keys is tracked -/
def Pl : HO → Bool
  | .dT _ => false
  | .frz _ (.lst _) => true
  | .frz _ (.tup _) => true
  | .frz _ (.dK _) => true
  | .frz _ _ => false
  | _ => true
def NoT (H : Hp) : Prop := ∀ b o, H b = some o → Pl o = true
theorem NoT.upd {H : Hp} {p : Addr} {o : HO} (h : NoT H) (ho : Pl o = true) : NoT (upd H p o) := fun b u e => by
  by_cases hb : b = p
  · subst hb
    rw [upd_same] at e
    cases e
    exact ho
  · rw [upd_ne hb] at e
    exact h b u e
theorem NoT.tup {H : Hp} {p : Addr} {xs : List V} (h : NoT H) : NoT (L2.upd H p (.tup xs)) := h.upd rfl
theorem NoT.lst {H : Hp} {p : Addr} {xs : List V} (h : NoT H) : NoT (L2.upd H p (.lst xs)) := h.upd rfl
theorem NoT.dK {H : Hp} {p : Addr} {xs : List (Key × V)} (h : NoT H) : NoT (L2.upd H p (.dK xs)) := h.upd rfl
theorem NoT.of_only {H : Hp} (h : L2.Only H) : NoT H := fun b u e => by
  rcases h b with z | ⟨o, xs, z⟩
  · rw [z] at e; cases e
  · rw [z] at e; cases e; rfl
/-- the smaller heap H1 may stand for H' behind a call from H -/
structure Fg (H H' H1 : Hp) : Prop where
  sub : ∀ b o, H1 b = some o → H' b = some o
  tups : ∀ b xs, H b = some (.tup xs) → H1 b = some (.tup xs)
  frzs : ∀ b o u, H b = some (.frz o u) → H1 b = some (.frz o u)
  tbls : ∀ b ps, H b = some (.tbl ps) → ∃ more, H1 b = some (.tbl (ps ++ more))
  own : ∀ b C dx fs, H1 b = some (.ins C dx fs) → H1 dx = some (.own b)
  noT : NoT H1
theorem Fg.ok {P : Program} {w : World} {H H' H1 : Hp} {h : Heap} (f : Fg H H' H1) (ok : HOk P w H' h) : HOk P w H1 h := fun a o e => by
  have q := ok a o (f.sub a o e)
  have n := f.noT a o e
  cases o with
  | ins C dx fs =>
    obtain ⟨_, r⟩ := q
    exact ⟨f.own a C dx fs e, r⟩
  | dT kvs => exact absurd (show false = true from n) (by decide)
  | frz ob u =>
    obtain ⟨q1, q2⟩ := q
    refine ⟨q1, ?_⟩
    cases u with
    | lst xs => exact q2
    | tup xs => exact q2
    | dK xs => exact q2
    | _ => exact absurd (show false = true from n) (by decide)
  | _ => exact q
theorem Fg.un {fs : List Addr} {H H' H1 : Hp} {h h' : Heap} (f : Fg H H' H1) (u : Un fs [] H H' h h') : Un fs [] H H1 h h' where
  keep := u.keep
  slot := u.slot
  free := fun b o e n hx => by
    have q := u.free b o e n hx
    cases r : H1 b with
    | none => rfl
    | some x => rw [f.sub b x r] at q; cases q
  there := u.there
  tups := f.tups
  frzs := f.frzs
  tbls := f.tbls
section
variable {P : Program} {w : World} {K : PySem.W.Frag} {mg : Str → Option Value} {base : Heap} {CX : CXT} {k : Nat} {f : Addr} {fd : FuncData} {ps : List Str} {sp : Sp}
/-- behind a call what is not wanted may be forgotten -/
theorem FnOk.fg (F : FnOk P w K mg base CX k f fd ps sp) :
    FnOk P w K mg base CX k f fd ps (fun vs H Q E => sp vs H (fun v H' => ∃ H1, ((∀ b C dx fs, H b = some (.ins C dx fs) → H dx = some (.own b)) → Fg H H' H1) ∧ Q v H1) E) :=
  ⟨fun vs H Q E h => F.len vs H _ E h, fun A outer s H args us vs Q E hr he hb hv hs => by
    refine codeAny_mono (F.run A outer s H args us vs _ E hr he hb hv hs) fun r s' hq => ?_
    cases r with
    | error e => exact hq
    | ok fl =>
      cases fl with
      | ret u =>
        obtain ⟨v, H', os, bare, un, hok, rv, H1, hf, q⟩ := hq
        have hf' := hf fun b C dx fs e => by
          obtain ⟨z, _⟩ := he.hok b _ e
          exact z
        exact ⟨v, H1, os, bare, hf'.un un, hf'.ok hok, rv, q⟩
      | next => exact hq
      | brk => exact hq
      | cont => exact hq⟩
/-- all is as it was -/
theorem Fg.same {H H' : Hp} (n : NoT H) (s : Same H H') : (∀ b C dx fs, H b = some (.ins C dx fs) → H dx = some (.own b)) → Fg H H' H := fun o =>
  ⟨s, fun _ _ e => e, fun _ _ _ e => e, fun _ _ e => ⟨#[], by rw [e]; simp⟩, o, n⟩
/-- what is wanted behind a body that may leave things behind -/
def fgQ (H : Hp) (Q : VK) : VK := fun v H' => ∃ H1, ((∀ b C dx fs, H b = some (.ins C dx fs) → H dx = some (.own b)) → Fg H H' H1) ∧ Q v H1
theorem fg_same {H H' : Hp} {Q : VK} {v : V} (n : NoT H) (s : Same H H') (q : Q v H) : fgQ H Q v H' := ⟨H, Fg.same n s, q⟩
theorem fg_all {H H' : Hp} {Q : VK} {v : V} (n : NoT H) (s : Same H H') (n' : NoT H') (o : ∀ b C dx fs, H' b = some (.ins C dx fs) → H b = some (.ins C dx fs)) (q : Q v H') : fgQ H Q v H' :=
  ⟨H', fun ow => ⟨fun _ _ e => e, fun b xs e => s b _ e, fun b o u e => s b _ e, fun b ps e => ⟨#[], by rw [s b _ e]; simp⟩, fun b C dx fs e => s _ _ (ow b C dx fs (o b C dx fs e)), n'⟩, q⟩
theorem Fun.okF {x qual : Str} {st : Stmt} {N : List Str} (F : Fun K x qual st f fd) (S : FnScope N ps (defScope st)) (len : ∀ vs H Q E, sp vs H Q E → vs.length = ps.length)
    (hbody : ∀ (cdv : Value) (A : Around) (outer : List Env) (s : Shared) (H : Hp) (vs : List V) (Q : VK) (E : XK), Room k (A.deeper (envOfC qual (defScope st) s.heap.objs.size f cdv)) → sp vs H Q E →
      ∃ t, PSs (cxOf CX0 P w K mg base N qual (defScope st) f cdv A outer s H E).nox (defBody st) t ∧ t { nx := fun _ H' => fgQ H Q .non H', rt := fgQ H Q } (start N vs) H) : FnOk P w K mg base CX0 (k + 1) f fd ps sp := by
  have F2 : FnOk P w K mg base CX0 (k + 1) f fd ps (fun vs H Q2 E => ∃ Q, Q2 = fgQ H Q ∧ sp vs H Q E) := by
    refine F.ok S (fun vs H Q E h => ?_) (fun cdv A outer s H vs Q E hr h => ?_)
    · obtain ⟨Q0, _, h⟩ := h
      exact len vs H Q0 E h
    · obtain ⟨Q0, rfl, h⟩ := h
      exact hbody cdv A outer s H vs Q0 E hr h
  exact (FnOk.fg F2).imp fun vs H Q E h => ⟨Q, rfl, h⟩
theorem Fun.okFX {x qual : Str} {st : Stmt} {N : List Str} (F : Fun K x qual st f fd) (S : FnScope N ps (defScope st)) (len : ∀ vs H Q E, sp vs H Q E → vs.length = ps.length)
    (hbody : ∀ (cdv : Value) (A : Around) (outer : List Env) (s : Shared) (H : Hp) (vs : List V) (Q : VK) (E : XK), Room k (A.deeper (envOfC qual (defScope st) s.heap.objs.size f cdv)) → sp vs H Q E →
      ∃ t, PSs (cxOf (L2.CX P w) P w K mg base N qual (defScope st) f cdv A outer s H E) (defBody st) t ∧ t { nx := fun _ H' => fgQ H Q .non H', rt := fgQ H Q } (start N vs) H) : FnOk P w K mg base (L2.CX P w) (k + 1) f fd ps sp := by
  have F2 : FnOk P w K mg base (L2.CX P w) (k + 1) f fd ps (fun vs H Q2 E => ∃ Q, Q2 = fgQ H Q ∧ sp vs H Q E) := by
    refine F.okX S (fun vs H Q E h => ?_) (fun cdv A outer s H vs Q E hr h => ?_)
    · obtain ⟨Q0, _, h⟩ := h
      exact len vs H Q0 E h
    · obtain ⟨Q0, rfl, h⟩ := h
      exact hbody cdv A outer s H vs Q0 E hr h
  exact (FnOk.fg F2).imp fun vs H Q E h => ⟨Q, rfl, h⟩

/-! ### a def by its name -/
/-- the def x stands in the module and keeps its promise -/
def Df (P : Program) (w : World) (K : PySem.W.Frag) (mg : Str → Option Value) (base : Heap) (CX : CXT) (x : Str) (k : Nat) (ps : List Str) (sp : Sp) : Prop :=
  ∃ (f : Addr) (fd : FuncData), FnOk P w K mg base CX k f fd ps sp ∧ mg x = some (.ref f) ∧ PySem.W.keepIn K (.ref f) = true ∧ Binds K fd ps []
/-- the def x as it stands in the text -/
def Tx (K : PySem.W.Frag) (mg : Str → Option Value) (x : Str) (st : Stmt) (ps : List Str) : Prop :=
  ∃ (f : Addr) (fd : FuncData), Fun K x x st f fd ∧ mg x = some (.ref f) ∧ Binds K fd ps []
theorem Df.imp {P : Program} {w : World} {K : PySem.W.Frag} {mg : Str → Option Value} {base : Heap} {CX : CXT} {x : Str} {k : Nat} {ps : List Str} {sp sp' : Sp} (D : Df P w K mg base CX x k ps sp)
    (h : ∀ vs H Q E, sp' vs H Q E → sp vs H Q E) : Df P w K mg base CX x k ps sp' := by
  obtain ⟨f, fd, F, a, b, c⟩ := D
  exact ⟨f, fd, F.imp h, a, b, c⟩
theorem Df.mono {P : Program} {w : World} {K : PySem.W.Frag} {mg : Str → Option Value} {base : Heap} {CX : CXT} {x : Str} {j k : Nat} {ps : List Str} {sp : Sp} (D : Df P w K mg base CX x j ps sp) (h : j ≤ k) : Df P w K mg base CX x k ps sp := by
  obtain ⟨f, fd, F, a, b, c⟩ := D
  exact ⟨f, fd, F.mono h, a, b, c⟩
end
section
variable {X : Cx} {CX : CXT} {k j : Nat} {ps : List Str} {sp : Sp} {E : XK} {x : Str} {p pos : Pos} {e : Expr} {es : List Expr} {t : TA}
theorem pe_callD (D : Df X.prog X.w X.K X.mg X.base CX x k ps sp) (hr : Room j X.A) (hj : k ≤ j) (hg : Gl X x) (hx : Passes CX X E) (ha : PA X (e :: es) t)
    (hdb : (x == ("__debug__" : Str)) = false := by decide) (he : starEach (e :: es) X.env = (false, eval e X.env) :: starEach es X.env := by rfl) (hpl : (backTo pos (starEach es X.env)).any (·.1) = false := by rfl) :
    PE X (.Call (.Name x p) (e :: es) [] pos) (tCall sp [] E t) := by
  obtain ⟨f, fd, F, hm, hk, hb⟩ := D
  exact pe_call F (hr.mono hj) hg hm hk hb .nil hx ha hdb he hpl
end

/-! ### ranges of any size -/
theorem turn_long {P : Program} {w : World} {K : PySem.W.Frag} {tg : Expr} (it : Addr) (lo : Int) (n : Nat) : Turn P w K tg (Itr lo n) [it] it (fun i h => IsLongIter h it (lo + (i : Nat) * 1) ((n : Int) - (i : Nat)) 1) where
  mem := by simp
  obj := fun i h st b hb => by
    have e : b = it := by simpa using hb
    subst e
    exact ⟨_, st, fun v z => by
      have z' : Data.fields _ = Data.cell v := z
      cases z'⟩
  keep := fun i h h' st k => k it (by simp) _ st
  item := by
    intro X hP hw hK hc i pins s σ H E I hf st hg
    subst hP hw hK
    obtain ⟨f0, f1, f2, f3, f4, f5⟩ := hf it (by simp)
    have W := Walks.longrange (prog := X.prog) (w := X.w) (I.ok.hd hc) it lo 1 n
    refine W.item i s _ _ hg st fun v h' tk hv st' kk => ?_
    obtain ⟨t, rfl⟩ := hv
    have I1 : Inv X pins σ H { s with heap := h', toks := tk } := I.turned (fun b o hb e => kk b o (by simpa using hb) e) f0 f1 f3 f4 f5
    refine ⟨_, rfl, go_of (s := { s with heap := h', toks := tk }) (n := "longrange_iterator") st' rfl rfl (by decide) ⟨.int (lo + i), H, I1, ⟨t, ?_⟩, ⟨rfl, rfl⟩, st', fun b hb => (hf b hb).1⟩⟩
    rw [Int.mul_one]
  done := by
    intro X hP hw hK hc i pins s σ H E I hf st hg
    subst hP hw hK
    obtain ⟨f0, f1, f2, f3, f4, f5⟩ := hf it (by simp)
    exact wpAny_pyNext_long_end (I.ok.hd hc) st (by have : n ≤ i := hg; omega) fun h' eb => ⟨rfl, I.turned (t' := s.toks) (fun b o hb e => eb b o hb e) f0 f1 f3 f4 f5⟩
  self := fun _ _ _ _ _ st h => wpAny_pyIter_longiter st h
section
variable {X : Cx} {tg : Expr}
theorem range_itW {pins : List (Addr × Obj)} {σ : L2.St} {H : Hp} {s : Shared} {R : It → Hp → Prop} {E : Value → Shared → Prop} {lo hi : Int} {t u v : Tok} {tk : Nat} (I : Inv X pins σ H s)
    (q : R (Itr lo (hi - lo).toNat) H) : wpAny (model X.prog X.w) X.A (pyIter (.ref s.heap.objs.size)) (PIE X pins σ tg R) E { s with heap := s.heap.push { cls := .type "range", data := .fields #[.int lo t, .int hi u, .int 1 v] }, toks := tk } := by
  have I1 : Inv X pins σ H { s with heap := s.heap.push { cls := .type "range", data := .fields #[.int lo t, .int hi u, .int 1 v] }, toks := tk } := I.kept fun b o e => Heap.get?_push_of_some _ e
  have e1 : lo + ((0 : Nat) : Int) * 1 = lo := by simp
  have e2 : (((hi - lo).toNat : Nat) : Int) - ((0 : Nat) : Int) = Builtin.Range.rangeSize lo hi 1 := by rw [rangeSize_one]; split <;> omega
  have fp : ∀ b ∈ [(s.heap.push { cls := .type "range", data := .fields #[.int lo t, .int hi u, .int 1 v] }).objs.size], FpOk X pins H b := fun b hb => by
    have e : b = (s.heap.push { cls := .type "range", data := .fields #[.int lo t, .int hi u, .int 1 v] }).objs.size := by simpa using hb
    subst e
    exact I1.fpOk (Nat.le_refl _) (I1.hok.fresh (Nat.le_refl _))
  cases hsm : Builtin.Range.small lo hi 1 with
  | true =>
    refine wpAny_pyIter_range (IsRange.new ..) hsm ?_
    refine ⟨(s.heap.push { cls := .type "range", data := .fields #[.int lo t, .int hi u, .int 1 v] }).objs.size, [(s.heap.push { cls := .type "range", data := .fields #[.int lo t, .int hi u, .int 1 v] }).objs.size], _, _, H, rfl,
      I1.kept (t' := tk) fun b o e => Heap.get?_push_of_some _ e, turn_range _ lo (hi - lo).toNat, ?_, fp, q⟩
    show IsRangeIter _ _ (lo + ((0 : Nat) : Int) * 1) ((((hi - lo).toNat : Nat) : Int) - ((0 : Nat) : Int)) 1
    rw [e1, e2]
    exact Heap.get?_push_size _ rfl
  | false =>
    refine wpAny_pyIter_longrange (IsRange.new ..) hsm ?_
    refine ⟨(s.heap.push { cls := .type "range", data := .fields #[.int lo t, .int hi u, .int 1 v] }).objs.size, [(s.heap.push { cls := .type "range", data := .fields #[.int lo t, .int hi u, .int 1 v] }).objs.size], _, _, H, rfl,
      I1.kept (t' := tk) fun b o e => Heap.get?_push_of_some _ e, turn_long _ lo (hi - lo).toNat, ?_, fp, q⟩
    show IsLongIter _ _ (lo + ((0 : Nat) : Int) * 1) ((((hi - lo).toNat : Nat) : Int) - ((0 : Nat) : Int)) 1
    rw [e1, e2]
    exact Heap.get?_push_size _ rfl
def iRgW1 (ta : TA) : TI := fun σ H R => ta σ H fun vs H1 => ∃ j : Int, vs = [.int j] ∧ R (Itr 0 j.toNat) H1
def iRgW2 (ta : TA) : TI := fun σ H R => ta σ H fun vs H1 => ∃ i j : Int, vs = [.int i, .int j] ∧ R (Itr i (j - i).toNat) H1
theorem pi_rgW1 {a : Expr} {ta : TA} {p pos : Pos} (hg : Gl X "range") (hm : X.mg "range" = none) (ha : PA X [a] ta) (hs : starEach [a] X.env = [(false, eval a X.env)] := by rfl) : PI X tg (.Call (.Name "range" p) [a] [] pos) (iRgW1 ta) := by
  refine ⟨fun pins s σ H R I h => ?_⟩
  refine Call_ (ld_blt I hg hm boot_range (PyProof.Rows.callWith_type1 (thn (ha.run pos pins s σ H _ I h) fun us s1 ⟨vs, H1, I1, r1, q1⟩ => ?_) hs rfl))
  obtain ⟨j, e, q⟩ := q1
  subst e
  cases r1 with
  | cons r rr =>
    cases rr
    obtain ⟨t, rfl⟩ := r
    exact call_range_1 (range_itW I1 (by simpa using q))
theorem pi_rgW2 {a b : Expr} {ta : TA} {p pos : Pos} (hg : Gl X "range") (hm : X.mg "range" = none) (ha : PA X [a, b] ta) (hs : starEach [a, b] X.env = [(false, eval a X.env), (false, eval b X.env)] := by rfl) (hs2 : starEach [b] X.env = [(false, eval b X.env)] := by rfl) :
    PI X tg (.Call (.Name "range" p) [a, b] [] pos) (iRgW2 ta) := by
  refine ⟨fun pins s σ H R I h => ?_⟩
  refine Call_ (ld_blt I hg hm boot_range (PyProof.Rows.callWith_type1 (thn (ha.run pos pins s σ H _ I h) fun us s1 ⟨vs, H1, I1, r1, q1⟩ => ?_) (by rw [hs, hs2]) (by rw [hs2]; rfl)))
  obtain ⟨i, j, e, q⟩ := q1
  subst e
  cases r1 with
  | cons r rr =>
    cases rr with
    | cons r' rr =>
      cases rr
      obtain ⟨t, rfl⟩ := r
      obtain ⟨t', rfl⟩ := r'
      exact call_range_2 (range_itW I1 q)

/-! ### list + list, whatever they are -/
def rCatS (K : PySem.W.Frag) : R2 := fun x y H Q => ∃ l b xs zs, x = .ref l ∧ y = .ref b ∧ SqL K H l xs ∧ SqL K H b zs ∧ xs.length + zs.length ≤ sizeLine ∧ ∀ p, H p = none → Q (.ref p) (upd H p (.lst (xs ++ zs)))
theorem op_catS : OpR X (binaryOp .Add) (rCatS X.K) := by
  intro pins s σ H x y v u Q I rx ry h
  obtain ⟨l, b, xs, zs, rfl, rfl, hH, hB, hz, q⟩ := h
  cases rx
  cases ry
  obtain ⟨its, r, ⟨o, n, e, hc, hd, hs⟩, _⟩ := I.list hH
  obtain ⟨its2, r2, ⟨o2, n2, e2, hc2, hd2, hs2⟩, _⟩ := I.list hB
  obtain ⟨cls, dd, data, sl⟩ := o
  obtain ⟨cls2, dd2, data2, sl2⟩ := o2
  simp only at hc hd hc2 hd2 hs hs2
  subst hc hc2 hs hs2
  have ea : its.toArray ++ its2.toArray = (its ++ its2).toArray := by simp
  have l1 := r.length
  have l2 := r2.length
  refine concat_meets ⟨_, e, rfl⟩ ⟨_, e2, rfl⟩ noFill_list_add seq_list_add PySem.F.slot_list_add PySem.F.entry_list_add (PySem.F.args_list_add_2 _ _) (list_addW l b its.toArray its2.toArray n n2 dd dd2 sl sl2 (by rw [List.size_toArray, List.size_toArray]; omega)) ⟨e, e2, ?_⟩
  rw [ea]
  exact ⟨.ref _, _, I.lnew (t' := s.toks) (r.append r2) (by rw [List.length_append]; omega), rfl, q _ I.fresh⟩
end
end Ly
set_option Elab.async false
set_option linter.all false
set_option maxRecDepth 100000
set_option maxHeartbeats 4000000
/-! enumerate of a tuple -/
namespace PySem
open Sem (wp)
open AutoSeq1 (wpAny_loadPart')
theorem ly_meets_enumT (l : Addr) (items : Array Value) (n : Nat) (dct : Option Addr) (sl : Array (Option Value)) :
    Meets (Builtin.«enumerate.__new__» ⟨[.type "enumerate", .ref l], []⟩) (fun _ R s => s.heap.get? l = some { cls := .type "tuple", dict := dct, data := .seq items n, slots := sl } ∧
      R (.ok (.ret (.ref (s.heap.push { cls := .type "tuple_iterator", data := .fields #[.ref l, .int 0 0] }).objs.size)))
        { s with heap := (s.heap.push { cls := .type "tuple_iterator", data := .fields #[.ref l, .int 0 0] }).push { cls := .type "enumerate", data := .fields #[.none, .bool false, .ref s.heap.objs.size, rawInt 0, .none, .none] } }) :=
  .of_wp fun prog w A R s h => by
    obtain ⟨hp, g, d, tk, os⟩ := s; obtain ⟨hl, h⟩ := h
    have hsub := sub_enumerate
    have hL : Heap.IsTuple (Shared.heap ⟨hp, g, d, tk, os⟩) l items := ⟨_, hl, rfl, n, rfl⟩
    wp_walk using wpAny_loadPart' hl
    refine wpAny_stack_any fun st => wpAny_pure ?_
    split
    · rename_i c _ _ _ _ _
      cases (c == Value.type "enumerate")
      · wp_walk using wpAny_loadPart' hl, wpAny_pyIter_tuple hL
        exact ⟨_, rfl, h⟩
      · wp_walk using wpAny_loadPart' hl, wpAny_pyIter_tuple hL
        exact ⟨_, rfl, h⟩
    · wp_walk using wpAny_loadPart' hl, wpAny_pyIter_tuple hL
      exact ⟨_, rfl, h⟩
section
variable {prog : Program} {w : World} {A : Around} {E : Value → Shared → Prop} {s : Shared}
theorem ly_call_enumT {l : Addr} {items : Array Value} {Q : Value → Shared → Prop} (hL : s.heap.IsTuple l items)
    (h : ∀ h', IsEnum h' (s.heap.objs.size + 1) s.heap.objs.size 0 .none → h'.IsTupleIter s.heap.objs.size l 0 → h'.objs.size = s.heap.objs.size + 2 →
      (∀ b o, s.heap.get? b = some o → h'.get? b = some o) → Q (.ref (s.heap.objs.size + 1)) { s with heap := h' }) :
    wpAny (model prog w) A (call (.type "enumerate") [.ref l]) Q E s := by
  obtain ⟨⟨c, dct, dt, sl⟩, hl, hc, n, hd⟩ := hL
  replace hc : c = .type "tuple" := hc
  replace hd : dt = .seq items n := hd
  subst hc hd
  refine callType_new F.called_enumerate (by decide) (F.typeCall_enumerate_1 _) (F.newCall_enumerate_1 _) (fun obj => F.args_object_init_2 obj _) F.entry_enumerate_new
    (ly_meets_enumT l items n dct sl) ⟨hl, ?_⟩
  have hz : (s.heap.push { cls := .type "tuple_iterator", data := .fields #[.ref l, .int 0 0] }).objs.size = s.heap.objs.size + 1 := Heap.size_push ..
  show _ ∧ _
  rw [hz]
  have he : IsEnum ((s.heap.push { cls := .type "tuple_iterator", data := .fields #[.ref l, .int 0 0] }).push
      { cls := .type "enumerate", data := .fields #[.none, .bool false, .ref s.heap.objs.size, rawInt 0, .none, .none] }) (s.heap.objs.size + 1) s.heap.objs.size 0 .none := by
    have := Heap.get?_push_size (s.heap.push { cls := .type "tuple_iterator", data := .fields #[.ref l, .int 0 0] })
      (o := { cls := .type "enumerate", data := .fields #[.none, .bool false, .ref s.heap.objs.size, rawInt 0, .none, .none] }) rfl
    rw [hz] at this; exact this
  refine ⟨⟨_, he, rfl⟩, h _ he ⟨_, Heap.get?_push_of_some _ (Heap.get?_push_size _ rfl), rfl, rfl⟩ (by rw [Heap.size_push, hz]) fun b o x => Heap.get?_push_of_some _ (Heap.get?_push_of_some _ x)⟩
end
end PySem
namespace Ly
open PySem PySem.Spec PyProof.Rows L2
def IteT (K : PySem.W.Frag) (a : Addr) : It :=
  ⟨fun i H => ∃ (xs : List V) (x : V), SqT K H a xs ∧ xs[i]? = some x, fun i H v H' => ∃ T x, v = .ref T ∧ H T = none ∧ H' = upd H T (.tup [.int (i : Nat), x]) ∧ ∀ xs, SqT K H a xs → xs[i]? = some x, fun i H => ∃ xs : List V, SqT K H a xs ∧ xs.length ≤ i⟩
theorem turn_enumT {P : Program} {w : World} {K : PySem.W.Frag} {elts : List Expr} {kk : Nat} {tpos : Pos} (a e it : Addr) :
    Turn P w K (.Tuple elts kk tpos) (IteT K a) [e, it] e (fun i h => (∃ old, IsEnum h e it ((i : Nat) : Int) old) ∧ h.IsTupleIter it a i ∧ e ≠ it) where
  mem := by simp
  obj := fun i h st b hb => by
    obtain ⟨⟨old, he⟩, ⟨o, ho, hc, hd⟩, _⟩ := st
    have e' : b = e ∨ b = it := by simpa using hb
    rcases e' with z | z
    · rw [z]; exact ⟨_, he, fun v q => nomatch q⟩
    · rw [z]; exact ⟨o, ho, fun v q => by rw [hd] at q; cases q⟩
  keep := fun i h h' st k => let ⟨⟨old, he⟩, hi, hne⟩ := st; ⟨⟨old, k e (by simp) _ he⟩, hi.at fun o q => k it (by simp) o q, hne⟩
  item := by
    intro X hP hw hK hc i pins s σ H E I hf st hg
    subst hP hw hK
    obtain ⟨⟨old, he⟩, hit, hne⟩ := st
    obtain ⟨xs, x, hq, hx⟩ := hg
    obtain ⟨its, rv, p, hz⟩ := I.tuple hq
    obtain ⟨u, hu, ru⟩ := rv.get hx
    have hel : e < s.heap.objs.size := Heap.lt_size he
    have hil : it < s.heap.objs.size := by obtain ⟨_, q, _⟩ := hit; exact Heap.lt_size q
    have hpt : s.heap.IsTuple a its.toArray := p
    have hai : a ≠ it := fun z => by
      obtain ⟨o, ho, hc1, _⟩ := hpt
      obtain ⟨o2, ho2, hc2, _⟩ := hit
      rw [z, ho2] at ho; cases ho
      rw [hc1] at hc2; exact absurd hc2 (by decide)
    have hae : a ≠ e := fun z => by
      obtain ⟨o, ho, hc1, _⟩ := hpt
      have he2 := he
      unfold IsEnum at he2
      rw [z, he2] at ho; cases ho
      exact absurd (show Value.type "enumerate" = Value.type "tuple" from hc1) (by decide)
    have D := Draws.tuple (prog := X.prog) (w := X.w) (A := X.A.in1) (I.ok.hd hc) it a hai its.toArray
    have hlt : i < its.toArray.size := by
      rw [List.size_toArray]
      exact (List.getElem?_eq_some_iff.mp hu).1
    refine wpAny_pyNext_enum_itemD D he ⟨hit, hpt⟩ hlt hne (by simp; exact ⟨hne, Ne.symm hae⟩) fun x' h' tk hx' ho hst' hT hsz hk => ?_
    have hxu : x' = u := by
      have h1 : its.toArray[i]? = some u := by simpa using hu
      rw [h1] at hx'
      exact (Option.some.inj hx').symm
    subst hxu
    refine ⟨_, rfl, wpAny_letOwnedTupleGo_enum (s := { s with heap := h', toks := tk + 1 }) ho fun h'' he' sb => ?_⟩
    have hT2 : h''.get? s.heap.objs.size = some { cls := .type "tuple", data := .seq #[.int i tk, x'] } := (sb.2 _ (Nat.ne_of_gt hel)).trans hT
    have new : ObjOk X.prog X.w (upd H s.heap.objs.size (.tup [.int (i : Nat), x])) h'' s.heap.objs.size (.tup [.int (i : Nat), x]) :=
      ⟨by show 2 ≤ sizeLine; decide, [.int i tk, x'], .cons ⟨_, rfl⟩ (.cons ru .nil), ⟨_, hT2, rfl, _, rfl⟩⟩
    have I1 : Inv X pins σ (upd H s.heap.objs.size (.tup [.int (i : Nat), x])) { s with heap := h'', toks := tk + 1 } :=
      I.turnedNew (ch := [e, it]) (fun b ob hb q => (sb.2 b (fun z => hb (by simp [z]))).trans (hk b ob (fun z => hb (by simp [z])) (fun z => hb (by simp [z])) q)) hf (Nat.le_refl _) new
    refine ⟨.ref s.heap.objs.size, _, I1, rfl, ⟨_, x, rfl, I.hok.fresh (Nat.le_refl _), rfl, fun ys hy => by rw [I.tuple_inj hy hq]; exact hx⟩, ⟨⟨x', ?_⟩, hst'.1.at fun o q => (sb.2 it (Ne.symm hne)).trans q, hne⟩, fun b hb => ?_⟩
    · have e1 : ((i + 1 : Nat) : Int) = (i : Int) + 1 := by omega
      rw [e1]; exact he'
    · have hb' : b < s.heap.objs.size := by
        have e' : b = e ∨ b = it := by simpa using hb
        rcases e' with z | z
        · rw [z]; exact hel
        · rw [z]; exact hil
      rw [upd_ne (Nat.ne_of_lt hb')]
      exact (hf b hb).1
  done := by
    intro X hP hw hK hc i pins s σ H E I hf st hg
    subst hP hw hK
    obtain ⟨⟨old, he⟩, hit, hne⟩ := st
    obtain ⟨xs, hq, hx⟩ := hg
    obtain ⟨its, rv, p, hz⟩ := I.tuple hq
    obtain ⟨f0, f1, f2, f3, f4, f5⟩ := hf it (by simp)
    have hl := rv.length
    have hpt : s.heap.IsTuple a its.toArray := p
    have hai : a ≠ it := fun z => by
      obtain ⟨o, ho, hc1, _⟩ := hpt
      obtain ⟨o2, ho2, hc2, _⟩ := hit
      rw [z, ho2] at ho; cases ho
      rw [hc1] at hc2; exact absurd hc2 (by decide)
    have hT : s.TypeIs (.ref e) "enumerate" := ⟨_, he, rfl⟩
    unfold pyNext
    refine wpAny_bind (wpAny_attempt (wpAny_callSpecial?_slot (name := Str.ofString "__next__") hT F.slot_enumerate_next
      (wpAny_call_entry F.slot_enumerate_next hT F.entry_enumerate_next ?_ (F.args_enumerate_next_1 _))))
    show wpAny _ _ (field (.ref e) 2 >>= _) _ _ _
    refine wpAny_bind (wpAny_field he rfl (x := .ref it) rfl ?_)
    refine wpAny_bind (wpAny_nextOf_tuple_end (A := X.A.in1) (I.ok.hd hc) hit hpt (by simp; omega) fun h' x he' hx' => ?_)
    obtain ⟨o, ho, hc'⟩ := hx'
    refine wpAny_bind (wpAny_isInstance (T := "StopIteration") (b := true) ⟨o, ho, hc'⟩ isSubtype_stop ?_)
    exact wpAny_pure ⟨rfl, I.turned (t' := s.toks) (fun b o hb q => he' b o hb q) f0 f1 f3 f4 f5⟩
  self := fun A i s Q E st h => let ⟨⟨_, he⟩, _⟩ := st; wpAny_pyIter_enum he h
/-- enumerate(xs), a list or a tuple -/
def iEnumS (K : PySem.W.Frag) (ta : TA) : TI := fun σ H R => ta σ H fun vs H1 => ∃ a xs, vs = [.ref a] ∧ ((SqL K H1 a xs ∧ R (Ite K a) H1) ∨ (SqT K H1 a xs ∧ R (IteT K a) H1))
theorem pi_enumS {X : Cx} {e : Expr} {ta : TA} {p pos tpos : Pos} {elts : List Expr} {kk : Nat} (hg : Gl X "enumerate") (hm : X.mg "enumerate" = none) (ha : PA X [e] ta) (hs : starEach [e] X.env = [(false, eval e X.env)] := by rfl) :
    PI X (.Tuple elts kk tpos) (.Call (.Name "enumerate" p) [e] [] pos) (iEnumS X.K ta) := by
  refine ⟨fun pins s σ H R I h => ?_⟩
  refine Call_ (ld_blt I hg hm boot_enumerate (PyProof.Rows.callWith_type1 (thn (ha.run pos pins s σ H _ I h) fun us s1 ⟨vs, H1, I1, r1, q1⟩ => ?_) hs rfl))
  obtain ⟨a, xs, ex, q⟩ := q1
  subst ex
  cases r1 with
  | cons r rr =>
    cases rr
    cases r
    have fp : ∀ b ∈ [s1.heap.objs.size + 1, s1.heap.objs.size], FpOk X pins H1 b := fun b hb => by
      have e' : b = s1.heap.objs.size + 1 ∨ b = s1.heap.objs.size := by simpa using hb
      have hle : s1.heap.objs.size ≤ b := by
        rcases e' with z | z
        · rw [z]; exact Nat.le_add_right _ _
        · rw [z]; exact Nat.le_refl _
      exact I1.fpOk hle (I1.hok.fresh hle)
    rcases q with ⟨hq, q⟩ | ⟨hq, q⟩
    · obtain ⟨its, rv, p', hz⟩ := I1.list hq
      refine call_enumerate_list p'.isList fun h' he hit hsz hk => wpAny_pyIter_enum he ?_
      have I2 : Inv X pins σ H1 { s1 with heap := h' } := I1.kept (t' := s1.toks) hk
      exact ⟨s1.heap.objs.size + 1, [s1.heap.objs.size + 1, s1.heap.objs.size], _, _, H1, rfl, I2, turn_enum a (s1.heap.objs.size + 1) s1.heap.objs.size, ⟨⟨.none, he⟩, hit, Nat.succ_ne_self _⟩, fp, q⟩
    · obtain ⟨its, rv, p', hz⟩ := I1.tuple hq
      refine ly_call_enumT p' fun h' he hit hsz hk => wpAny_pyIter_enum he ?_
      have I2 : Inv X pins σ H1 { s1 with heap := h' } := I1.kept (t' := s1.toks) hk
      exact ⟨s1.heap.objs.size + 1, [s1.heap.objs.size + 1, s1.heap.objs.size], _, _, H1, rfl, I2, turn_enumT a (s1.heap.objs.size + 1) s1.heap.objs.size, ⟨⟨.none, he⟩, hit, Nat.succ_ne_self _⟩, fp, q⟩
end Ly
set_option Elab.async false
set_option linter.all false
set_option maxRecDepth 100000
set_option maxHeartbeats 4000000
/-! what is known of values: kinds, lands, decks -/
namespace Ly
open PySem PySem.Spec PyProof.Rows L2

/-! ### kinds -/
inductive Kn (K : PySem.W.Frag) (H : Hp) : V → String → Prop where
  | non : Kn K H .non "NoneType"
  | bl (b : Bool) : Kn K H (.bl b) "bool"
  | int (i : Int) : Kn K H (.int i) "int"
  | str (x : Str) : Kn K H (.str x) "str"
  | lst {a : Addr} {xs : List V} : SqL K H a xs → Kn K H (.ref a) "list"
  | tup {a : Addr} {xs : List V} : SqT K H a xs → Kn K H (.ref a) "tuple"
theorem Kn.ty {K : PySem.W.Frag} {H : Hp} {x : V} {n : String} (h : Kn K H x n) : TyX K H x (.type n) := by
  cases h with
  | non => exact .base .non
  | bl b => exact .base (.bl b)
  | int i => exact .base (.int i)
  | str x => exact .base (.str x)
  | lst h =>
    rcases h with (h | ⟨o, h⟩) | ⟨o, its, n, hk, hc, _⟩
    · exact .base (.lst h)
    · exact .base (.frz h)
    · exact .kList hk hc
  | tup h =>
    rcases h with (h | ⟨o, h⟩) | ⟨o, its, n, hk, hc, _⟩
    · exact .base (.tup h)
    · exact .fTuple h
    · exact .kTuple hk hc
def kindIs (n m : String) : Bool := n == m || (n == "bool" && m == "int")
theorem Kn.kit {K : PySem.W.Frag} {H : Hp} {x : V} {n m : String} (h : Kn K H x n) (hm : m ∈ ["int", "bool", "str", "list", "tuple"]) : PySem.W.kitOne K (.type n) (.type m) = some (kindIs n m) := by
  have hm' : m = "int" ∨ m = "bool" ∨ m = "str" ∨ m = "list" ∨ m = "tuple" := by simpa using hm
  have hn : n = "NoneType" ∨ n = "bool" ∨ n = "int" ∨ n = "str" ∨ n = "list" ∨ n = "tuple" := by
    cases h <;> simp
  rcases hn with rfl | rfl | rfl | rfl | rfl | rfl <;> rcases hm' with rfl | rfl | rfl | rfl | rfl <;> exact kit_ty (by decide +kernel)
def isFrom : V → Int → Int → Bool
  | .int i, lo, hi => decide (lo ≤ i) && decide (i ≤ hi)
  | _, _, _ => false
theorem isFrom_int (i lo hi : Int) : isFrom (.int i) lo hi = (decide (lo ≤ i) && decide (i ≤ hi)) := rfl
theorem isFrom_yes {i lo hi : Int} (h1 : lo ≤ i) (h2 : i ≤ hi) : isFrom (.int i) lo hi = true := by
  rw [isFrom_int, decide_eq_true h1, decide_eq_true h2]; rfl
theorem isFrom_no1 {i lo hi : Int} (h1 : ¬ lo ≤ i) : isFrom (.int i) lo hi = false := by
  rw [isFrom_int, decide_eq_false h1]; rfl
theorem isFrom_mid {i lo hi : Int} (h1 : lo ≤ i) : isFrom (.int i) lo hi = decide (i ≤ hi) := by
  rw [isFrom_int, decide_eq_true h1]; rfl

/-! ### growth -/
theorem Same.nt {H H' : Hp} (_ : Same H H') : True := trivial
theorem Same.t {K : PySem.W.Frag} {H H' : Hp} {a : Addr} {xs : List V} (e : Same H H') (h : SqT K H a xs) : SqT K H' a xs := by
  rcases h with (h | ⟨o, h⟩) | h
  · exact .inl (.inl (e _ _ h))
  · exact .inl (.inr ⟨o, e _ _ h⟩)
  · exact .inr h
theorem Same.l {K : PySem.W.Frag} {H H' : Hp} {a : Addr} {xs : List V} (e : Same H H') (h : SqL K H a xs) : SqL K H' a xs := L2.Same.seq e h
theorem same_new {H : Hp} {p : Addr} {o : HO} (h : H p = none) : Same H (upd H p o) := fun b x e => by
  rw [upd_ne (ne_of_none e h)]
  exact e
/-- the list at d may change, all else is kept -/
structure Gr (d : Addr) (H H' : Hp) : Prop where
  keep : ∀ b o, b ≠ d → H b = some o → H' b = some o
  lst : (∃ xs, H d = some (.lst xs))
  nt : NoT H → NoT H'
theorem Gr.ne {d : Addr} {H H' : Hp} (g : Gr d H H') {b : Addr} {o : HO} (h : H b = some o) (ho : ∀ xs, o ≠ .lst xs) : b ≠ d := fun e => by
  obtain ⟨xs, q⟩ := g.lst
  rw [e, q] at h
  exact ho xs (Option.some.inj h).symm
theorem Gr.t {K : PySem.W.Frag} {d : Addr} {H H' : Hp} {a : Addr} {xs : List V} (g : Gr d H H') (h : SqT K H a xs) : SqT K H' a xs := by
  rcases h with (h | ⟨o, h⟩) | h
  · exact .inl (.inl (g.keep _ _ (g.ne h fun _ z => nomatch z) h))
  · exact .inl (.inr ⟨o, g.keep _ _ (g.ne h fun _ z => nomatch z) h⟩)
  · exact .inr h
theorem Gr.l {K : PySem.W.Frag} {d : Addr} {H H' : Hp} {a : Addr} {xs : List V} (g : Gr d H H') (hne : a ≠ d) (h : SqL K H a xs) : SqL K H' a xs := by
  rcases h with (h | ⟨o, h⟩) | h
  · exact .inl (.inl (g.keep _ _ hne h))
  · exact .inl (.inr ⟨o, g.keep _ _ hne h⟩)
  · exact .inr h
theorem Gr.trans {d : Addr} {H H1 H2 : Hp} (a : Gr d H H1) (b : Gr d H1 H2) : Gr d H H2 := ⟨fun c o n e => b.keep c o n (a.keep c o n e), a.lst, fun n => b.nt (a.nt n)⟩
theorem Gr.refl {d : Addr} {H : Hp} {xs : List V} (h : H d = some (.lst xs)) : Gr d H H := ⟨fun _ _ _ e => e, ⟨xs, h⟩, fun n => n⟩
theorem Gr.put {d : Addr} {H H' : Hp} {ys : List V} (g : Gr d H H') : Gr d H (upd H' d (.lst ys)) := ⟨fun b o n e => by rw [upd_ne n]; exact g.keep b o n e, g.lst, fun n => (g.nt n).lst⟩
theorem Gr.new {d : Addr} {H H' : Hp} {p : Addr} {o : HO} (g : Gr d H H') (h : H' p = none) (ho : Pl o = true) : Gr d H (upd H' p o) := ⟨fun b x n e => by
  have q := g.keep b x n e
  rw [upd_ne (ne_of_none q h)]
  exact q, g.lst, fun n => (g.nt n).upd ho⟩
theorem Gr.same {d : Addr} {H H1 H2 : Hp} (g : Gr d H H1) (s : Same H1 H2) (n : NoT H1 → NoT H2) : Gr d H H2 := ⟨fun b o n e => s b o (g.keep b o n e), g.lst, fun k => n (g.nt k)⟩
theorem Gr.free {d : Addr} {H H' : Hp} {p : Addr} (g : Gr d H H') {ys : List V} (hd : H' d = some (.lst ys)) (h : H' p = none) : H p = none := by
  cases q : H p with
  | none => rfl
  | some o =>
    by_cases e : p = d
    · rw [e, hd] at h; cases h
    · rw [g.keep p o e q] at h; cases h

/-! ### the deck -/
def Dk (n : Nat) (H : Hp) (d : Addr) : Prop := NoT H ∧ ∃ x y z : Int, H d = some (.lst [.int x, .int y, .int z]) ∧ 0 ≤ y ∧ y < 2147483579 ∧ 0 ≤ z ∧ z ≤ (n : Int)
theorem Dk.nt {n : Nat} {H : Hp} {d : Addr} (h : Dk n H d) : NoT H := h.1
theorem Dk.mono {n m : Nat} {H : Hp} {d : Addr} (h : Dk n H d) (e : n ≤ m) : Dk m H d := by
  obtain ⟨a, x, y, z, h1, h2, h3, h4, h5⟩ := h
  exact ⟨a, x, y, z, h1, h2, h3, h4, by omega⟩
theorem Dk.lst {n : Nat} {H : Hp} {d : Addr} (h : Dk n H d) : ∃ xs, H d = some (.lst xs) := by
  obtain ⟨_, x, y, z, h1, _⟩ := h
  exact ⟨_, h1⟩
/-- a new thing beside the deck -/
theorem Dk.new {n : Nat} {H : Hp} {d p : Addr} {o : HO} (h : Dk n H d) (hp : H p = none) (ho : Pl o = true) : Dk n (upd H p o) d := by
  obtain ⟨a, x, y, z, h1, h2⟩ := h
  exact ⟨a.upd ho, x, y, z, by rw [upd_ne (ne_of_none h1 hp)]; exact h1, h2⟩
theorem Dk.same {n : Nat} {H H' : Hp} {d : Addr} (h : Dk n H d) (s : Same H H') (n' : NoT H') : Dk n H' d := by
  obtain ⟨a, x, y, z, h1, h2⟩ := h
  exact ⟨n', x, y, z, s _ _ h1, h2⟩
theorem Dk.ne_t {n : Nat} {H : Hp} {d a : Addr} {xs : List V} (h : Dk n H d) (ht : H a = some (.tup xs)) : a ≠ d := fun e => by
  obtain ⟨_, x, y, z, h1, _⟩ := h
  rw [e, h1] at ht; cases ht

/-! ### lands -/
/-- the land at a -/
def Ld (K : PySem.W.Frag) (H : Hp) (a : Addr) (d t b s : Int) : Prop := SqT K H a [.int d, .int t, .int b, .int s]
end Ly
set_option Elab.async false
set_option linter.all false
set_option maxRecDepth 100000
set_option maxHeartbeats 4000000
/-! the same data; comprehensions over enumerate -/
namespace Ly
open PySem PySem.Spec PyProof.Rows L2
/-- x and y are the same data, at most k deep -/
inductive Sm (K : PySem.W.Frag) (H : Hp) : Nat → V → V → Prop where
  | non (k : Nat) : Sm K H k .non .non
  | bl (k : Nat) (b : Bool) : Sm K H k (.bl b) (.bl b)
  | int (k : Nat) (i : Int) : Sm K H k (.int i) (.int i)
  | str (k : Nat) (x : Str) (h : PyData.strOk x = true) : Sm K H k (.str x) (.str x)
  | lst {k : Nat} {a b : Addr} {xs ys : List V} : SqL K H a xs → SqL K H b ys → xs.length = ys.length → (∀ (i : Nat) x y, xs[i]? = some x → ys[i]? = some y → Sm K H k x y) → Sm K H (k + 1) (.ref a) (.ref b)
  | tup {k : Nat} {a b : Addr} {xs ys : List V} : SqT K H a xs → SqT K H b ys → xs.length = ys.length → (∀ (i : Nat) x y, xs[i]? = some x → ys[i]? = some y → Sm K H k x y) → Sm K H (k + 1) (.ref a) (.ref b)
theorem Sm.mono {K : PySem.W.Frag} {H H' : Hp} (s : Same H H') : ∀ {k : Nat} {x y : V}, Sm K H k x y → Sm K H' k x y := by
  intro k x y h
  induction h with
  | non k => exact .non k
  | bl k b => exact .bl k b
  | int k i => exact .int k i
  | str k x h => exact .str k x h
  | lst h1 h2 h3 _ ih => exact .lst (Same.l s h1) (Same.l s h2) h3 ih
  | tup h1 h2 h3 _ ih => exact .tup (Same.t s h1) (Same.t s h2) h3 ih
theorem Sm.kinds {K : PySem.W.Frag} {H : Hp} {k : Nat} {x y : V} (h : Sm K H k x y) : ∃ n, Kn K H x n ∧ Kn K H y n := by
  cases h with
  | non => exact ⟨_, .non, .non⟩
  | bl _ b => exact ⟨_, .bl b, .bl b⟩
  | int _ i => exact ⟨_, .int i, .int i⟩
  | str _ x _ => exact ⟨_, .str x, .str x⟩
  | lst h1 h2 => exact ⟨_, .lst h1, .lst h2⟩
  | tup h1 h2 => exact ⟨_, .tup h1, .tup h2⟩
theorem Sm.up {K : PySem.W.Frag} {H : Hp} : ∀ {k j : Nat} {x y : V}, Sm K H k x y → k ≤ j → Sm K H j x y := by
  intro k j x y h
  induction h generalizing j with
  | non k => intro _; exact .non _
  | bl k b => intro _; exact .bl _ b
  | int k i => intro _; exact .int _ i
  | str k x h => intro _; exact .str _ x h
  | lst h1 h2 h3 _ ih =>
    intro e
    obtain ⟨j, rfl⟩ : ∃ i, j = i + 1 := ⟨j - 1, by omega⟩
    exact .lst h1 h2 h3 fun i x y a b => ih i x y a b (by omega)
  | tup h1 h2 h3 _ ih =>
    intro e
    obtain ⟨j, rfl⟩ : ∃ i, j = i + 1 := ⟨j - 1, by omega⟩
    exact .tup h1 h2 h3 fun i x y a b => ih i x y a b (by omega)
/-- lists of ints -/
theorem Sm.ints {K : PySem.W.Frag} {H : Hp} {a b : Addr} {ns : List Int} (h1 : SqL K H a (ns.map V.int)) (h2 : SqL K H b (ns.map V.int)) : Sm K H 1 (.ref a) (.ref b) :=
  .lst h1 h2 rfl fun i x y e1 e2 => by
    rw [e1] at e2
    cases e2
    rw [List.getElem?_map] at e1
    cases q : ns[i]? with
    | none => rw [q] at e1; cases e1
    | some z => rw [q] at e1; cases e1; exact .int 0 z
theorem Sm.tints {K : PySem.W.Frag} {H : Hp} {a b : Addr} {ns : List Int} (h1 : SqT K H a (ns.map V.int)) (h2 : SqT K H b (ns.map V.int)) : Sm K H 1 (.ref a) (.ref b) :=
  .tup h1 h2 rfl fun i x y e1 e2 => by
    rw [e1] at e2
    cases e2
    rw [List.getElem?_map] at e1
    cases q : ns[i]? with
    | none => rw [q] at e1; cases e1
    | some z => rw [q] at e1; cases e1; exact .int 0 z
def sortOf (n : String) : Int := if n = "bool" then 1 else if n = "int" then 2 else if n = "str" then 3 else if n = "list" then 4 else if n = "tuple" then 5 else 6
/-! ### comprehensions over enumerate -/
section
variable {K : PySem.W.Frag} {a : Addr} {xs : List V} {g : TG} {tt : TT} {te : TE} {vs : List Nat} {σ : L2.St} {H1 : Hp} {D : Addr} {Qd : Hp → Prop}
theorem lc_enumL (Pv : Nat → Hp → Prop) (h0 : Pv 0 (upd H1 D (.lst []))) (hl : ∀ i H, i ≤ xs.length → Pv i H → SqL K H a xs)
    (hs : ∀ (i : Nat) x T H, xs[i]? = some x → H T = none → Pv i H → g (.ref T) (wipe σ vs) (upd H T (.tup [.int (i : Nat), x])) fun σ2 H2 => wipe σ2 vs = wipe σ vs ∧ tt σ2 H2 fun b H3 =>
      if b = true then te σ2 H3 fun y H4 => ∃ acc, H4 D = some (.lst acc) ∧ acc.length < sizeLine ∧ Pv (i + 1) (upd H4 D (.lst (acc ++ [y]))) else Pv (i + 1) H3) (hd : ∀ H, Pv xs.length H → Qd H) :
    ∃ W : Nat → Nat → Hp → Prop, (∃ m, W 0 m (upd H1 D (.lst []))) ∧ ∀ i m H, W i m H →
      ((Ite K a).stop i H ∧ Qd H) ∨ ((Ite K a).go i H ∧ ∃ Nx : Hp → Prop, (∀ H', Nx H' → ∃ m', m' < m ∧ W (i + 1) m' H') ∧ ∀ x H', (Ite K a).yld i H x H' → g x (wipe σ vs) H' fun σ2 H2 => wipe σ2 vs = wipe σ vs ∧ tt σ2 H2 fun b H3 =>
        if b = true then te σ2 H3 fun y H4 => ∃ acc, H4 D = some (.lst acc) ∧ acc.length < sizeLine ∧ Nx (upd H4 D (.lst (acc ++ [y]))) else Nx H3) := by
  refine ⟨fun i m H => m = xs.length - i ∧ i ≤ xs.length ∧ Pv i H, ⟨xs.length, by simp, Nat.zero_le _, h0⟩, ?_⟩
  rintro i m H ⟨rfl, hi, p⟩
  have q := hl i H hi p
  by_cases hlt : i < xs.length
  · refine .inr ⟨⟨xs, xs[i], q, by simp [hlt]⟩, Pv (i + 1), fun H' p' => ⟨xs.length - (i + 1), by omega, rfl, hlt, p'⟩, fun x H' y => ?_⟩
    obtain ⟨T, z, e1, e2, e3, y⟩ := y
    subst e1 e3
    exact hs i z T _ (y xs q) e2 p
  · have e : i = xs.length := by omega
    subst e
    exact .inl ⟨⟨xs, q, Nat.le_refl _⟩, hd H p⟩
theorem lc_enumT (Pv : Nat → Hp → Prop) (h0 : Pv 0 (upd H1 D (.lst []))) (hl : ∀ i H, i ≤ xs.length → Pv i H → SqT K H a xs)
    (hs : ∀ (i : Nat) x T H, xs[i]? = some x → H T = none → Pv i H → g (.ref T) (wipe σ vs) (upd H T (.tup [.int (i : Nat), x])) fun σ2 H2 => wipe σ2 vs = wipe σ vs ∧ tt σ2 H2 fun b H3 =>
      if b = true then te σ2 H3 fun y H4 => ∃ acc, H4 D = some (.lst acc) ∧ acc.length < sizeLine ∧ Pv (i + 1) (upd H4 D (.lst (acc ++ [y]))) else Pv (i + 1) H3) (hd : ∀ H, Pv xs.length H → Qd H) :
    ∃ W : Nat → Nat → Hp → Prop, (∃ m, W 0 m (upd H1 D (.lst []))) ∧ ∀ i m H, W i m H →
      ((IteT K a).stop i H ∧ Qd H) ∨ ((IteT K a).go i H ∧ ∃ Nx : Hp → Prop, (∀ H', Nx H' → ∃ m', m' < m ∧ W (i + 1) m' H') ∧ ∀ x H', (IteT K a).yld i H x H' → g x (wipe σ vs) H' fun σ2 H2 => wipe σ2 vs = wipe σ vs ∧ tt σ2 H2 fun b H3 =>
        if b = true then te σ2 H3 fun y H4 => ∃ acc, H4 D = some (.lst acc) ∧ acc.length < sizeLine ∧ Nx (upd H4 D (.lst (acc ++ [y]))) else Nx H3) := by
  refine ⟨fun i m H => m = xs.length - i ∧ i ≤ xs.length ∧ Pv i H, ⟨xs.length, by simp, Nat.zero_le _, h0⟩, ?_⟩
  rintro i m H ⟨rfl, hi, p⟩
  have q := hl i H hi p
  by_cases hlt : i < xs.length
  · refine .inr ⟨⟨xs, xs[i], q, by simp [hlt]⟩, Pv (i + 1), fun H' p' => ⟨xs.length - (i + 1), by omega, rfl, hlt, p'⟩, fun x H' y => ?_⟩
    obtain ⟨T, z, e1, e2, e3, y⟩ := y
    subst e1 e3
    exact hs i z T _ (y xs q) e2 p
  · have e : i = xs.length := by omega
    subst e
    exact .inl ⟨⟨xs, q, Nat.le_refl _⟩, hd H p⟩
end
end Ly
namespace Ly
open PySem
theorem sh_bl (b : Bool) : SeqAt.shaped (.bool b) = true := by first | rfl | (cases b <;> decide)
theorem sh_int (i : Int) : SeqAt.shaped (.int i) = true := by first | rfl | simp [SeqAt.shaped, PyData.canLay0, PyData.depth]
theorem sh_str {x : Str} (h : PyData.strOk x = true) : SeqAt.shaped (.str x) = true := by simp [SeqAt.shaped, PyData.canLay0, PyData.depth, h]
theorem ev_bl (b : Bool) : PyData.eqv (.bool b) (.bool b) = true := by simp [PyData.eqv]
theorem ev_int (i : Int) : PyData.eqv (.int i) (.int i) = true := by simp [PyData.eqv]
theorem ev_str (x : Str) : PyData.eqv (.str x) (.str x) = true := by simp [PyData.eqv]
end Ly
set_option Elab.async false
set_option linter.all false
set_option maxRecDepth 100000
set_option maxHeartbeats 4000000
namespace Ly
open PySem PySem.Spec PyProof.Rows L2
theorem cells_int {ns : List Int} {k : Int} {i : Nat} {x : V} (h : (cutV ([V.int 0] ++ ns.map V.int) none (some k))[i]? = some x) : ∃ c, x = .int c := by
  have m := List.mem_of_getElem? h
  unfold cutV at m
  have m2 := List.mem_of_mem_drop (List.mem_of_mem_take m)
  rcases List.mem_append.mp m2 with e | e
  · exact ⟨0, by simpa using e⟩
  · obtain ⟨c, _, e⟩ := List.mem_map.mp e
    exact ⟨c, e.symm⟩
theorem sz63 {n : Nat} (h : n ≤ 63) : 1 + n ≤ sizeLine := by rw [sizeLine_eq]; omega
theorem sz_small {n : Nat} (h : n < 100000) : n < sizeLine := by rw [sizeLine_eq]; omega
/-- so many ones -/
def ones (n : Nat) : List V := List.replicate n (.int 1)
theorem ones_len (n : Nat) : (ones n).length = n := List.length_replicate
theorem ones_succ (n : Nat) : ones n ++ [.int 1] = ones (n + 1) := by
  unfold ones
  rw [List.replicate_succ']
end Ly
set_option Elab.async false
set_option linter.all false
set_option maxRecDepth 100000
set_option maxHeartbeats 4000000
/-! set(list), comprehensions over zip -/
namespace Ly
open PySem PySem.Spec PyProof.Rows L2
/-- an empty set object of this world -/
abbrev set0 (w : World) : Obj := { cls := .type "set", dict := none, data := .set #[] 0 (.fresh 0 0 (!w.params.followText "set-order")) }
section
variable {P : Program} {w : World} {A : Around} {E : Value → Shared → Prop} {s : Shared}
theorem set_of_ints {l : Addr} {items : Array Value} (ns : List Int) {Q : Value → Shared → Prop} (hh : A.handled = none) (hl : s.heap.IsList l items) (hit : IntsAre items.toList ns) (hb : ns.length + 1 < scanBound)
    (fin : ∀ (h' : Heap) (tk c : Nat), SetR w h' s.heap.objs.size (fun j => decide (j ∈ ns)) c → c ≤ ns.length → (∀ b o, s.heap.get? b = some o → h'.get? b = some o) → Q (.ref s.heap.objs.size) { s with heap := h', toks := tk }) :
    wpAny (model P w) A (call (.type "set") [.ref l]) Q E s := by
  have zn : items.size = ns.length := by
    rw [← Array.length_toList]
    exact IntsAre.length hit
  obtain ⟨c, tl, hmro⟩ := F.called_set.mro
  have m1 := F.called_set.made
  have m2 := F.called_set.sub
  refine wpAny_call (codeAny_of_tree ?_)
  show wpAny _ _ (callAny (.type "set") _) _ _ _
  refine wpAny_pure ⟨Code.quiet_builtin _ (by decide +kernel), codeAny_builtin F.entry_type_call ?_⟩
  rw [Around.under_plain (weight_type_call_type "set" [.ref l] []) rfl]
  have m3 := F.called_set.notType
  have m4 := F.called_set.canCreate
  have m5 := F.typeCall_set_1 (.ref l)
  repeat (any_goals (first | assumption | wp_step))
  refine codeAny_mono (code_set_led1 (.ref l) (E := E) (Q₁ := fun ob t => ob = .ref s.heap.objs.size ∧ t = { s with heap := s.heap.push (set0 w) }) ⟨rfl, rfl⟩) fun r s1 hr => ?_
  cases r with
  | error e => exact hr
  | ok fl =>
    cases fl with
    | ret ob =>
      obtain ⟨rfl, rfl⟩ := hr
      have g0 : (s.heap.push (set0 w)).get? s.heap.objs.size = some (set0 w) := Heap.get?_push_size _ rfl
      have ty : Shared.TypeIs { s with heap := s.heap.push (set0 w) } (.ref s.heap.objs.size) "set" := ⟨_, g0, rfl⟩
      have i1 := F.called_set.init.lookup
      have i2 := F.called_set.init.bind (.ref s.heap.objs.size)
      repeat (any_goals (first | assumption | wp_step))
      refine codeAny_mono (codeAny_call_builtin (R := wants (fun r t => r = .none ∧ ∃ h' tk c, t = { s with heap := h', toks := tk } ∧ SetR w h' s.heap.objs.size (fun j => decide (j ∈ ns)) c ∧ c ≤ ns.length ∧
          (∀ b o, s.heap.get? b = some o → h'.get? b = some o)) E) F.called_set.init.plain F.entry_set_init (check_set_init_1 ty ?_)) fun r2 s2 hr2 => ?_
      · obtain ⟨⟨oc, od, odt, osl⟩, ho, e1, nl, e2⟩ := hl
        simp only at e1 e2
        subst e1; subst e2
        have ho' : (s.heap.push (set0 w)).get? l = some { cls := .type "list", dict := od, data := .seq items nl, slots := osl } := Heap.get?_push_of_some _ ho
        have n1 := F.sub_list_set
        have n2 := F.sub_list_frozenset
        have n3 : (Value.type "list" == Value.type "dict") = false := by decide
        have hl1 : (s.heap.push (set0 w)).IsList l items := ⟨_, ho', rfl, nl, rfl⟩
        unfold Builtin.«set.__init__» noKeywords Builtin.Frozenset.updateFrom
        generalize hPI : pyIter = PI
        wp_walk
        subst hPI
        refine wpAny_pyIter_list hl1 ?_
        refine wpAny_bind (wpAny_runValue ?_)
        have lt : l < s.heap.objs.size := Heap.lt_size ho
        have h3 : A.in1.in1.in1.handled = none := by simp [hh]
        have ne : l ≠ (s.heap.push (set0 w)).objs.size := by
          rw [Heap.size_push]; exact Nat.ne_of_lt (Nat.lt_succ_of_lt lt)
        have nf : s.heap.objs.size ∉ [(s.heap.push (set0 w)).objs.size, l] := by
          rw [Heap.size_push]
          simp only [List.mem_cons, List.not_mem_nil, or_false, not_or]
          exact ⟨Nat.ne_of_lt (Nat.lt_succ_self _), Nat.ne_of_gt lt⟩
        have val : ∀ (i : Nat) (v : Value), items[i]? = some v → ∃ k t, ns[i]? = some k ∧ v = .int k t := fun i v hv => by
          have hi : i < ns.length := by rw [← zn]; exact (Array.getElem?_eq_some_iff.mp hv).1
          obtain ⟨t, e⟩ := PyProof.Rows.IntsAre.int_at hit i v (by rw [Array.getElem?_toList]; exact hv)
          refine ⟨ns[i], t, List.getElem?_eq_getElem hi, ?_⟩
          rw [e, List.getD_eq_getElem?_getD, List.getElem?_eq_getElem hi] <;> rfl
        refine set_update_ints ((Walks.list h3 _ l ne items).toS) s.heap.objs.size nf ns zn hb val (items.size - 0) 0 _ (by omega) (Nat.zero_le _)
          ⟨⟨_, Heap.get?_push_size _ rfl, rfl, rfl⟩, (hl1.push _)⟩ ⟨0, Nat.le_refl 0, setR_new_at (Heap.get?_push_of_some _ g0)⟩ fun s' c' hm hc' hS' => ?_
        obtain ⟨h', g2, d', tk', os'⟩ := s'
        have eg : g2 = s.gens := hm.gens
        have ed : d' = s.drawn := hm.drawn
        have eo : os' = s.os := hm.os
        subst eg; subst ed; subst eo
        show wpAny _ _ _ _ _ _
        refine wpAny_pure ?_
        show wpAny _ _ (ret Value.none) _ _ _
        rw [zn] at hc'
        refine wpAny_pure ⟨rfl, h', tk', c', rfl, hS', hc', fun b o e => ?_⟩
        have b0 : b < s.heap.objs.size := Heap.lt_size e
        refine hm.heap b o ?_ (Heap.get?_push_of_some _ (Heap.get?_push_of_some _ e))
        rw [Heap.size_push]
        simp only [List.mem_cons, List.not_mem_nil, or_false, not_or]
        exact ⟨Nat.ne_of_lt b0, Nat.ne_of_lt (Nat.lt_succ_of_lt b0)⟩
      · cases r2 with
        | error e => exact hr2
        | ok fl2 =>
          cases fl2 with
          | ret r =>
            obtain ⟨rfl, h', tk, c', rfl, a1, a2, a3⟩ := hr2
            repeat (any_goals (first | assumption | wp_step))
            exact fin _ _ _ a1 a2 a3
          | _ => exact hr2.elim
    | _ => exact hr.elim
end
section
variable {X : Cx}
/-- set(xs), a list of ints -/
def rSetOf (K : PySem.W.Frag) (w : World) : List V → Hp → VK → Prop := fun vs H Q => ∃ (a : Addr) (ns : List Int), vs = [.ref a] ∧ SqL K H a (ns.map V.int) ∧ ns.length ≤ 2000 ∧
  ∀ p c, H p = none → c ≤ ns.length → Q (.ref p) (upd H p (SetO w p (fun j => decide (j ∈ ns)) c))
theorem cr_setOf (hc : X.calm = true) : CallR X (.type "set") (rSetOf X.K X.w) := by
  intro pins s σ H vs us Q I r h
  obtain ⟨a, ns, rfl, hq, hl, q⟩ := h
  obtain rfl := Vals.ref1 r
  obtain ⟨its, rv, p, hz⟩ := I.list hq
  refine set_of_ints (items := its.toArray) ns (I.ok.hd hc) p.isList (by simpa using Vals.ints rv) (by unfold scanBound; omega) fun h' tk c hS hc' hk => ?_
  exact ⟨.ref _, upd H s.heap.objs.size (SetO X.w s.heap.objs.size (fun j => decide (j ∈ ns)) c), I.laid hk (Nat.le_refl _) (setO_new hS), rfl, q _ c I.fresh hc'⟩
theorem pl_set {w : World} {p : Addr} {S : Int → Bool} {n : Nat} : Pl (SetO w p S n) = true := rfl
end
/-! ### comprehensions over zip of two lists -/
section
variable {K : PySem.W.Frag} {a b : Addr} {xs ys : List V} {g : TG} {tt : TT} {te : TE} {vs : List Nat} {σ : L2.St} {H1 : Hp} {D : Addr} {Qd : Hp → Prop}
theorem lc_zipL (Pv : Nat → Hp → Prop) (h0 : Pv 0 (upd H1 D (.lst []))) (hl : ∀ i H, Pv i H → SqL K H a xs ∧ SqL K H b ys)
    (hs : ∀ (i : Nat) x y T H, xs[i]? = some x → ys[i]? = some y → H T = none → Pv i H → g (.ref T) (wipe σ vs) (upd H T (.tup [x, y])) fun σ2 H2 => wipe σ2 vs = wipe σ vs ∧ tt σ2 H2 fun b H3 =>
      if b = true then te σ2 H3 fun y H4 => ∃ acc, H4 D = some (.lst acc) ∧ acc.length < sizeLine ∧ Pv (i + 1) (upd H4 D (.lst (acc ++ [y]))) else Pv (i + 1) H3) (hd : ∀ H, Pv (min xs.length ys.length) H → Qd H) :
    ∃ W : Nat → Nat → Hp → Prop, (∃ m, W 0 m (upd H1 D (.lst []))) ∧ ∀ i m H, W i m H →
      ((Itz K a b).stop i H ∧ Qd H) ∨ ((Itz K a b).go i H ∧ ∃ Nx : Hp → Prop, (∀ H', Nx H' → ∃ m', m' < m ∧ W (i + 1) m' H') ∧ ∀ x H', (Itz K a b).yld i H x H' → g x (wipe σ vs) H' fun σ2 H2 => wipe σ2 vs = wipe σ vs ∧ tt σ2 H2 fun b H3 =>
        if b = true then te σ2 H3 fun y H4 => ∃ acc, H4 D = some (.lst acc) ∧ acc.length < sizeLine ∧ Nx (upd H4 D (.lst (acc ++ [y]))) else Nx H3) := by
  refine ⟨fun i m H => m = min xs.length ys.length - i ∧ i ≤ min xs.length ys.length ∧ Pv i H, ⟨min xs.length ys.length, by simp, Nat.zero_le _, h0⟩, ?_⟩
  rintro i m H ⟨rfl, hi, p⟩
  obtain ⟨q1, q2⟩ := hl i H p
  by_cases hlt : i < min xs.length ys.length
  · have l1 : i < xs.length := by omega
    have l2 : i < ys.length := by omega
    refine .inr ⟨⟨xs, ys, xs[i], ys[i], q1, q2, List.getElem?_eq_getElem l1, List.getElem?_eq_getElem l2⟩, Pv (i + 1), fun H' p' => ⟨min xs.length ys.length - (i + 1), by omega, rfl, hlt, p'⟩, fun x H' z => ?_⟩
    obtain ⟨T, u, v, e1, e2, e3, f1, f2⟩ := z
    subst e1 e3
    exact hs i u v T _ (f1 xs q1) (f2 ys q2) e2 p
  · have e : i = min xs.length ys.length := by omega
    subst e
    exact .inl ⟨⟨xs, ys, q1, q2, by omega⟩, hd H p⟩
end
end Ly
set_option Elab.async false
set_option linter.all false
set_option maxRecDepth 100000
set_option maxHeartbeats 4000000
/-! comparisons of lists of ints; comprehensions -/
namespace Ly
open PySem PySem.Spec PyProof.Rows L2
theorem dp_ints {K : PySem.W.Frag} {H : Hp} : ∀ ns : List Int, DpAll K H (ns.map V.int) (ns.map PyData.int)
  | [] => .nil
  | n :: ns => .cons (.int n) (dp_ints ns)
theorem eqv_ints : ∀ ns ms : List Int, PyData.eqvAll (ns.map PyData.int) (ms.map PyData.int) = decide (ns = ms)
  | [], [] => by simp [PyData.eqvAll]
  | [], _ :: _ => by simp [PyData.eqvAll]
  | _ :: _, [] => by simp [PyData.eqvAll]
  | a :: r, b :: t => by
    simp only [List.map_cons, PyData.eqvAll, PyData.eqv, eqv_ints r t]
    by_cases h : a = b <;> by_cases h' : r = t <;> simp [h, h']
theorem sh_ints (ns : List Int) : SeqAt.shaped (.list (ns.map PyData.int)) = true := PySem.W.ke_shaped_ints ns
theorem sh_tints (ns : List Int) : SeqAt.shaped (.tuple (ns.map PyData.int)) = true := by
  simp [SeqAt.shaped, PyData.canLay0, PyData.depth, PySem.W.ke_canLayAll0, PySem.W.ke_depthAll]
section
variable {K : PySem.W.Frag} {H : Hp} {a b : Addr} {ns ms : List Int} {Q : VK}
theorem ne_ints (h1 : SqL K H a (ns.map V.int)) (h2 : SqL K H b (ms.map V.int)) (q : Q (.bl (!decide (ns = ms))) H) : rNeD K (.ref a) (.ref b) H Q :=
  ⟨_, _, .lst h1 (dp_ints ns), .lst h2 (dp_ints ms), sh_ints _, sh_ints _, by
    rw [show PyData.eqv (.list (ns.map PyData.int)) (.list (ms.map PyData.int)) = decide (ns = ms) by rw [← eqv_ints]; simp only [PyData.eqv]]
    exact q⟩
theorem eq_ints (h1 : SqL K H a (ns.map V.int)) (h2 : SqL K H b (ms.map V.int)) (q : Q (.bl (decide (ns = ms))) H) : rEqD K (.ref a) (.ref b) H Q :=
  ⟨_, _, .lst h1 (dp_ints ns), .lst h2 (dp_ints ms), sh_ints _, sh_ints _, by
    rw [show PyData.eqv (.list (ns.map PyData.int)) (.list (ms.map PyData.int)) = decide (ns = ms) by rw [← eqv_ints]; simp only [PyData.eqv]]
    exact q⟩
theorem ne_tints (h1 : SqT K H a (ns.map V.int)) (h2 : SqT K H b (ms.map V.int)) (q : Q (.bl (!decide (ns = ms))) H) : rNeD K (.ref a) (.ref b) H Q :=
  ⟨_, _, .tup h1 (dp_ints ns), .tup h2 (dp_ints ms), sh_tints _, sh_tints _, by
    rw [show PyData.eqv (.tuple (ns.map PyData.int)) (.tuple (ms.map PyData.int)) = decide (ns = ms) by rw [← eqv_ints]; simp only [PyData.eqv]]
    exact q⟩
theorem eq_tints (h1 : SqT K H a (ns.map V.int)) (h2 : SqT K H b (ms.map V.int)) (q : Q (.bl (decide (ns = ms))) H) : rEqD K (.ref a) (.ref b) H Q :=
  ⟨_, _, .tup h1 (dp_ints ns), .tup h2 (dp_ints ms), sh_tints _, sh_tints _, by
    rw [show PyData.eqv (.tuple (ns.map PyData.int)) (.tuple (ms.map PyData.int)) = decide (ns = ms) by rw [← eqv_ints]; simp only [PyData.eqv]]
    exact q⟩
theorem ne_nil (h1 : SqL K H a (ns.map V.int)) (h2 : SqL K H b []) (q : Q (.bl (!decide (ns = []))) H) : rNeD K (.ref a) (.ref b) H Q := ne_ints (ms := []) h1 h2 q
theorem eq_nil (h1 : SqL K H a (ns.map V.int)) (h2 : SqL K H b []) (q : Q (.bl (decide (ns = []))) H) : rEqD K (.ref a) (.ref b) H Q := eq_ints (ms := []) h1 h2 q
end
/-- one more thing behind what is made -/
theorem acc_put {H : Hp} {D : Addr} {acc acc' : List V} {y : V} (hl : acc.length < sizeLine) (e : acc ++ [y] = acc') : ∃ a, (upd H D (.lst acc)) D = some (.lst a) ∧ a.length < sizeLine ∧ upd (upd H D (.lst acc)) D (.lst (a ++ [y])) = upd H D (.lst acc') := by
  subst e
  exact ⟨acc, upd_same, hl, by rw [upd_upd]⟩
theorem take_put {xs : List Int} {i : Nat} {x : Int} (h : xs[i]? = some x) : (xs.take i).map V.int ++ [.int x] = (xs.take (i + 1)).map V.int := by
  rw [List.take_succ, h, List.map_append]; rfl
theorem take_len {xs : List Int} {i : Nat} (h : xs.length < 100000) : ((xs.take i).map V.int).length < sizeLine := by
  rw [List.length_map, List.length_take]
  exact sz_small (by omega)
/-- [f(x) for x in xs], ints -/
theorem lc_mapI {K : PySem.W.Frag} {a : Addr} {ns : List Int} {f : Int → Int} {g : Nat} {te : TE} {vs : List Nat} {σ : L2.St} {H : Hp} {D : Addr} {Qd : Hp → Prop} (hS : SqL K H a (ns.map V.int)) (hD : H D = none) (hl : ns.length < 100000)
    (hw : ∀ x, wipe ((wipe σ vs).set g (some x)) vs = wipe σ vs)
    (he : ∀ (i : Nat) n H', ns[i]? = some n → Same H H' → ∀ Q : VK, Q (.int (f n)) H' → te ((wipe σ vs).set g (some (.int n))) H' Q)
    (hd : Qd (upd H D (.lst ((ns.map f).map V.int)))) :
    ∃ W : Nat → Nat → Hp → Prop, (∃ m, W 0 m (upd H D (.lst []))) ∧ ∀ i m H, W i m H →
      ((Itl K a).stop i H ∧ Qd H) ∨ ((Itl K a).go i H ∧ ∃ Nx : Hp → Prop, (∀ H', Nx H' → ∃ m', m' < m ∧ W (i + 1) m' H') ∧ ∀ x H', (Itl K a).yld i H x H' → gName g x (wipe σ vs) H' fun σ2 H2 => wipe σ2 vs = wipe σ vs ∧ tYes σ2 H2 fun b H3 =>
        if b = true then te σ2 H3 fun y H4 => ∃ acc, H4 D = some (.lst acc) ∧ acc.length < sizeLine ∧ Nx (upd H4 D (.lst (acc ++ [y]))) else Nx H3) := by
  refine lc_list (xs := ns.map V.int) (fun i H' => H' = upd H D (.lst (((ns.map f).take i).map V.int))) rfl (fun i H' _ p => by subst p; exact Same.l (same_new hD) hS) (fun i x H' hx p => ?_) (fun H' p => ?_)
  · subst p
    rw [List.getElem?_map] at hx
    cases q : ns[i]? with
    | none => rw [q] at hx; cases hx
    | some n =>
      rw [q] at hx
      cases hx
      refine ⟨hw _, ?_⟩
      show te _ _ _
      refine he i n _ q (same_new hD) _ ?_
      exact acc_put (take_len (by rw [List.length_map]; exact hl)) (take_put (x := f n) (by rw [List.getElem?_map, q]; rfl))
  · subst p
    rw [List.length_map, List.take_of_length_le (by rw [List.length_map]; exact Nat.le_refl _)]
    exact hd
/-- [x for x in range(..) if p(x)] -/
theorem lc_flt {lo : Int} {n : Nat} {p : Int → Bool} {g : Nat} {tt : TT} {vs : List Nat} {σ : L2.St} {H : Hp} {D : Addr} {Qd : Hp → Prop} (hD : H D = none) (hl : n < 100000)
    (hw : ∀ x, wipe ((wipe σ vs).set g (some x)) vs = wipe σ vs) (hi : ∀ x, ((wipe σ vs).set g (some x))[g]? = some (some x))
    (ht : ∀ (i : Nat) H', i < n → Same H H' → ∀ Q : Bool → Hp → Prop, Q (p (lo + i)) H' → tt ((wipe σ vs).set g (some (.int (lo + i)))) H' Q)
    (hd : Qd (upd H D (.lst ((flt p lo n).map V.int)))) :
    ∃ W : Nat → Nat → Hp → Prop, (∃ m, W 0 m (upd H D (.lst []))) ∧ ∀ i m H, W i m H →
      ((Itr lo n).stop i H ∧ Qd H) ∨ ((Itr lo n).go i H ∧ ∃ Nx : Hp → Prop, (∀ H', Nx H' → ∃ m', m' < m ∧ W (i + 1) m' H') ∧ ∀ x H', (Itr lo n).yld i H x H' → gName g x (wipe σ vs) H' fun σ2 H2 => wipe σ2 vs = wipe σ vs ∧ tt σ2 H2 fun b H3 =>
        if b = true then tVar g σ2 H3 fun y H4 => ∃ acc, H4 D = some (.lst acc) ∧ acc.length < sizeLine ∧ Nx (upd H4 D (.lst (acc ++ [y]))) else Nx H3) := by
  refine lc_range (lo := lo) (n := n) (fun i H' => H' = upd H D (.lst ((flt p lo i).map V.int))) rfl (fun i H' hi' q => ?_) (fun H' q => ?_)
  · subst q
    refine ⟨hw _, ht i _ hi' (same_new hD) _ ?_⟩
    have fl := flt_len (p := p) (a := lo) (n := i)
    cases c : p (lo + i) with
    | true =>
      refine iteT ⟨_, hi _, ?_⟩
      refine acc_put (by rw [List.length_map]; exact sz_small (by omega)) ?_
      show _ = ((if p (lo + i) = true then _ else _ : List Int).map V.int)
      rw [if_pos c, List.map_append]
      rfl
    | false =>
      refine iteF ?_
      show _ = upd H D (.lst ((if p (lo + i) = true then _ else _ : List Int).map V.int))
      rw [if_neg (by rw [c]; decide)]
  · subst q
    exact hd
/-- [x for x in xs if p(x)], ints -/
theorem lc_fltL {K : PySem.W.Frag} {a : Addr} {ns : List Int} {p : Int → Bool} {g : Nat} {tt : TT} {vs : List Nat} {σ : L2.St} {H : Hp} {D : Addr} {Qd : Hp → Prop} (hS : SqL K H a (ns.map V.int)) (hD : H D = none) (hl : ns.length < 100000)
    (hw : ∀ x, wipe ((wipe σ vs).set g (some x)) vs = wipe σ vs) (hi : ∀ x, ((wipe σ vs).set g (some x))[g]? = some (some x))
    (ht : ∀ (i : Nat) n H', ns[i]? = some n → Same H H' → ∀ Q : Bool → Hp → Prop, Q (p n) H' → tt ((wipe σ vs).set g (some (.int n))) H' Q)
    (hd : Qd (upd H D (.lst ((ns.filter p).map V.int)))) :
    ∃ W : Nat → Nat → Hp → Prop, (∃ m, W 0 m (upd H D (.lst []))) ∧ ∀ i m H, W i m H →
      ((Itl K a).stop i H ∧ Qd H) ∨ ((Itl K a).go i H ∧ ∃ Nx : Hp → Prop, (∀ H', Nx H' → ∃ m', m' < m ∧ W (i + 1) m' H') ∧ ∀ x H', (Itl K a).yld i H x H' → gName g x (wipe σ vs) H' fun σ2 H2 => wipe σ2 vs = wipe σ vs ∧ tt σ2 H2 fun b H3 =>
        if b = true then tVar g σ2 H3 fun y H4 => ∃ acc, H4 D = some (.lst acc) ∧ acc.length < sizeLine ∧ Nx (upd H4 D (.lst (acc ++ [y]))) else Nx H3) := by
  refine lc_list (xs := ns.map V.int) (fun i H' => H' = upd H D (.lst (((ns.take i).filter p).map V.int))) rfl (fun i H' _ p => by subst p; exact Same.l (same_new hD) hS) (fun i x H' hx q => ?_) (fun H' q => ?_)
  · subst q
    rw [List.getElem?_map] at hx
    cases q : ns[i]? with
    | none => rw [q] at hx; cases hx
    | some n =>
      rw [q] at hx
      cases hx
      have e : ns.take (i + 1) = ns.take i ++ [n] := by rw [List.take_succ, q]; rfl
      refine ⟨hw _, ht i n _ q (same_new hD) _ ?_⟩
      cases c : p n with
      | true =>
        refine iteT ⟨_, hi _, ?_⟩
        refine acc_put ?_ ?_
        · rw [List.length_map]
          refine sz_small (Nat.lt_of_le_of_lt (List.length_filter_le ..) ?_)
          rw [List.length_take]; omega
        · rw [e, List.filter_append, List.map_append]
          simp [c]
      | false =>
        refine iteF ?_
        rw [e, List.filter_append]
        simp [c]
  · subst q
    rw [List.length_map, List.take_of_length_le (Nat.le_refl _)]
    exact hd
/-- [f(x, y) for x, y in zip(xs, ys)], ints -/
theorem lc_zipI {K : PySem.W.Frag} {a b : Addr} {ns ms : List Int} {f : Int → Int → Int} {i1 i2 : Nat} {te : TE} {vs : List Nat} {σ : L2.St} {H : Hp} {D : Addr} {Qd : Hp → Prop} (h1 : SqL K H a (ns.map V.int)) (h2 : SqL K H b (ms.map V.int)) (hD : H D = none) (nt : NoT H) (hl : ns.length < 100000)
    (hw : ∀ x y, wipe (((wipe σ vs).set i1 (some x)).set i2 (some y)) vs = wipe σ vs)
    (he : ∀ n m H', Same H H' → ∀ Q : VK, Q (.int (f n m)) H' → te (((wipe σ vs).set i1 (some (.int n))).set i2 (some (.int m))) H' Q)
    (hd : ∀ H', Same H H' → NoT H' → H' D = some (.lst ((List.zipWith f ns ms).map V.int)) → Qd H') :
    ∃ W : Nat → Nat → Hp → Prop, (∃ m, W 0 m (upd H D (.lst []))) ∧ ∀ i m H, W i m H →
      ((Itz K a b).stop i H ∧ Qd H) ∨ ((Itz K a b).go i H ∧ ∃ Nx : Hp → Prop, (∀ H', Nx H' → ∃ m', m' < m ∧ W (i + 1) m' H') ∧ ∀ x H', (Itz K a b).yld i H x H' → gTup K 2 (gCons (gName i1) (gCons (gName i2) gNil)) x (wipe σ vs) H' fun σ2 H2 => wipe σ2 vs = wipe σ vs ∧ tYes σ2 H2 fun b H3 =>
        if b = true then te σ2 H3 fun y H4 => ∃ acc, H4 D = some (.lst acc) ∧ acc.length < sizeLine ∧ Nx (upd H4 D (.lst (acc ++ [y]))) else Nx H3) := by
  refine lc_zipL (xs := ns.map V.int) (ys := ms.map V.int) (fun i H' => Same H H' ∧ NoT H' ∧ H' D = some (.lst (((List.zipWith f ns ms).take i).map V.int))) ⟨same_new hD, nt.lst, upd_same⟩ (fun i H' p => ⟨Same.l p.1 h1, Same.l p.1 h2⟩) (fun i x y T H' hx' hy' hT p => ?_) (fun H' p => ?_)
  · obtain ⟨p1, p2, p3⟩ := p
    rw [List.getElem?_map] at hx' hy'
    cases qx : ns[i]? with
    | none => rw [qx] at hx'; cases hx'
    | some n =>
      cases qy : ms[i]? with
      | none => rw [qy] at hy'; cases hy'
      | some m =>
        rw [qx] at hx'
        rw [qy] at hy'
        cases hx'
        cases hy'
        have s2 : Same H (upd H' T (.tup [.int n, .int m])) := p1.trans (same_new hT)
        have zg : (List.zipWith f ns ms)[i]? = some (f n m) := by rw [List.getElem?_zipWith, qx, qy]
        refine ⟨T, _, rfl, SqT.of upd_same, rfl, _, _, rfl, _, _, rfl, rfl, hw _ _, ?_⟩
        show te _ _ _
        refine he n m _ s2 _ ⟨_, same_new hT _ _ p3, ?_, ?_, p2.tup.lst, ?_⟩
        · rw [List.length_map, List.length_take, List.length_zipWith]
          exact sz_small (by omega)
        · intro b o e
          by_cases c : b = D
          · subst c; rw [hD] at e; cases e
          · rw [upd_ne c]; exact s2 b o e
        · rw [upd_same, take_put zg]
  · refine hd H' p.1 p.2.1 ?_
    rw [p.2.2, List.take_of_length_le (by rw [List.length_zipWith, List.length_map, List.length_map]; omega)]
theorem cutV_nat {xs : List V} {k : Nat} : cutV xs none (some (k : Int)) = xs.take k := by
  unfold cutV
  rw [HT.sIx_none, HT.sIx_nat, List.drop_zero, Nat.sub_zero]
  by_cases h : k ≤ xs.length
  · rw [Nat.min_eq_left h]
  · rw [Nat.min_eq_right (by omega), List.take_of_length_le (Nat.le_refl _), List.take_of_length_le (by omega)]
theorem cutV_from {xs : List V} {k : Nat} : cutV xs (some (k : Int)) none = xs.drop k := by
  unfold cutV
  rw [HT.sIx_none, HT.sIx_nat]
  rw [List.take_of_length_le (by rw [List.length_drop]; omega)]
  by_cases h : k ≤ xs.length
  · rw [Nat.min_eq_left h]
  · rw [Nat.min_eq_right (by omega), List.drop_of_length_le (Nat.le_refl _), List.drop_of_length_le (by omega)]
theorem cut_to {ns : List Int} {k : Nat} : cutV (ns.map V.int) none (some (k : Int)) = (ns.take k).map V.int := by rw [cutV_nat, List.map_take]
theorem cut_from {ns : List Int} {k : Nat} : cutV (ns.map V.int) (some (k : Int)) none = (ns.drop k).map V.int := by rw [cutV_from, List.map_drop]
/-- zip(zs, zs[1:] + [z0 + T]) or zip(round, round[1:]): the differences -/
theorem zip_rnd1 {T : Int} {zs : List Int} : List.zipWith (fun a b => b - a) zs (zs.drop 1 ++ (zs.take 1).map (· + T)) = difs (rnd T zs) := by
  unfold difs rnd
  cases zs with
  | nil => rfl
  | cons z zs =>
    simp only [List.take_succ_cons, List.take_zero, List.map_cons, List.map_nil, List.drop_succ_cons, List.drop_zero, List.cons_append, List.tail_cons]
    rw [← List.cons_append]
    have : ∀ (xs ys : List Int) (w : Int), xs.length = ys.length → List.zipWith (fun a b => b - a) (xs ++ [w]) ys = List.zipWith (fun a b : Int => b - a) xs ys := fun xs => by
      induction xs with
      | nil => intro ys w h; cases ys with | nil => rfl | cons y ys => simp at h
      | cons x xs ih =>
        intro ys w h
        cases ys with
        | nil => simp at h
        | cons y ys =>
          simp only [List.cons_append, List.zipWith_cons_cons]
          rw [ih ys w (by simpa using h)]
    rw [this (z :: zs) (zs ++ [z + T]) (z + T) (by simp)]
theorem rnd_len {T : Int} {zs : List Int} : (rnd T zs).length ≤ zs.length + 1 := by
  unfold rnd
  rw [List.length_append, List.length_map, List.length_take]; omega
theorem rnd_of {d t b s pl wk nm T : Int} {ys : List Int} (Y : Yso d t b s pl wk nm ys T) : Rnd (has d t b s pl wk nm) 0 T ys := by
  have tp := Y.tpos
  refine ⟨fun z k => ?_, tp, Y.inc, fun z => ?_⟩
  · rw [Y.good, Y.good, Int.add_mul_emod_self_left]
  · constructor
    · intro h
      have r := Y.rng z h
      refine ⟨r.1, by omega, (Y.good z).mpr ?_⟩
      rw [Int.emod_eq_of_lt r.1 r.2]; exact h
    · rintro ⟨a, b', c⟩
      have := (Y.good z).mp c
      rwa [Int.emod_eq_of_lt a (by omega)] at this
end Ly
set_option Elab.async false
set_option linter.all false
set_option maxRecDepth 100000
set_option maxHeartbeats 4000000
/-! the next one, or None -/
namespace Ly
open PySem PySem.Spec PyProof.Rows L2
/-- o is the first from y on, or None -/
def Nxt (p : Int → Prop) (y : Int) (o : V) : Prop := (o = .non ∧ ∀ z, ¬ p z) ∨ ∃ m, o = .int m ∧ Fst p y m
theorem Rnd.nxt {p : Int → Prop} {a T : Int} {zs : List Int} (R : Rnd p a T zs) : ∃ o, Nxt p a o ∧ (zs = [] → o = .non) ∧ ∀ m r, zs = m :: r → o = .int m := by
  cases zs with
  | nil => exact ⟨.non, .inl ⟨rfl, R.ne.mp rfl⟩, fun _ => rfl, fun m r e => (nomatch e)⟩
  | cons m r => exact ⟨.int m, .inr ⟨m, rfl, R.fst rfl⟩, fun e => (nomatch e), fun m' r' e => by cases e; rfl⟩
theorem Rnd.head {p : Int → Prop} {a T : Int} {zs : List Int} {o : V} (R : Rnd p a T zs) (n : Nxt p a o) : (zs = [] → o = .non) ∧ ∀ m r, zs = m :: r → o = .int m := by
  constructor
  · intro e
    rcases n with ⟨rfl, _⟩ | ⟨m, rfl, h⟩
    · rfl
    · exact absurd h.2.1 (R.ne.mp e m)
  · intro m r e
    have F := R.fst e
    rcases n with ⟨rfl, h⟩ | ⟨k, rfl, h⟩
    · exact absurd F.2.1 (h m)
    · rw [h.uniq F]
theorem Nxt.uniq {p : Int → Prop} {y : Int} {o o' : V} (a : Nxt p y o) (b : Nxt p y o') : o = o' := by
  rcases a with ⟨rfl, h⟩ | ⟨m, rfl, h⟩
  · rcases b with ⟨rfl, _⟩ | ⟨m, rfl, h'⟩
    · rfl
    · exact absurd h'.2.1 (h m)
  · rcases b with ⟨rfl, h'⟩ | ⟨m', rfl, h'⟩
    · exact absurd h.2.1 (h' m)
    · rw [h.uniq h']
theorem Nxt.sm {K : PySem.W.Frag} {H : Hp} {k : Nat} {p : Int → Prop} {y : Int} {o : V} (a : Nxt p y o) : Sm K H k o o := by
  rcases a with ⟨rfl, _⟩ | ⟨m, rfl, _⟩
  · exact .non k
  · exact .int k m
/-- xs[0] if xs != [] else .. -/
theorem hd_if {K : PySem.W.Frag} {i : Nat} {σ : L2.St} {H : Hp} {Q : VK} {a : Addr} {ns : List Int} {tb : TE} {o : V} (hσ : σ[i]? = some (some (.ref a))) (hS : SqL K H a (ns.map V.int)) (nt : NoT H)
    (h1 : ∀ m r, ns = m :: r → o = .int m) (h2 : ns = [] → ∀ H', Same H H' → NoT H' → tb σ H' Q) (q : ∀ H', Same H H' → NoT H' → Q o H') :
    tIf (tTest (tOp (rNeD K) (tVar i) (tLst tNil))) (tOp (rIxL K) (tVar i) (tC (.int 0))) tb σ H Q := by
  refine ⟨_, hσ, Nat.zero_le _, fun e he => ne_nil (Same.l (same_new he) hS) (SqL.of upd_same) ⟨_, rfl, ?_⟩⟩
  cases ns with
  | nil =>
    rw [decide_eq_true rfl]
    exact iteF (h2 rfl _ (same_new he) nt.lst)
  | cons m r =>
    rw [decide_eq_false (by simp)]
    refine iteT ⟨_, hσ, a, _, 0, .int m, rfl, rfl, Same.l (same_new he) hS, atI_nat (xs := (m :: r).map V.int) (j := 0) (v := .int m) rfl, ?_⟩
    rw [← h1 m r rfl]
    exact q _ (same_new he) nt.lst
/-- xs[0] if xs != [] else None -/
theorem hd_or {K : PySem.W.Frag} {i : Nat} {σ : L2.St} {H : Hp} {Q : VK} {a : Addr} {ns : List Int} {o : V} (hσ : σ[i]? = some (some (.ref a))) (hS : SqL K H a (ns.map V.int)) (nt : NoT H)
    (h : (ns = [] → o = .non) ∧ ∀ m r, ns = m :: r → o = .int m) (q : ∀ H', Same H H' → NoT H' → Q o H') :
    tIf (tTest (tOp (rNeD K) (tVar i) (tLst tNil))) (tOp (rIxL K) (tVar i) (tC (.int 0))) (tC .non) σ H Q :=
  hd_if hσ hS nt h.2 (fun e H' s n => by have := q H' s n; rw [h.1 e] at this; exact this) q
end Ly
namespace Ly
open PySem PySem.Spec PyProof.Rows L2
/-- xs[0] + n if xs != [] else None -/
theorem hd_if2 {K : PySem.W.Frag} {i j : Nat} {σ : L2.St} {H : Hp} {Q : VK} {a : Addr} {ns : List Int} {n : Int} {o : V} (hσ : σ[i]? = some (some (.ref a))) (hn : σ[j]? = some (some (.int n))) (hS : SqL K H a (ns.map V.int)) (nt : NoT H)
    (h1 : ∀ m r, ns = m :: r → o = .int (m + n)) (h2 : ns = [] → o = .non) (q : ∀ H', Same H H' → NoT H' → Q o H') :
    tIf (tTest (tOp (rNeD K) (tVar i) (tLst tNil))) (tOp (rI0 fun x y => .int (x + y)) (tOp (rIxL K) (tVar i) (tC (.int 0))) (tVar j)) (tC .non) σ H Q := by
  refine ⟨_, hσ, Nat.zero_le _, fun e he => ne_nil (Same.l (same_new he) hS) (SqL.of upd_same) ⟨_, rfl, ?_⟩⟩
  cases ns with
  | nil =>
    rw [decide_eq_true rfl]
    have := q _ (same_new (o := .lst []) he) nt.lst
    rw [h2 rfl] at this
    exact iteF this
  | cons m r =>
    rw [decide_eq_false (by simp)]
    refine iteT ⟨_, hσ, a, _, 0, .int m, rfl, rfl, Same.l (same_new he) hS, atI_nat (xs := (m :: r).map V.int) (j := 0) (v := .int m) rfl, _, hn, _, _, rfl, rfl, ?_⟩
    show Q (.int (m + n)) _
    rw [← h1 m r rfl]
    exact q _ (same_new he) nt.lst
theorem hd_if3 {K : PySem.W.Frag} {i j k : Nat} {σ : L2.St} {H : Hp} {Q : VK} {a b : Addr} {ns ms : List Int} {n : Int} {o : V} (hσ : σ[i]? = some (some (.ref a))) (hS : SqL K H a (ns.map V.int)) (h0 : ∀ m r, ns = m :: r → o = .int m)
    (hτ : σ[k]? = some (some (.ref b))) (hn : σ[j]? = some (some (.int n))) (hT : SqL K H b (ms.map V.int)) (nt : NoT H)
    (h1 : ns = [] → ∀ m r, ms = m :: r → o = .int (m + n)) (h2 : ns = [] → ms = [] → o = .non) (q : ∀ H', Same H H' → NoT H' → Q o H') :
    tIf (tTest (tOp (rNeD K) (tVar i) (tLst tNil))) (tOp (rIxL K) (tVar i) (tC (.int 0))) (tIf (tTest (tOp (rNeD K) (tVar k) (tLst tNil))) (tOp (rI0 fun x y => .int (x + y)) (tOp (rIxL K) (tVar k) (tC (.int 0))) (tVar j)) (tC .non)) σ H Q :=
  hd_if hσ hS nt h0 (fun e H' s n => hd_if2 hτ hn (Same.l s hT) n (h1 e) (h2 e) fun H'' s' n' => q H'' (s.trans s') n') q
theorem Nxt.scal {p : Int → Prop} {y : Int} {o : V} (a : Nxt p y o) : scal o o = true := by
  rcases a with ⟨rfl, _⟩ | ⟨m, rfl, _⟩ <;> rfl
end Ly
set_option Elab.async false
set_option linter.all false
set_option maxRecDepth 100000
set_option maxHeartbeats 4000000
/-! comprehensions over a range; kinds kept -/
namespace Ly
open PySem PySem.Spec PyProof.Rows L2
theorem Kn.same {K : PySem.W.Frag} {H H' : Hp} {x : V} {n : String} (s : Same H H') (h : Kn K H x n) : Kn K H' x n := by
  cases h with
  | non => exact .non
  | bl b => exact .bl b
  | int i => exact .int i
  | str x => exact .str x
  | lst h => exact .lst (Same.l s h)
  | tup h => exact .tup (Same.t s h)
/-- [f(x) for x in range(..)] -/
theorem lc_rgV {lo : Int} {n : Nat} {f : Nat → V} {g : Nat} {te : TE} {vs : List Nat} {σ : L2.St} {H : Hp} {D : Addr} {Qd : Hp → Prop} (hD : H D = none) (hl : n < 100000)
    (hw : ∀ x, wipe ((wipe σ vs).set g (some x)) vs = wipe σ vs)
    (he : ∀ (i : Nat) H', i < n → Same H H' → ((∃ ys : List V, H' = upd H D (.lst ys)) → ∀ Q : VK, Q (f i) H' → te ((wipe σ vs).set g (some (.int (lo + i)))) H' Q))
    (hd : Qd (upd H D (.lst ((List.range n).map f)))) :
    ∃ W : Nat → Nat → Hp → Prop, (∃ m, W 0 m (upd H D (.lst []))) ∧ ∀ i m H, W i m H →
      ((Itr lo n).stop i H ∧ Qd H) ∨ ((Itr lo n).go i H ∧ ∃ Nx : Hp → Prop, (∀ H', Nx H' → ∃ m', m' < m ∧ W (i + 1) m' H') ∧ ∀ x H', (Itr lo n).yld i H x H' → gName g x (wipe σ vs) H' fun σ2 H2 => wipe σ2 vs = wipe σ vs ∧ tYes σ2 H2 fun b H3 =>
        if b = true then te σ2 H3 fun y H4 => ∃ acc, H4 D = some (.lst acc) ∧ acc.length < sizeLine ∧ Nx (upd H4 D (.lst (acc ++ [y]))) else Nx H3) := by
  refine lc_range (lo := lo) (n := n) (fun i H' => H' = upd H D (.lst ((List.range i).map f))) rfl (fun i H' hi' q => ?_) (fun H' q => ?_)
  · subst q
    refine ⟨hw _, ?_⟩
    show te _ _ _
    refine he i _ hi' (same_new hD) ⟨_, rfl⟩ _ ?_
    refine acc_put (by rw [List.length_map, List.length_range]; exact sz_small (by omega)) ?_
    rw [List.range_succ, List.map_append]; rfl
  · subst q
    exact hd
theorem all_range {n : Nat} {p : Nat → Bool} : ((List.range n).map p).all id = true ↔ ∀ k, k < n → p k = true := by
  rw [List.all_eq_true]
  constructor
  · intro h k hk
    exact h (p k) (List.mem_map.mpr ⟨k, List.mem_range.mpr hk, rfl⟩)
  · intro h x hx
    obtain ⟨k, hk, rfl⟩ := List.mem_map.mp hx
    exact h k (List.mem_range.mp hk)
/-- a thing that bars -/
def Bar (d t b s pl wk nm : Int) (x : V) : Prop := ∃ i, x = .int i ∧ BarI d t b s pl wk nm i
end Ly
set_option Elab.async false
set_option linter.all false
set_option maxRecDepth 100000
set_option maxHeartbeats 4000000
/-! one statement at a time, the rest kept away -/
namespace Ly
open PySem PySem.Spec PyProof.Rows L2
section
variable {c : TT} {t rest : TS} {te : TE} {ta : TA} {g : TG} {D : Ends} {σ : L2.St} {H : Hp} {i j : Nat}
/-- things may be made beside -/
def Sn (H : Hp) : Hp → Prop := fun H' => Same H H' ∧ NoT H'
theorem Sn.refl {H : Hp} (nt : NoT H) : Sn H H := ⟨Same.refl _, nt⟩
theorem sq_if (R : Hp → Prop) (h : ∀ Q : Bool → Hp → Prop, (∀ H', R H' → Q false H') → c σ H Q) (q : ∀ H', R H' → rest D σ H') : tSeq (tIfS c t tNext) rest D σ H :=
  h _ fun H' r => iteF (q H' r)
theorem sq_ifL (R : Hp → Prop) (h : ∀ Q : Bool → Hp → Prop, (∀ H', R H' → Q false H') → c σ H Q) (q : ∀ H', R H' → D.nx σ H') : tIfS c t tNext D σ H :=
  h _ fun H' r => iteF (q H' r)
theorem sq_set (R : V → Hp → Prop) (h : ∀ Q : VK, (∀ v H', R v H' → Q v H') → te σ H Q) (q : ∀ v H', R v H' → rest D (σ.set i (some v)) H') : tSeq (tAsg te (gName i)) rest D σ H :=
  h _ fun v H' r => q v H' r
theorem sq_asg (R : V → Hp → Prop) (h : ∀ Q : VK, (∀ v H', R v H' → Q v H') → te σ H Q) (q : ∀ v H', R v H' → g v σ H' (rest D)) : tSeq (tAsg te g) rest D σ H :=
  h _ fun v H' r => q v H' r
theorem sq_par (R : V → V → Hp → Prop) (h : ∀ Q : List V → Hp → Prop, (∀ v w H', R v w H' → Q [v, w] H') → ta σ H Q) (q : ∀ v w H', R v w H' → rest D ((σ.set i (some v)).set j (some w)) H') : tSeq (tPar i j ta) rest D σ H :=
  h _ fun v w H' r => ⟨v, w, rfl, q v w H' r⟩
end
end Ly
namespace Ly
open PySem PySem.Spec PyProof.Rows L2
theorem sq_st {t rest : TS} {D : Ends} {σ : L2.St} {H : Hp} (R : L2.St → Hp → Prop) (h : ∀ D' : Ends, (∀ σ' H', R σ' H' → D'.nx σ' H') → t D' σ H) (q : ∀ σ' H', R σ' H' → rest D σ' H') : tSeq t rest D σ H := h _ q
end Ly
namespace Ly
open PySem PySem.Spec PyProof.Rows L2
theorem flat_ints (ns : List Int) : (ns.map V.int).all flatV = true := by
  rw [List.all_eq_true]
  intro x hx
  obtain ⟨n, _, rfl⟩ := List.mem_map.mp hx
  rfl
theorem inV_int {g : Int} {ns : List Int} : inV (.int g) (ns.map V.int) = decide (g ∈ ns) := by
  unfold inV
  rw [Bool.eq_iff_iff, List.any_eq_true, decide_eq_true_iff]
  constructor
  · rintro ⟨x, hx, e⟩
    obtain ⟨n, hn, rfl⟩ := List.mem_map.mp hx
    have : n = g := by simpa [eqV] using e
    subst this; exact hn
  · intro h
    exact ⟨.int g, List.mem_map.mpr ⟨g, h, rfl⟩, by simp [eqV]⟩
/-- the next one is at most a round away -/
theorem fst_near {p : Int → Prop} {T y m : Int} (per : Per p T) (hT : 1 ≤ T) (F : Fst p y m) : m < y + T := by
  have h0 := Int.emod_nonneg (m - y) (show T ≠ 0 by omega)
  have h1 := Int.emod_lt_of_pos (m - y) (show 0 < T by omega)
  have h2 := Int.emod_add_mul_ediv (m - y) T
  have := F.2.2 (y + (m - y) % T) (by omega) (by
    rw [← per _ ((m - y) / T), show y + (m - y) % T + T * ((m - y) / T) = m by omega]
    exact F.2.1)
  omega
end Ly
namespace Ly
open PySem PySem.Spec PyProof.Rows L2
theorem sq_st0 {t rest : TS} {D : Ends} {σ : L2.St} {H : Hp} (R : Hp → Prop) (h : ∀ D' : Ends, (∀ H', R H' → D'.nx σ H') → t D' σ H) (q : ∀ H', R H' → rest D σ H') : tSeq t rest D σ H := h _ q
end Ly
set_option Elab.async false
set_option linter.all false
set_option maxRecDepth 100000
set_option maxHeartbeats 4000000
/-! parted lands -/
namespace Ly
open PySem PySem.Spec PyProof.Rows L2
/-- o is the first year from 0 on that parts two lands, or None -/
def Pt (f g : Int → Int) (o : V) : Prop := (o = .non ∧ ∀ y, f y = g y) ∨ ∃ y, o = .int y ∧ (0 ≤ y ∧ y ≤ 7200) ∧ f y ≠ g y ∧ ∀ k, 0 ≤ k → k < y → f k = g k
theorem Pt.uniq {f g : Int → Int} {o o' : V} (a : Pt f g o) (b : Pt f g o') : o = o' := by
  rcases a with ⟨rfl, h⟩ | ⟨y, rfl, y0, hy, hl⟩
  · rcases b with ⟨rfl, _⟩ | ⟨m, rfl, _, hm, _⟩
    · rfl
    · exact absurd (h m) hm
  · rcases b with ⟨rfl, h⟩ | ⟨m, rfl, m0, hm, hl'⟩
    · exact absurd (h y) hy
    · have h1 : ¬ m < y := fun z => hm (hl m m0.1 z)
      have h2 : ¬ y < m := fun z => hy (hl' y y0.1 z)
      rw [show y = m by omega]
theorem Pt.symm {f g : Int → Int} {o : V} (a : Pt f g o) : Pt g f o := by
  rcases a with ⟨rfl, h⟩ | ⟨y, rfl, y0, hy, hl⟩
  · exact .inl ⟨rfl, fun y => (h y).symm⟩
  · exact .inr ⟨y, rfl, y0, fun z => hy z.symm, fun k a b => (hl k a b).symm⟩
theorem Pt.scal {f g : Int → Int} {o : V} (a : Pt f g o) : scal o o = true := by
  rcases a with ⟨rfl, _⟩ | ⟨m, rfl, _⟩ <;> rfl
end Ly
namespace Ly
open PySem PySem.Spec PyProof.Rows L2
theorem sq_str {t rest : TS} {D : Ends} {σ : L2.St} {H : Hp} (R : L2.St → Hp → Prop) (h : ∀ N : L2.St → Hp → Prop, (∀ σ' H', R σ' H' → N σ' H') → t { D with nx := N } σ H) (q : ∀ σ' H', R σ' H' → rest D σ' H') : tSeq t rest D σ H := h _ q
end Ly
namespace Ly
open PySem PySem.Spec PyProof.Rows L2
theorem yesT {σ : L2.St} {H : Hp} {A B : Hp → Prop} (h : A H) : tYes σ H fun b H3 => if b = true then A H3 else B H3 := iteT (B := B H) h
end Ly
set_option Elab.async false
set_option linter.all false
set_option maxRecDepth 100000
set_option maxHeartbeats 4000000
/-! dicts whose values are lists; dict comprehensions over lists -/
namespace Ly
open PySem PySem.Spec PyProof.Rows L2
theorem putK_len {κ : Type} [DecidableEq κ] (kvs : List (κ × V)) (k : κ) (v : V) : (putK kvs k v).length ≤ kvs.length + 1 := by
  unfold putK
  split
  · rw [List.length_map]; omega
  · rw [List.length_append]; exact Nat.le_refl _
/-- {k(x): True for x in xs}, ints -/
theorem dc_ints {K : PySem.W.Frag} {a : Addr} {ns : List Int} {f : Int → Int} {g : Nat} {tk : TE} {vs : List Nat} {σ : L2.St} {H : Hp} {D : Addr} {Qd : Hp → Prop} (hS : SqL K H a (ns.map V.int)) (hD : H D = none) (hl : ns.length < 100000)
    (hw : ∀ x, wipe ((wipe σ vs).set g (some x)) vs = wipe σ vs)
    (he : ∀ (i : Nat) n H', ns[i]? = some n → Same H H' → ∀ Q : VK, Q (.int (f n)) H' → tk ((wipe σ vs).set g (some (.int n))) H' Q)
    (hd : ∀ kvs : List (Key × V), (∀ r : Int, (valV kvs (Sum.inl r)).isSome = decide (r ∈ ns.map f)) → Qd (upd H D (.dK kvs))) :
    ∃ W : Nat → Nat → Hp → Prop, (∃ m, W 0 m (upd H D (.dK []))) ∧ ∀ i m H, W i m H →
      ((Itl K a).stop i H ∧ Qd H) ∨ ((Itl K a).go i H ∧ ∃ Nx : Hp → Prop, (∀ H', Nx H' → ∃ m', m' < m ∧ W (i + 1) m' H') ∧ ∀ x H', (Itl K a).yld i H x H' → gName g x (wipe σ vs) H' fun σ2 H2 => wipe σ2 vs = wipe σ vs ∧ tYes σ2 H2 fun b H3 =>
        if b = true then tk σ2 H3 fun y H4 => tC (.bl true) σ2 H4 fun z H5 => ∃ kvs k, y = kV k ∧ H5 D = some (.dK kvs) ∧ kvs.length < sizeLine ∧ Nx (upd H5 D (.dK (putK kvs k z))) else Nx H3) := by
  refine ⟨fun i m H' => m = ns.length - i ∧ i ≤ ns.length ∧ ∃ kvs : List (Key × V), H' = upd H D (.dK kvs) ∧ kvs.length ≤ i ∧ ∀ r : Int, (valV kvs (Sum.inl r)).isSome = decide (r ∈ (ns.take i).map f), ⟨ns.length, by simp, Nat.zero_le _, [], rfl, Nat.le_refl _, fun r => by simp [valV_nil]⟩, ?_⟩
  rintro i m H' ⟨rfl, hi, kvs, rfl, hk, hv⟩
  have q := Same.l (same_new (o := .dK kvs) hD) hS
  by_cases hlt : i < ns.length
  · have hx : (ns.map V.int)[i]? = some (.int ns[i]) := by rw [List.getElem?_map, List.getElem?_eq_getElem hlt]; rfl
    refine .inr ⟨⟨_, _, q, hx⟩, fun H' => ∃ kvs : List (Key × V), H' = upd H D (.dK kvs) ∧ kvs.length ≤ i + 1 ∧ ∀ r : Int, (valV kvs (Sum.inl r)).isSome = decide (r ∈ (ns.take (i + 1)).map f), fun H' p' => ⟨ns.length - (i + 1), by omega, rfl, hlt, p'⟩, fun x H' y => ?_⟩
    obtain ⟨e, y⟩ := y
    have ex := y _ q
    rw [hx] at ex
    cases ex
    subst e
    refine ⟨hw _, ?_⟩
    show tk _ _ _
    refine he i _ _ (List.getElem?_eq_getElem hlt) (same_new hD) _ ?_
    refine ⟨kvs, Sum.inl (f ns[i]), rfl, upd_same, sz_small (by omega), _, upd_upd, Nat.le_trans (putK_len ..) (by omega), fun r => ?_⟩
    rw [valV_put, List.take_succ, List.getElem?_eq_getElem hlt, List.map_append]
    by_cases c : r = f ns[i]
    · subst c
      simp
    · rw [if_neg (fun z => c (Sum.inl.inj z)), hv]
      simp [c]
  · have e : i = ns.length := by omega
    subst e
    refine .inl ⟨⟨_, q, by rw [List.length_map]; exact Nat.le_refl _⟩, hd kvs fun r => ?_⟩
    rw [hv, List.take_of_length_le (Nat.le_refl _)]
/-- [f(x) for x in xs], any values -/
theorem lc_mapV {K : PySem.W.Frag} {a : Addr} {ns : List Int} {f : Int → V} {g : Nat} {te : TE} {vs : List Nat} {σ : L2.St} {H : Hp} {D : Addr} {Qd : Hp → Prop} (hS : SqL K H a (ns.map V.int)) (hD : H D = none) (hl : ns.length < 100000)
    (hw : ∀ x, wipe ((wipe σ vs).set g (some x)) vs = wipe σ vs)
    (he : ∀ (i : Nat) n H', ns[i]? = some n → Same H H' → ∀ Q : VK, Q (f n) H' → te ((wipe σ vs).set g (some (.int n))) H' Q)
    (hd : Qd (upd H D (.lst (ns.map f)))) :
    ∃ W : Nat → Nat → Hp → Prop, (∃ m, W 0 m (upd H D (.lst []))) ∧ ∀ i m H, W i m H →
      ((Itl K a).stop i H ∧ Qd H) ∨ ((Itl K a).go i H ∧ ∃ Nx : Hp → Prop, (∀ H', Nx H' → ∃ m', m' < m ∧ W (i + 1) m' H') ∧ ∀ x H', (Itl K a).yld i H x H' → gName g x (wipe σ vs) H' fun σ2 H2 => wipe σ2 vs = wipe σ vs ∧ tYes σ2 H2 fun b H3 =>
        if b = true then te σ2 H3 fun y H4 => ∃ acc, H4 D = some (.lst acc) ∧ acc.length < sizeLine ∧ Nx (upd H4 D (.lst (acc ++ [y]))) else Nx H3) := by
  refine lc_list (xs := ns.map V.int) (fun i H' => H' = upd H D (.lst ((ns.take i).map f))) rfl (fun i H' _ p => by subst p; exact Same.l (same_new hD) hS) (fun i x H' hx p => ?_) (fun H' p => ?_)
  · subst p
    rw [List.getElem?_map] at hx
    cases q : ns[i]? with
    | none => rw [q] at hx; cases hx
    | some n =>
      rw [q] at hx
      cases hx
      refine ⟨hw _, ?_⟩
      show te _ _ _
      refine he i n _ q (same_new hD) _ ?_
      refine acc_put (by rw [List.length_map, List.length_take]; exact sz_small (by omega)) ?_
      rw [List.take_succ, q, List.map_append]; rfl
  · subst p
    rw [List.length_map, List.take_of_length_le (Nat.le_refl _)]
    exact hd
end Ly
namespace Ly
open PySem PySem.Spec PyProof.Rows L2
/-- the slots written out -/
theorem nrm {T : TS} {D : Ends} {σ : L2.St} {H : Hp} (σ' : L2.St) (e : σ = σ') (h : T D σ' H) : T D σ H := by subst e; exact h
end Ly
set_option Elab.async false
set_option linter.all false
set_option maxRecDepth 100000
set_option maxHeartbeats 4000000
/-! truths reckoned with; texts of truths; tuples reversed -/
namespace Ly
open PySem PySem.Spec PyProof.Rows L2
theorem strOk_of (s : String) : PyData.strOk (Str.ofString s) = true := by
  rw [Str.ofString_eq_toList]
  unfold PyData.strOk
  simp only [List.all_toArray, List.all_eq_true, List.mem_map]
  rintro x ⟨c, _, rfl⟩
  have h := c.valid
  rw [decide_eq_true_iff]
  rcases h with h | h
  · have : c.toNat < 55296 := h
    omega
  · exact h.2
section
variable {X : Cx}
/-- True + 1 -/
theorem op_addB : OpR X (binaryOp .Add) (fun x y H Q => ∃ (k : Bool) (j : Int), x = .bl k ∧ y = .int j ∧ Q (.int ((if k = true then (1 : Int) else 0) + j)) H) := by
  intro pins s σ H x y v u Q I rx ry h
  obtain ⟨k, j, rfl, rfl, q⟩ := h
  cases rx
  obtain ⟨t, rfl⟩ := ry
  exact IntBool.add_bool_int ⟨.int _, H, I.tok _, ⟨_, rfl⟩, q⟩
theorem op_subB : OpR X (binaryOp .Sub) (fun x y H Q => ∃ (k : Bool) (j : Int), x = .bl k ∧ y = .int j ∧ Q (.int ((if k = true then (1 : Int) else 0) - j)) H) := by
  intro pins s σ H x y v u Q I rx ry h
  obtain ⟨k, j, rfl, rfl, q⟩ := h
  cases rx
  obtain ⟨t, rfl⟩ := ry
  exact IntBool.sub_bool_int ⟨.int _, H, I.tok _, ⟨_, rfl⟩, q⟩
theorem call_strB : CallR X (.type "str") (fun xs H Q => ∃ k : Bool, xs = [.bl k] ∧ Q (.str (if k then "True" else "False")) H) := by
  intro pins s σ H xs us Q I r h
  obtain ⟨k, rfl, q⟩ := h
  obtain ⟨u, rfl, r1⟩ := vals1 r
  cases r1
  exact PySem.P.str_of_bool ⟨.str _, H, I.tok _, ⟨_, rfl⟩, q⟩
def opAddA : R2 := fun x y H Q => (∃ i j, x = .int i ∧ y = .int j ∧ Q (.int (i + j)) H) ∨ ∃ (k : Bool) (j : Int), x = .bl k ∧ y = .int j ∧ Q (.int ((if k = true then (1 : Int) else 0) + j)) H
def opSubA : R2 := fun x y H Q => (∃ i j, x = .int i ∧ y = .int j ∧ Q (.int (i - j)) H) ∨ ∃ (k : Bool) (j : Int), x = .bl k ∧ y = .int j ∧ Q (.int ((if k = true then (1 : Int) else 0) - j)) H
theorem op_addA : OpR X (binaryOp .Add) opAddA := OpR.or op_add op_addB
theorem op_subA : OpR X (binaryOp .Sub) opSubA := OpR.or op_sub op_subB
def rStrA : List V → Hp → VK → Prop := fun xs H Q => (∃ i, xs = [.int i] ∧ i.natAbs.log2 < 1920 ∧ Q (.str (toString i)) H) ∨ ∃ k : Bool, xs = [.bl k] ∧ Q (.str (if k then "True" else "False")) H
theorem call_strA : CallR X (.type "str") rStrA := CallR.or call_str_int call_strB
/-- list + list or tuple + tuple -/
def rCatA (K : PySem.W.Frag) : R2 := fun x y H Q => rCatS K x y H Q ∨ rCatT K x y H Q
theorem op_catA : OpR X (binaryOp .Add) (rCatA X.K) := OpR.or op_catS op_catT
def rSlLT (K : PySem.W.Frag) : V → Option Int → Option Int → Hp → VK → Prop := fun x lo hi H Q => rSlL K x lo hi H Q ∨ rSlT K x lo hi H Q
theorem sl_LT : SlR X (rSlLT X.K) := SlR.or sl_list sl_tup
end
end Ly
set_option Elab.async false
set_option linter.all false
set_option maxRecDepth 100000
set_option maxHeartbeats 4000000
/-! t[::-1] of a tuple -/
namespace Ly
open PySem PySem.Spec PyProof.Rows L2
theorem rev_pick (xs : Array Value) : ((List.range xs.size).filterMap fun (m : Nat) => xs[(((xs.size : Int) - 1) + (m : Int) * (-1)).toNat]?).toArray = xs.toList.reverse.toArray := by
  have e : (fun (m : Nat) => xs[(((xs.size : Int) - 1) + (m : Int) * (-1)).toNat]?) = (fun k => xs[k]?) ∘ (fun m => xs.size - 1 - m) := by
    funext m
    show xs[_]? = xs[xs.size - 1 - m]?
    congr 1
    omega
  rw [e, ← List.filterMap_map (f := fun m => xs.size - 1 - m) (g := fun k => xs[k]?), PySem.W.krv_range, List.filterMap_reverse, PySem.W.krv_all]
section
variable {prog : Program} {w : World} {A : Around} {E : Value → Shared → Prop} {s : Shared}
theorem applied_rev {sl : Addr} {vl vu vs : Value} {n : Nat} {Q : Int × Int × Nat → Shared → Prop} (hs : s.heap.IsSliceOf sl vl vu vs) (pl : IsPart vl none) (pu : IsPart vu none) (ps : IsPart vs (some (-1)))
    (h : Q ((n : Int) - 1, -1, n) s) : wpAny (model prog w) A (Builtin.Slice.sliceApplied (.ref sl) (pure (n : Int))) Q E s := by
  obtain ⟨ob, ho, _, hd⟩ := id hs
  unfold Builtin.Slice.sliceApplied Builtin.Slice.sliceFields
  refine wpAny_bind (wpAny_bind (wpAny_field ho hd (x := vl) rfl ?_))
  refine wpAny_bind (wpAny_field ho hd (x := vu) rfl ?_)
  refine wpAny_bind (wpAny_field ho hd (x := vs) rfl (wpAny_pure ?_))
  refine wpAny_bind (HT.slicePart_ ps ?_)
  show wpAny _ _ (if ((-1 : Int) == 0) = true then _ else _) _ _ s
  rw [if_neg (by decide)]
  refine wpAny_bind (HT.slicePart_ pl (wpAny_bind (HT.slicePart_ pu (wpAny_bind (wpAny_pure ?_)))))
  have e1 : Builtin.Slice.sliceAdjust none none (-1) (n : Int) = ((n : Int) - 1, -1) := by
    unfold Builtin.Slice.sliceAdjust
    simp
  have e2 : Builtin.Slice.slicePlaces ((n : Int) - 1) (-1) (-1) = n := by
    unfold Builtin.Slice.slicePlaces
    simp
    split <;> omega
  show wpAny _ _ (match Builtin.Slice.sliceAdjust none none (-1) (n : Int) with | (lo, hi) => pure (lo, (-1 : Int), Builtin.Slice.slicePlaces lo hi (-1))) _ _ s
  rw [e1]
  show wpAny _ _ (pure ((n : Int) - 1, (-1 : Int), Builtin.Slice.slicePlaces ((n : Int) - 1) (-1) (-1))) _ _ s
  rw [e2]
  exact wpAny_pure h
theorem tup_rev {t sl : Addr} {items : Array Value} {vl vu vs : Value} {Q : Value → Shared → Prop} (ht : IsTup s.heap t items) (hs : s.heap.IsSliceOf sl vl vu vs) (pl : IsPart vl none) (pu : IsPart vu none) (ps : IsPart vs (some (-1)))
    (h : Q (.ref s.heap.objs.size) { s with heap := s.heap.push { cls := .type "tuple", data := .seq items.toList.reverse.toArray } }) (hz : items.size ≤ sizeLine) : wpAny (model prog w) A (getItem (.ref t) (.ref sl)) Q E s := by
  have ok : sizeOk (.seq items.toList.reverse.toArray) := by
    show items.toList.reverse.toArray.size ≤ sizeLine
    rw [List.size_toArray, List.length_reverse, Array.length_toList]; exact hz
  obtain ⟨ob, ho, hc, _⟩ := id hs
  have ty : s.TypeIs (.ref sl) "slice" := ⟨ob, ho, hc⟩
  unfold getItem
  try with_reducible refine wpAny_holding ?_
  first | refine wpAny_bind (wpAny_pure ?_) | skip
  refine wpAny_bind (wpAny_sequenceKey ht.typeIs (by decide) ?_)
  refine wpAny_bind (wpAny_callSpecial?_slot (name := Str.ofString "__getitem__") ht.typeIs PyProof.Rows.slot_tuple_getitem ?_)
  refine wpAny_call_entry PyProof.Rows.slot_tuple_getitem ht.typeIs entry_tuple_getitem ?_ (args_tuple_getitem _ _)
  show wpAny _ _ (Builtin.Tuple.tupleItemsOf (.ref t) >>= _) _ _ s
  refine wpAny_bind (tupleItemsOf_ ht (wpAny_bind (wpAny_typeOf ty ?_)))
  rw [if_pos (by decide)]
  refine wpAny_bind (applied_rev hs pl pu ps ?_)
  show wpAny _ _ (if (((items.size : Int) - 1) == 0 && (-1 : Int) == 1 && items.size == items.size) = true then _ else _) _ _ s
  rw [if_neg (by simp), rev_pick]
  first
    | exact wpAny_bind (m := Builtin.Tuple.tupleExact _) (wpAny_newObj_type (wpAny_pure ⟨_, rfl, wpAny_pure h⟩) ok)
    | exact wpAny_bind (wpAny_bind (m := Builtin.Tuple.tupleExact _) (wpAny_newObj_type (wpAny_pure ⟨_, rfl, wpAny_pure h⟩) ok))
end
/-- t[::-1], a list or a tuple -/
def tRevA (K : PySem.W.Frag) (te : TE) : TE := fun σ H Q => te σ H fun x H1 => ∃ a xs, x = .ref a ∧ ((SqL K H1 a xs ∧ ∀ p, H1 p = none → Q (.ref p) (upd H1 p (.lst xs.reverse))) ∨ (SqT K H1 a xs ∧ ∀ p, H1 p = none → Q (.ref p) (upd H1 p (.tup xs.reverse))))
theorem pe_revA {X : Cx} {e : Expr} {te : TE} {k : Nat} {p1 p2 p3 pos : Pos} (he : PE X e te) : PE X (.Subscript e (.Slice none none (some (.UnaryOp .USub (.Constant (.int 1) k p1) p2)) p3) pos) (tRevA X.K te) := by
  refine ⟨fun pins s σ H Q I h => ?_⟩
  refine Subscript_ (thn (he.run pins s σ H _ I h) fun v s1 ⟨x, H1, I1, r1, q1⟩ => ?_)
  obtain ⟨a, xs, ex, hx⟩ := q1
  subst ex
  cases r1
  have st : PO X (some (.UnaryOp .USub (.Constant (.int 1) k p1) p2)) (tPart (tUn (rU fun i => .int (-i)) (tC (.int 1)))) := po_some (pe_un un_neg pe_int)
  refine wpAny_Slice (thn (po_none.run pins s1 σ H1 (fun o H2 => o = none ∧ H2 = H1) I1 ⟨rfl, rfl⟩) fun vl s2 ⟨l, H2, I2, pl, el, e2⟩ => ?_)
  subst el e2
  refine thn (po_none.run pins s2 σ H2 (fun o H3 => o = none ∧ H3 = H2) I2 ⟨rfl, rfl⟩) fun vu s3 ⟨u, H3, I3, pu, eu, e3⟩ => ?_
  subst eu e3
  refine thn (st.run pins s3 σ H3 (fun o H4 => o = some (-1) ∧ H4 = H3) I3 ⟨1, rfl, -1, rfl, rfl, rfl⟩) fun vs s4 ⟨o, H4, I4, ps, eo, e4⟩ => ?_
  subst eo e4
  have I5 : Inv X pins σ H4 { s4 with heap := s4.heap.push { cls := .type "slice", data := .fields #[vl, vu, vs] } } := I4.kept (t' := s4.toks) fun b ob q => Heap.get?_push_of_some _ q
  show wpAny (model X.prog X.w) X.A (subscriptTail e _ (.ref a) (.ref s4.heap.objs.size)) (EP X pins σ Q) X.xe _
  rcases hx with ⟨hx, q⟩ | ⟨hx, q⟩
  · obtain ⟨its, r, ht, hz⟩ := I5.list hx
    have hlen := r.length
    refine tail_any (ops := [.ref a, .ref s4.heap.objs.size]) ht.isList.typeIs (PySem.slot_list_getitem.lookup) ?_ (by with_unfolding_all rfl)
    refine wpAny_getItem_list_slice ht.isList (Heap.IsSliceOf.new _ vl vu vs) pl pu ps (by decide) ?_ (by rw [List.size_toArray]; omega)
    rw [PySem.W.krv_pick]
    exact ⟨.ref _, _, I5.laid (t' := s4.toks) (o := .lst xs.reverse) (fun b ob q => Heap.get?_push_of_some _ q) (Nat.le_refl _) ⟨by rw [List.length_reverse]; exact hz, _, 0, r.reverse, Heap.get?_push_size _ rfl⟩, rfl, q _ (I5.hok.fresh (Nat.le_refl _))⟩
  · obtain ⟨its, r, ht, hz⟩ := I5.tuple hx
    have hlen := r.length
    refine tail_any (ops := [.ref a, .ref s4.heap.objs.size]) ht.typeIs (PyProof.Rows.slot_tuple_getitem.lookup) ?_ (by with_unfolding_all rfl)
    refine tup_rev ht (Heap.IsSliceOf.new _ vl vu vs) pl pu ps ?_ (by rw [List.size_toArray]; omega)
    exact ⟨.ref _, _, I5.laid (t' := s4.toks) (o := .tup xs.reverse) (fun b ob q => Heap.get?_push_of_some _ q) (Nat.le_refl _) ⟨by rw [List.length_reverse]; exact hz, _, r.reverse, IsTup.new _ _⟩, rfl, q _ (I5.hok.fresh (Nat.le_refl _))⟩
end Ly
set_option Elab.async false
set_option linter.all false
set_option maxRecDepth 100000
set_option maxHeartbeats 4000000
/-! a class with the one attribute rows: its methods by their names -/
namespace Ly
open PySem PySem.Spec PyProof.Rows L2

/-- the class x of the module stands at C -/
structure Rm (K : PySem.W.Frag) (mg : Str → Option Value) (x : Str) (C : Addr) : Prop where
  mg : mg x = some (.ref C)
  cl : Cls K C
  no : NoAttr K C "rows"
  makes : PySem.W.makesIn K C = true
  kp : PySem.W.keepIn K (.ref C) = true
/-- the method m of the class x as it stands in the text -/
def Tm (K : PySem.W.Frag) (mg : Str → Option Value) (x m qual : Str) (st : Stmt) (ps : List Str) : Prop :=
  ∀ C, Rm K mg x C → ∃ (f : Addr) (fd : FuncData), Fun K m qual st f fd ∧ Meth K C m f ∧ Binds K fd ps []
theorem tm_mk {K : PySem.W.Frag} {mg : Str → Option Value} {x m qual : Str} {st : Stmt} {ps : List Str} {C f : Addr} {fd : FuncData} (R : Rm K mg x C) (F : Fun K m qual st f fd) (M : Meth K C m f) (B : Binds K fd ps []) :
    Tm K mg x m qual st ps := fun C' R' => by
  have e := R.mg.symm.trans R'.mg
  cases e
  exact ⟨f, fd, F, M, B⟩
/-- the method m of the class at C keeps its promise -/
def Dm (P : Program) (w : World) (K : PySem.W.Frag) (mg : Str → Option Value) (base : Heap) (CX : CXT) (C : Addr) (m : Str) (k : Nat) (ps : List Str) (sp : Sp) : Prop :=
  ∃ (f : Addr) (fd : FuncData), FnOk P w K mg base CX k f fd ps sp ∧ Meth K C m f ∧ Binds K fd ps []
section
variable {X : Cx} {CX : CXT} {k j : Nat} {ps : List Str} {sp : Sp} {E : XK} {x m : Str} {p apos pos : Pos} {o e : Expr} {es : List Expr} {ta : TE} {t : TA} {C : Addr}
theorem pe_methD {pl : Sem Bool} (D : Dm X.prog X.w X.K X.mg X.base CX C m k ps sp) (c : Cls X.K C) (hr : Room j X.A) (hj : k ≤ j) (hx : Passes CX X E) (he : PE X o ta) (ha : PA X (e :: es) t)
    (hst : starEach (e :: es) X.env = (false, eval e X.env) :: starEach es X.env := by rfl) (hpl : (backTo pos (starEach es X.env)).any (·.1) = false := by rfl)
    (ht : eval (.Call (.Attribute o m apos) (e :: es) [] pos) X.env = (do
      let ov ← eval o X.env
      standAt apos.atName
      let (f, first) ← holding [ov] (getMethod ov m pl)
      callWith pos f first (backTo pos (starEach (e :: es) X.env)) (backToKw pos (keywordEach [] X.env))) := by rfl) :
    PE X (.Call (.Attribute o m apos) (e :: es) [] pos) (tMeth C m sp [] E ta t) := by
  obtain ⟨f, fd, F, hm, hb⟩ := D
  exact pe_meth he c hm F (hr.mono hj) hb .nil hx ha hst hpl ht
theorem pe_newD (D : Dm X.prog X.w X.K X.mg X.base CX C "__init__" k ps sp) (R : Rm X.K X.mg x C) (hr : Room j X.A) (hj : k + 1 ≤ j) (hg : Gl X x) (hx : Passes CX X E) (ha : PA X (e :: es) t)
    (hdb : (x == ("__debug__" : Str)) = false := by decide) (he : starEach (e :: es) X.env = (false, eval e X.env) :: starEach es X.env := by rfl) (hpl : (backTo pos (starEach es X.env)).any (·.1) = false := by rfl) :
    PE X (.Call (.Name x p) (e :: es) [] pos) (tMake C sp [] E t) := by
  obtain ⟨f, fd, F, hm, hb⟩ := D
  exact pe_make ⟨R.makes, hm.at_, hm.fn, R.kp⟩ F (hr.mono hj) hg R.mg hb .nil hx ha hdb he hpl
end
end Ly
set_option Elab.async false
set_option linter.all false
set_option maxRecDepth 100000
set_option maxHeartbeats 4000000
/-! realms: their rows -/
namespace Ly
open PySem PySem.Spec PyProof.Rows L2

abbrev L4 := Int × Int × Int × Int
abbrev RwL := Option Int × L4
def oV : Option Int → V
  | none => .non
  | some n => .int n
def fdL (L : L4) (y : Int) : Int := fday L.1 L.2.1 L.2.2.1 L.2.2.2 y
def yoL (L : L4) (n : Int) : Int := yof L.1 L.2.1 L.2.2.1 L.2.2.2 n
def LdL (K : PySem.W.Frag) (H : Hp) (a : Addr) (L : L4) : Prop := Ld K H a L.1 L.2.1 L.2.2.1 L.2.2.2
def OkL (L : L4) : Prop := LandOk L.1 L.2.1 L.2.2.1 L.2.2.2
/-- whether a row is of the day n or ahead of it -/
def inR (n : Int) (r : RwL) : Bool := match r.1 with
  | none => true
  | some m => decide (m ≤ n)
def landOf (R : List RwL) (n : Int) : Int := ((R.filter (inR n)).length : Int) - 1
def hitR (R : List RwL) (y pl : Int) (i : Nat) (r : RwL) : Bool := decide (yoL r.2 (fdL r.2 y + pl) = y ∧ fdL r.2 y + pl - fdL r.2 (yoL r.2 (fdL r.2 y + pl)) = pl) && decide (landOf R (fdL r.2 y + pl) = (i : Int))
/-- the days found up to the row i -/
def dayR (R : List RwL) (y pl : Int) : Nat → List Int
  | 0 => []
  | i + 1 => match R[i]? with
    | none => dayR R y pl i
    | some r => if hitR R y pl i r = true then dayR R y pl i ++ [fdL r.2 y + pl] else dayR R y pl i
theorem dayR_len (R : List RwL) (y pl : Int) : ∀ i, (dayR R y pl i).length ≤ i
  | 0 => Nat.le_refl _
  | i + 1 => by
    have h := dayR_len R y pl i
    unfold dayR
    split
    · omega
    · split
      · rw [List.length_append, List.length_singleton]; omega
      · omega
/-- the row r stands at v -/
def RowAt (K : PySem.W.Frag) (H : Hp) (v : V) (r : RwL) : Prop := ∃ p q, v = .ref p ∧ SqT K H p [oV r.1, .ref q] ∧ LdL K H q r.2 ∧ OkL r.2
theorem RowAt.same {K : PySem.W.Frag} {H H' : Hp} {v : V} {r : RwL} (h : RowAt K H v r) (s : Same H H') : RowAt K H' v r := by
  obtain ⟨p, q, e, h1, h2, h3⟩ := h
  exact ⟨p, q, e, Same.t s h1, Same.t s h2, h3⟩
theorem RowAt.gr {K : PySem.W.Frag} {d : Addr} {H H' : Hp} {v : V} {r : RwL} (h : RowAt K H v r) (g : Gr d H H') : RowAt K H' v r := by
  obtain ⟨p, q, e, h1, h2, h3⟩ := h
  exact ⟨p, q, e, g.t h1, g.t h2, h3⟩
theorem Paired.row {α β : Type} {F : α → β → Prop} : ∀ {l : List α} {m : List β} {i : Nat} {x : α}, Paired F l m → l[i]? = some x → ∃ y, m[i]? = some y ∧ F x y
  | _, _, _, _, .nil, e => by simp at e
  | _, _, 0, _, .cons r _, e => by simp at e; subst e; exact ⟨_, rfl, r⟩
  | _, _, i + 1, _, .cons _ t, e => by
    obtain ⟨y, h1, h2⟩ := Paired.row t (by simpa using e)
    exact ⟨y, by simpa using h1, h2⟩
theorem Paired.wor {α β : Type} {F : α → β → Prop} : ∀ {l : List α} {m : List β} {i : Nat} {y : β}, Paired F l m → m[i]? = some y → ∃ x, l[i]? = some x ∧ F x y
  | _, _, _, _, .nil, e => by simp at e
  | _, _, 0, _, .cons r _, e => by simp at e; subst e; exact ⟨_, rfl, r⟩
  | _, _, i + 1, _, .cons _ t, e => by
    obtain ⟨y, h1, h2⟩ := Paired.wor t (by simpa using e)
    exact ⟨y, by simpa using h1, h2⟩
theorem Paired.snoc {α β : Type} {F : α → β → Prop} {x : α} {y : β} (r : F x y) : ∀ {l : List α} {m : List β}, Paired F l m → Paired F (l ++ [x]) (m ++ [y])
  | _, _, .nil => .cons r .nil
  | _, _, .cons q t => .cons q (Paired.snoc r t)
/-- the realm with the rows R stands at a, its list at l -/
def RlmAt (K : PySem.W.Frag) (C : Addr) (H : Hp) (a l : Addr) (R : List RwL) : Prop :=
  ∃ dx vs, H a = some (.ins C dx [("rows", .ref l)]) ∧ H l = some (.lst vs) ∧ Paired (RowAt K H) vs R ∧ 1 ≤ R.length ∧ R.length ≤ 1000
theorem RlmAt.same {K : PySem.W.Frag} {C : Addr} {H H' : Hp} {a l : Addr} {R : List RwL} (h : RlmAt K C H a l R) (s : Same H H') : RlmAt K C H' a l R := by
  obtain ⟨dx, vs, h1, h2, h3, h4⟩ := h
  exact ⟨dx, vs, s _ _ h1, s _ _ h2, Paired.mapP h3 fun _ _ r => r.same s, h4⟩
theorem RlmAt.gr {K : PySem.W.Frag} {C d : Addr} {H H' : Hp} {a l : Addr} {R : List RwL} (h : RlmAt K C H a l R) (g : Gr d H H') (n : l ≠ d) : RlmAt K C H' a l R := by
  obtain ⟨dx, vs, h1, h2, h3, h4⟩ := h
  exact ⟨dx, vs, g.keep _ _ (g.ne h1 fun _ z => nomatch z) h1, g.keep _ _ n h2, Paired.mapP h3 fun _ _ r => r.gr g, h4⟩
theorem two_eq (a b c d : Int) : decide ([a, b] = [c, d]) = decide (a = c ∧ b = d) := by
  by_cases h1 : a = c <;> by_cases h2 : b = d <;> simp [h1, h2]
theorem fld_rows {l : V} : ([("rows", l)] : List (Str × V)).lookup ("rows" : Str) = some l := by
  show (if (("rows" : Str) == "rows") = true then some l else none) = some l
  first
    | rfl
    | simp
theorem fld_none {l : V} {m : Str} (h : (m == ("rows" : Str)) = false) : ([("rows", l)] : List (Str × V)).lookup m = none := by
  simp [List.lookup, h]
/-! ### walking with enumerate -/
theorem for_enum {K : PySem.W.Frag} {a : Addr} {xs : List V} {g : TG} {tb : TS} {D : Ends} {σ : L2.St} {H : Hp} (Pv : Nat → L2.St → Hp → Prop) (h0 : Pv 0 σ H) (hl : ∀ i σ H, i ≤ xs.length → Pv i σ H → SqL K H a xs)
    (hs : ∀ (i : Nat) x T σ H, xs[i]? = some x → H T = none → Pv i σ H → g (.ref T) σ (upd H T (.tup [.int (i : Nat), x])) fun σ2 H2 => tb { D with nx := Pv (i + 1), ct := Pv (i + 1), bk := D.nx } σ2 H2) (hd : ∀ σ H, Pv xs.length σ H → D.nx σ H) :
    ∃ W : Nat → Nat → L2.St → Hp → Prop, (∃ m, W 0 m σ H) ∧ ∀ i m σ H, W i m σ H →
      ((Ite K a).stop i H ∧ D.nx σ H) ∨ ((Ite K a).go i H ∧ ∃ N : L2.St → Hp → Prop, (∀ σ' H', N σ' H' → ∃ m', m' < m ∧ W (i + 1) m' σ' H') ∧ ∀ x H', (Ite K a).yld i H x H' → g x σ H' fun σ2 H2 => tb { D with nx := N, ct := N, bk := D.nx } σ2 H2) := by
  refine ⟨fun j left σ H => left + j = xs.length ∧ Pv j σ H, ⟨xs.length, rfl, h0⟩, fun j left σ H hW => ?_⟩
  obtain ⟨e, pv⟩ := hW
  have sq := hl j σ H (by omega) pv
  rcases Nat.lt_or_ge j xs.length with lt | ge
  · refine .inr ⟨⟨xs, xs[j], sq, by simp [lt]⟩, Pv (j + 1), fun σ' H' pv' => ⟨left - 1, by omega, by omega, pv'⟩, fun x H' y => ?_⟩
    obtain ⟨T, z, e1, e2, e3, y⟩ := y
    subst e1 e3
    exact hs j z T σ H (y xs sq) e2 pv
  · have ej : j = xs.length := by omega
    subst ej
    exact .inl ⟨⟨xs, sq, Nat.le_refl _⟩, hd σ H pv⟩
/-! ### the rows counted -/
theorem lc_rows {K : PySem.W.Frag} {l D : Addr} {xs : List V} {R : List RwL} {pr : RwL → Bool} {g : Nat} {tt : TT} {vs : List Nat} {σ : L2.St} {H : Hp} {Qd : Hp → Prop} (hS : SqL K H l xs) (hR : Paired (RowAt K H) xs R) (hD : H D = none) (hl : R.length ≤ 1000)
    (hw : ∀ x, wipe ((wipe σ vs).set g (some x)) vs = wipe σ vs) (hi : ∀ x, ((wipe σ vs).set g (some x))[g]? = some (some x))
    (ht : ∀ v r H', RowAt K H' v r → ∀ Q : Bool → Hp → Prop, Q (pr r) H' → tt ((wipe σ vs).set g (some v)) H' Q)
    (hd : ∀ acc : List V, acc.length = (R.filter pr).length → Qd (upd H D (.lst acc))) :
    ∃ W : Nat → Nat → Hp → Prop, (∃ m, W 0 m (upd H D (.lst []))) ∧ ∀ i m H, W i m H →
      ((Itl K l).stop i H ∧ Qd H) ∨ ((Itl K l).go i H ∧ ∃ Nx : Hp → Prop, (∀ H', Nx H' → ∃ m', m' < m ∧ W (i + 1) m' H') ∧ ∀ x H', (Itl K l).yld i H x H' → gName g x (wipe σ vs) H' fun σ2 H2 => wipe σ2 vs = wipe σ vs ∧ tt σ2 H2 fun b H3 =>
        if b = true then tVar g σ2 H3 fun y H4 => ∃ acc, H4 D = some (.lst acc) ∧ acc.length < sizeLine ∧ Nx (upd H4 D (.lst (acc ++ [y]))) else Nx H3) := by
  have elen : xs.length = R.length := Paired.length hR
  refine lc_list (xs := xs) (fun i H' => ∃ acc : List V, H' = upd H D (.lst acc) ∧ acc.length = ((R.take i).filter pr).length) ⟨[], rfl, by simp⟩ (fun i H' _ q => by obtain ⟨acc, rfl, _⟩ := q; exact Same.l (same_new hD) hS) (fun i x H' hx q => ?_) (fun H' q => ?_)
  · obtain ⟨acc, rfl, ea⟩ := q
    obtain ⟨r, hr, rx⟩ := Paired.row hR hx
    have e : R.take (i + 1) = R.take i ++ [r] := by rw [List.take_succ, hr]; rfl
    have al : acc.length ≤ 1000 := by
      have h1 := List.length_filter_le pr (R.take i)
      rw [List.length_take] at h1
      omega
    refine ⟨hw _, ht x r _ (rx.same (same_new hD)) _ ?_⟩
    cases c : pr r with
    | true =>
      refine iteT ⟨_, hi _, acc, upd_same, sz_small (by omega), acc ++ [x], upd_upd, ?_⟩
      rw [e, List.filter_append, List.length_append, List.length_append, ea]
      simp [c]
    | false =>
      refine iteF ⟨acc, rfl, ?_⟩
      rw [e, List.filter_append, List.length_append, ea]
      simp [c]
  · obtain ⟨acc, rfl, ea⟩ := q
    refine hd acc ?_
    rw [ea, elen, List.take_length]
end Ly
set_option Elab.async false
set_option linter.all false
set_option maxRecDepth 100000
set_option maxHeartbeats 4000000
/-! sorted lists of tuples of ints, of any length; rows of years walked -/
namespace Ly
open PySem PySem.Spec PyProof.Rows L2

/-! ### the order of two tuples -/
section
variable {prog : Program} {w : World} {A : Around} {s : Shared}
theorem kat_lexL {fin : Bool} {Q : Bool → Shared → Prop} : ∀ {xs ys : List Value} {ns ms : List Int} (i : Nat), IntsAre xs ns → IntsAre ys ms → fin = decide (ns.length < ms.length) → Q (lexL ns ms) s → PySem.W.KatLex prog w A true fin Q (xs.zip ys) i s
  | xs, ys, [], ms, i, h1, h2, hf, q => by
    cases IntsAre.nil_inv h1
    rw [List.zip_nil_left]
    refine PySem.W.kat_nil ?_
    have e : lexL [] ms = fin := by
      rw [hf]
      cases ms with
      | nil => rfl
      | cons m ms => simp [lexL]
    rw [← e]
    exact q
  | xs, ys, n :: ns, [], i, h1, h2, hf, q => by
    cases IntsAre.nil_inv h2
    rw [List.zip_nil_right]
    refine PySem.W.kat_nil ?_
    have e : lexL (n :: ns) [] = fin := by rw [hf]; simp [lexL]
    rw [← e]
    exact q
  | xs, ys, n :: ns, m :: ms, i, h1, h2, hf, q => by
    obtain ⟨t, xs', rfl, k1⟩ := IntsAre.cons_inv h1
    obtain ⟨u, ys', rfl, k2⟩ := IntsAre.cons_inv h2
    rw [List.zip_cons_cons]
    have st : lexL (n :: ns) (m :: ms) = if n = m then lexL ns ms else decide (n < m) := by simp only [lexL]
    rw [st] at q
    refine PySem.W.kat_cons (SeqAt.EqAt.int_int n t m u prog w _ _ (PySem.W.kat_go (fun e => ?_) (fun e => ?_)))
    · have e : n = m := by simpa using e
      rw [if_pos e] at q
      refine PySem.W.kat_yes (kat_lexL (i + 1) k1 k2 ?_ q)
      rw [hf]
      simp
    · have e : ¬ n = m := by simpa using e
      rw [if_neg e] at q
      exact PySem.W.kat_no (TS.oneLt_ints _ q)
def TupI (h : Heap) (v : Value) (ns : List Int) : Prop := ∃ (a : Addr) (o : Obj) (xs : Array Value) (n : Nat), v = .ref a ∧ h.get? a = some o ∧ o.cls = .type "tuple" ∧ o.data = .seq xs n ∧ IntsAre xs.toList ns
theorem TupI.keeps {h h' : Heap} {v : Value} {ns : List Int} (t : TupI h v ns) (k : ∀ b o, h.get? b = some o → o.cls = .type "tuple" → h'.get? b = some o) : TupI h' v ns := by
  obtain ⟨a, o, xs, n, e, ho, hc, hd, hi⟩ := t
  exact ⟨a, o, xs, n, e, k a o ho hc, hc, hd, hi⟩
theorem swo_lexL (k : Value → List Int) : SrtO.Swo fun v u => lexL (k v) (k u) := ⟨fun x y h => lexL_asym _ _ h, fun x y z h1 h2 => lexL_tr _ _ _ h1 h2⟩
theorem tup_cmp {vs : List Value} {k : Value → List Int} (hp : ∀ v ∈ vs, TupI s.heap v (k v)) : SrtO.Cmp prog w A s (tuples' true) (fun p => p.1 ∈ vs) (SrtO.lt2 fun v u => lexL (k v) (k u)) := by
  intro p q hm hm'
  obtain ⟨a, o, xs, n, e, ho, hc, hd, hi⟩ := hp _ hm
  obtain ⟨a', o', xs', n', e', ho', hc', hd', hi'⟩ := hp _ hm'
  show wpAny (model prog w) A (keyLt' (tuples' true) p.1 q.1) (fun r s' => s' = s ∧ r = lexL (k p.1) (k q.1)) (fun _ _ => False) s
  generalize k p.1 = l at hi ⊢
  generalize k q.1 = m at hi' ⊢
  rw [e, e']
  refine PySem.W.kat_lt ho hd ho' hd' (kat_lexL 0 hi hi' ?_ ⟨rfl, rfl⟩)
  have l1 := hi.length
  have l2 := hi'.length
  rw [Array.length_toList] at l1 l2
  rw [l1, l2]
theorem tup_firsts {h : Heap} {k : Value → List Int} : ∀ {vs : List Value}, (∀ v ∈ vs, TupI h v (k v) ∧ 1 ≤ (k v).length) → ∃ fs : List Value, PySem.W.KatTups h vs fs ∧ fs.length = vs.length ∧ ∀ f ∈ fs, ∃ x t, f = Value.int x t
  | [], _ => ⟨[], .nil, rfl, fun f hf => absurd hf (by simp)⟩
  | v :: vs, hp => by
    obtain ⟨fs, h1, h2, h3⟩ := tup_firsts (vs := vs) fun u hu => hp u (List.mem_cons_of_mem _ hu)
    obtain ⟨⟨a, o, xs, n, rfl, ho, hc, hd, hi⟩, hl⟩ := hp v (List.mem_cons_self ..)
    generalize k (.ref a) = l at hi hl
    cases l with
    | nil => simp at hl
    | cons m ms =>
      obtain ⟨t, r, e, _⟩ := IntsAre.cons_inv hi
      have e0 : xs[0]? = some (.int m t) := by rw [← Array.getElem?_toList, e]; rfl
      refine ⟨.int m t :: fs, .cons ho hc hd e0 h1, by simp [h2], fun f hf => ?_⟩
      rcases List.mem_cons.mp hf with z | z
      · exact ⟨m, t, z⟩
      · exact h3 f z
theorem tups_sortable {a : Addr} {vs : List Value} {k : Value → List Int} (h0 : 0 < vs.length) (hp : ∀ v ∈ vs, TupI s.heap v (k v) ∧ 1 ≤ (k v).length) (ha : ∀ o, s.heap.get? a = some o → o.cls ≠ .type "tuple") : SrtO.SortableO prog w A s a vs fun v u => lexL (k v) (k u) := by
  intro h' keep
  have hp' : ∀ v ∈ vs, TupI h' v (k v) ∧ 1 ≤ (k v).length := fun v hm => ⟨(hp v hm).1.keeps fun b o e c => keep b o (fun z => by subst z; exact ha o e c) e, (hp v hm).2⟩
  obtain ⟨fs, h1, h2, h3⟩ := tup_firsts hp'
  refine ⟨tuples' true, fun Q E hq => ?_, tup_cmp fun v hv => (hp' v hv).1⟩
  refine PySem.W.kat_kind (T := .type "int") h1 (by omega) (fun f hm => ?_) (by rfl) ?_
  · obtain ⟨x, t, rfl⟩ := h3 f hm
    exact PySem.W.Looks.now
  · have e : (Value.type "int" != Value.type "tuple") = true := by first | decide +kernel | rfl | decide
    rw [e]
    exact hq
end
/-! ### sorted, as a rule -/
/-- the tuple of ints at v -/
def TupL (H : Hp) (v : V) (ns : List Int) : Prop := ∃ p, v = .ref p ∧ H p = some (.tup (ns.map V.int))
theorem TupL.same {H H' : Hp} {v : V} {ns : List Int} (t : TupL H v ns) (s : Same H H') : TupL H' v ns := by
  obtain ⟨p, e, h⟩ := t
  exact ⟨p, e, s _ _ h⟩
theorem TupL.gr {d : Addr} {H H' : Hp} {v : V} {ns : List Int} (t : TupL H v ns) (g : Gr d H H') : TupL H' v ns := by
  obtain ⟨p, e, h⟩ := t
  exact ⟨p, e, g.keep _ _ (g.ne h fun _ z => nomatch z) h⟩
def vInt : V → Int
  | .int i => i
  | _ => 0
/-- the ints of the tuple that stands at v -/
def kOf (H : Hp) : V → List Int
  | .ref p => match H p with
    | some (.tup xs) => xs.map vInt
    | _ => []
  | _ => []
theorem TupL.k {H : Hp} {v : V} {ns : List Int} (t : TupL H v ns) : kOf H v = ns := by
  obtain ⟨p, rfl, h⟩ := t
  show (match H p with | some (.tup xs) => xs.map vInt | _ => []) = ns
  rw [h]
  show (ns.map V.int).map vInt = ns
  rw [List.map_map]
  exact List.map_id'' (fun _ => rfl) ns
theorem paired_k {H : Hp} : ∀ {xs : List V} {Ls : List (List Int)}, Paired (TupL H) xs Ls → xs.map (kOf H) = Ls ∧ ∀ x ∈ xs, TupL H x (kOf H x)
  | _, _, .nil => ⟨rfl, fun x hx => absurd hx (by simp)⟩
  | _, _, .cons r t => by
    obtain ⟨e, h⟩ := paired_k t
    refine ⟨by rw [List.map_cons, r.k, e], fun x hx => ?_⟩
    rcases List.mem_cons.mp hx with z | z
    · rw [z, r.k]; exact r
    · exact h x z
theorem paired_of {H : Hp} : ∀ {xs : List V}, (∀ x ∈ xs, TupL H x (kOf H x)) → Paired (TupL H) xs (xs.map (kOf H))
  | [], _ => .nil
  | x :: xs, h => .cons (h x (List.mem_cons_self ..)) (paired_of fun y hy => h y (List.mem_cons_of_mem _ hy))
/-- sorted(xs), a list of tuples of ints -/
def rSortT (K : PySem.W.Frag) : List V → Hp → VK → Prop := fun vs H Q => ∃ (a : Addr) (xs : List V) (Ls : List (List Int)), vs = [V.ref a] ∧ SqL K H a xs ∧ Paired (TupL H) xs Ls ∧ (∀ L ∈ Ls, 1 ≤ L.length) ∧
  ∀ ys Ms p, Paired (TupL H) ys Ms → Ms.Perm Ls → Ms.Pairwise (fun a b => lexL b a = false) → ys.length = xs.length → H p = none → Q (.ref p) (upd H p (.lst ys))
theorem cr_sortT4 {X : Cx} : CallR X (.builtin "sorted") (rSortT X.K) := by
  intro pins s σ H vs us Q I r h
  obtain ⟨a, xs, Ls, rfl, hs, hx, hl1, q⟩ := h
  obtain ⟨its, rv, hl, hz⟩ := I.list hs
  obtain ⟨u, rfl, ru⟩ := vals1 r
  obtain rfl : u = Value.ref a := ru
  obtain ⟨ek, hk⟩ := paired_k hx
  obtain ⟨e1, e2⟩ := refs_back rv fun x m => by
    obtain ⟨t, e, _⟩ := hk x m
    exact ⟨t, e⟩
  have O := swo_lexL fun u => kOf H (backV u)
  have hz' : its.length ≤ sizeLine := by rw [← rv.length]; exact hz
  have hp : ∀ v ∈ its, TupI s.heap v (kOf H (backV v)) ∧ 1 ≤ (kOf H (backV v)).length := fun v hv => by
    obtain ⟨t, rfl⟩ := e2 v hv
    have hm : V.ref t ∈ xs := by rw [e1]; exact List.mem_map.mpr ⟨_, hv, rfl⟩
    show TupI s.heap (.ref t) (kOf H (.ref t)) ∧ 1 ≤ (kOf H (.ref t)).length
    have hml : kOf H (.ref t) ∈ Ls := by rw [← ek]; exact List.mem_map.mpr ⟨_, hm, rfl⟩
    have tk := hk _ hm
    generalize kOf H (.ref t) = ns at tk hml ⊢
    obtain ⟨t', e, ht⟩ := tk
    cases e
    obtain ⟨_, its2, r2, o, ho, hc, n, hd⟩ := I.hok _ _ ht
    exact ⟨⟨t, o, its2.toArray, n, rfl, ho, hc, hd, by simpa using Vals.ints r2⟩, hl1 _ hml⟩
  refine SrtO.sorted_ord O hl.isList hz' (fun h2 h₁ b hb kk => ?_) fun out h1 h2 => ?_
  · refine tups_sortable (s := { s with heap := h₁ }) (by omega) (fun v hm => ⟨(hp v hm).1.keeps fun b o e _ => (kk b o e).2, (hp v hm).2⟩) fun o e => ?_
    have e' : some o = some (seqObj "list" its.toArray 0) := e.symm.trans hb
    cases e'
    intro c
    exact absurd (Value.type.inj c) (by decide)
  · have h3 : ∀ u ∈ out, ∃ a, u = Value.ref a := fun u hu => e2 u (h2.perm.mem_iff.mp hu)
    obtain ⟨n, hn⟩ := sortedAll_at s.heap its out.toArray
    have pm : (out.map backV).Perm xs := by
      rw [e1]
      exact h2.perm.map backV
    have hm : ∀ x ∈ out.map backV, TupL H x (kOf H x) := fun x hx => hk x (pm.mem_iff.mp hx)
    have kp : ∀ b o, s.heap.get? b = some o → (sortedAll s.heap its out.toArray).get? b = some o := fun b o e => sortedAll_old e
    refine ⟨.ref (s.heap.objs.size + 1), upd H (s.heap.objs.size + 1) (.lst (out.map backV)), I.laid (t' := s.toks) kp (Nat.le_succ _) ⟨?_, out, n, vals_back h3, hn⟩, rfl,
      q _ _ _ (paired_of hm) ?_ ?_ pm.length_eq (I.hok.fresh (Nat.le_succ _))⟩
    · rw [pm.length_eq]
      exact hz
    · rw [← ek]
      exact pm.map _
    · rw [List.pairwise_map, List.pairwise_map]
      exact h1
/-! ### rows of years -/
/-- the row of a year at v -/
def RowI (K : PySem.W.Frag) (H : Hp) (v : V) (r : Int × Int) : Prop := ∃ p, v = .ref p ∧ SqT K H p [.int r.1, .int r.2]
theorem RowI.same {K : PySem.W.Frag} {H H' : Hp} {v : V} {r : Int × Int} (h : RowI K H v r) (s : Same H H') : RowI K H' v r := by
  obtain ⟨p, e, h⟩ := h
  exact ⟨p, e, Same.t s h⟩
theorem RowI.gr {K : PySem.W.Frag} {d : Addr} {H H' : Hp} {v : V} {r : Int × Int} (h : RowI K H v r) (g : Gr d H H') : RowI K H' v r := by
  obtain ⟨p, e, h⟩ := h
  exact ⟨p, e, g.t h⟩
/-- [f(year, day) for year, day in seen] -/
theorem lc_rowI {K : PySem.W.Frag} {a D : Addr} {xs : List V} {R : Rw} {f : Int × Int → Int} {i1 i2 : Nat} {te : TE} {vs : List Nat} {σ : L2.St} {H : Hp} {Qd : Hp → Prop} (hS : SqT K H a xs) (hR : Paired (RowI K H) xs R) (hD : H D = none) (hl : R.length < 100000)
    (hw : ∀ x y, wipe (((wipe σ vs).set i1 (some x)).set i2 (some y)) vs = wipe σ vs)
    (he : ∀ r H', Same H H' → ∀ Q : VK, Q (.int (f r)) H' → te (((wipe σ vs).set i1 (some (.int r.1))).set i2 (some (.int r.2))) H' Q)
    (hd : Qd (upd H D (.lst ((R.map f).map V.int)))) :
    ∃ W : Nat → Nat → Hp → Prop, (∃ m, W 0 m (upd H D (.lst []))) ∧ ∀ i m H, W i m H →
      ((Itt K a).stop i H ∧ Qd H) ∨ ((Itt K a).go i H ∧ ∃ Nx : Hp → Prop, (∀ H', Nx H' → ∃ m', m' < m ∧ W (i + 1) m' H') ∧ ∀ x H', (Itt K a).yld i H x H' → gTup K 2 (gCons (gName i1) (gCons (gName i2) gNil)) x (wipe σ vs) H' fun σ2 H2 => wipe σ2 vs = wipe σ vs ∧ tYes σ2 H2 fun b H3 =>
        if b = true then te σ2 H3 fun y H4 => ∃ acc, H4 D = some (.lst acc) ∧ acc.length < sizeLine ∧ Nx (upd H4 D (.lst (acc ++ [y]))) else Nx H3) := by
  have elen : xs.length = R.length := Paired.length hR
  refine lc_tup (xs := xs) (fun i H' => H' = upd H D (.lst (((R.map f).take i).map V.int))) rfl (fun i H' _ p => by subst p; exact Same.t (same_new hD) hS) (fun i x H' hx p => ?_) (fun H' p => ?_)
  · subst p
    obtain ⟨r, hr, q, rfl, rx⟩ := Paired.row hR hx
    refine ⟨q, _, rfl, Same.t (same_new hD) rx, rfl, _, _, rfl, _, _, rfl, rfl, hw _ _, ?_⟩
    show te _ _ _
    refine he r _ (same_new hD) _ ?_
    exact acc_put (take_len (by rw [List.length_map]; exact hl)) (take_put (x := f r) (by rw [List.getElem?_map, hr]; rfl))
  · subst p
    rw [elen, List.take_of_length_le (by rw [List.length_map]; exact Nat.le_refl _)]
    exact hd
end Ly
namespace Ly
open PySem PySem.Spec PyProof.Rows L2
theorem paired_get {α β : Type} {F : α → β → Prop} : ∀ {l : List α} {m : List β}, l.length = m.length → (∀ (i : Nat) x y, l[i]? = some x → m[i]? = some y → F x y) → Paired F l m
  | [], [], _, _ => .nil
  | [], _ :: _, h, _ => by simp at h
  | _ :: _, [], h, _ => by simp at h
  | x :: l, y :: m, h, k => .cons (k 0 x y rfl rfl) (paired_get (by simpa using h) fun i a b h1 h2 => k (i + 1) a b (by simpa using h1) (by simpa using h2))
/-! ### comprehensions over zip of two tuples -/
section
variable {K : PySem.W.Frag} {a b : Addr} {xs ys : List V} {g : TG} {tt : TT} {te : TE} {vs : List Nat} {σ : L2.St} {H1 : Hp} {D : Addr} {Qd : Hp → Prop}
theorem lc_zipT (Pv : Nat → Hp → Prop) (h0 : Pv 0 (upd H1 D (.lst []))) (hl : ∀ i H, Pv i H → SqT K H a xs ∧ SqT K H b ys)
    (hs : ∀ (i : Nat) x y T H, xs[i]? = some x → ys[i]? = some y → H T = none → Pv i H → g (.ref T) (wipe σ vs) (upd H T (.tup [x, y])) fun σ2 H2 => wipe σ2 vs = wipe σ vs ∧ tt σ2 H2 fun b H3 =>
      if b = true then te σ2 H3 fun y H4 => ∃ acc, H4 D = some (.lst acc) ∧ acc.length < sizeLine ∧ Pv (i + 1) (upd H4 D (.lst (acc ++ [y]))) else Pv (i + 1) H3) (hd : ∀ H, Pv (min xs.length ys.length) H → Qd H) :
    ∃ W : Nat → Nat → Hp → Prop, (∃ m, W 0 m (upd H1 D (.lst []))) ∧ ∀ i m H, W i m H →
      ((RZ.ItzT K a b).stop i H ∧ Qd H) ∨ ((RZ.ItzT K a b).go i H ∧ ∃ Nx : Hp → Prop, (∀ H', Nx H' → ∃ m', m' < m ∧ W (i + 1) m' H') ∧ ∀ x H', (RZ.ItzT K a b).yld i H x H' → g x (wipe σ vs) H' fun σ2 H2 => wipe σ2 vs = wipe σ vs ∧ tt σ2 H2 fun b H3 =>
        if b = true then te σ2 H3 fun y H4 => ∃ acc, H4 D = some (.lst acc) ∧ acc.length < sizeLine ∧ Nx (upd H4 D (.lst (acc ++ [y]))) else Nx H3) := by
  refine ⟨fun i m H => m = min xs.length ys.length - i ∧ i ≤ min xs.length ys.length ∧ Pv i H, ⟨min xs.length ys.length, by simp, Nat.zero_le _, h0⟩, ?_⟩
  rintro i m H ⟨rfl, hi, p⟩
  obtain ⟨q1, q2⟩ := hl i H p
  by_cases hlt : i < min xs.length ys.length
  · have l1 : i < xs.length := by omega
    have l2 : i < ys.length := by omega
    refine .inr ⟨⟨xs, ys, xs[i], ys[i], q1, q2, List.getElem?_eq_getElem l1, List.getElem?_eq_getElem l2⟩, Pv (i + 1), fun H' p' => ⟨min xs.length ys.length - (i + 1), by omega, rfl, hlt, p'⟩, fun x H' z => ?_⟩
    obtain ⟨T, u, v, e1, e2, e3, f1, f2⟩ := z
    subst e1 e3
    exact hs i u v T _ (f1 xs q1) (f2 ys q2) e2 p
  · have e : i = min xs.length ys.length := by omega
    subst e
    exact .inl ⟨⟨xs, ys, q1, q2, by omega⟩, hd H p⟩
end
end Ly
namespace Ly
open PySem PySem.Spec PyProof.Rows L2
theorem paired_app {α β : Type} {F : α → β → Prop} : ∀ {l l' : List α} {m m' : List β}, Paired F l m → Paired F l' m' → Paired F (l ++ l') (m ++ m')
  | _, _, _, _, .nil, h => h
  | _, _, _, _, .cons r t, h => .cons r (paired_app t h)
end Ly
set_option Elab.async false
set_option linter.all false
set_option maxRecDepth 100000
set_option maxHeartbeats 4000000
/-! lists of tuples of ints compared -/
namespace Ly
open PySem PySem.Spec PyProof.Rows L2
def tupD (L : List Int) : PyData := .tuple (L.map PyData.int)
theorem dp_tups {K : PySem.W.Frag} {H : Hp} : ∀ {vs : List V} {Ls : List (List Int)}, Paired (TupL H) vs Ls → DpAll K H vs (Ls.map tupD)
  | _, _, .nil => .nil
  | _, _, .cons r t => by
    obtain ⟨p, rfl, h⟩ := r
    exact .cons (.tup (SqT.of h) (dp_ints _)) (dp_tups t)
theorem eqv_tups : ∀ Ls Ms : List (List Int), PyData.eqvAll (Ls.map tupD) (Ms.map tupD) = decide (Ls = Ms)
  | [], [] => by simp [PyData.eqvAll]
  | [], _ :: _ => by simp [PyData.eqvAll]
  | _ :: _, [] => by simp [PyData.eqvAll]
  | a :: r, b :: t => by
    simp only [List.map_cons, PyData.eqvAll, eqv_tups r t]
    have e : PyData.eqv (tupD a) (tupD b) = decide (a = b) := by
      unfold tupD
      rw [← eqv_ints]
      simp only [PyData.eqv]
    rw [e]
    by_cases h : a = b <;> by_cases h' : r = t <;> simp [h, h']
theorem lay_tups : ∀ Ls : List (List Int), PyData.canLayAll0 (Ls.map tupD) = true
  | [] => by simp [PyData.canLayAll0]
  | L :: Ls => by simp [PyData.canLayAll0, tupD, PyData.canLay0, PySem.W.ke_canLayAll0, lay_tups Ls]
theorem dep_tups : ∀ Ls : List (List Int), PyData.depthAll (Ls.map tupD) ≤ 1
  | [] => by simp [PyData.depthAll]
  | L :: Ls => by
    have := dep_tups Ls
    simp only [List.map_cons, PyData.depthAll, tupD, PyData.depth, PySem.W.ke_depthAll]
    omega
theorem sh_tups (Ls : List (List Int)) : SeqAt.shaped (.list (Ls.map tupD)) = true := by
  have := dep_tups Ls
  simp only [SeqAt.shaped, PyData.canLay0, PyData.depth, lay_tups, Bool.true_and]
  exact decide_eq_true (by omega)
section
variable {K : PySem.W.Frag} {H : Hp} {a b : Addr} {xs ys : List V} {Ls Ms : List (List Int)} {Q : VK}
theorem ne_tups (h1 : SqL K H a xs) (k1 : Paired (TupL H) xs Ls) (h2 : SqL K H b ys) (k2 : Paired (TupL H) ys Ms) (q : Q (.bl (!decide (Ls = Ms))) H) : rNeD K (.ref a) (.ref b) H Q :=
  ⟨_, _, .lst h1 (dp_tups k1), .lst h2 (dp_tups k2), sh_tups _, sh_tups _, by
    rw [show PyData.eqv (.list (Ls.map tupD)) (.list (Ms.map tupD)) = decide (Ls = Ms) by rw [← eqv_tups]; simp only [PyData.eqv]]
    exact q⟩
theorem eq_tups (h1 : SqL K H a xs) (k1 : Paired (TupL H) xs Ls) (h2 : SqL K H b ys) (k2 : Paired (TupL H) ys Ms) (q : Q (.bl (decide (Ls = Ms))) H) : rEqD K (.ref a) (.ref b) H Q :=
  ⟨_, _, .lst h1 (dp_tups k1), .lst h2 (dp_tups k2), sh_tups _, sh_tups _, by
    rw [show PyData.eqv (.list (Ls.map tupD)) (.list (Ms.map tupD)) = decide (Ls = Ms) by rw [← eqv_tups]; simp only [PyData.eqv]]
    exact q⟩
end
theorem perm_srt : ∀ {l m : List Int}, l.Perm m → l.Pairwise (· ≤ ·) → m.Pairwise (· ≤ ·) → l = m
  | [], m, h, _, _ => (List.Perm.nil_eq h)
  | x :: l, [], h, _, _ => absurd h.length_eq (by simp)
  | x :: l, y :: m, h, h1, h2 => by
    have a := List.pairwise_cons.mp h1
    have b := List.pairwise_cons.mp h2
    have e : x = y := by
      rcases List.mem_cons.mp (h.mem_iff.mp (List.mem_cons_self (a := x) (l := l))) with e | e
      · exact e
      · rcases List.mem_cons.mp (h.mem_iff.mpr (List.mem_cons_self (a := y) (l := m))) with e' | e'
        · exact e'.symm
        · have := a.1 y e'
          have := b.1 x e
          omega
    subst e
    rw [perm_srt h.cons_inv a.2 b.2]
/-- [f(x) for x in a tuple of ints] -/
theorem lc_mapT {K : PySem.W.Frag} {a : Addr} {ns : List Int} {f : Int → Int} {g : Nat} {te : TE} {vs : List Nat} {σ : L2.St} {H : Hp} {D : Addr} {Qd : Hp → Prop} (hS : SqT K H a (ns.map V.int)) (hD : H D = none) (hl : ns.length < 100000)
    (hw : ∀ x, wipe ((wipe σ vs).set g (some x)) vs = wipe σ vs)
    (he : ∀ (i : Nat) n H', ns[i]? = some n → Same H H' → ∀ Q : VK, Q (.int (f n)) H' → te ((wipe σ vs).set g (some (.int n))) H' Q)
    (hd : Qd (upd H D (.lst ((ns.map f).map V.int)))) :
    ∃ W : Nat → Nat → Hp → Prop, (∃ m, W 0 m (upd H D (.lst []))) ∧ ∀ i m H, W i m H →
      ((Itt K a).stop i H ∧ Qd H) ∨ ((Itt K a).go i H ∧ ∃ Nx : Hp → Prop, (∀ H', Nx H' → ∃ m', m' < m ∧ W (i + 1) m' H') ∧ ∀ x H', (Itt K a).yld i H x H' → gName g x (wipe σ vs) H' fun σ2 H2 => wipe σ2 vs = wipe σ vs ∧ tYes σ2 H2 fun b H3 =>
        if b = true then te σ2 H3 fun y H4 => ∃ acc, H4 D = some (.lst acc) ∧ acc.length < sizeLine ∧ Nx (upd H4 D (.lst (acc ++ [y]))) else Nx H3) := by
  refine lc_tup (xs := ns.map V.int) (fun i H' => H' = upd H D (.lst (((ns.map f).take i).map V.int))) rfl (fun i H' _ p => by subst p; exact Same.t (same_new hD) hS) (fun i x H' hx p => ?_) (fun H' p => ?_)
  · subst p
    rw [List.getElem?_map] at hx
    cases q : ns[i]? with
    | none => rw [q] at hx; cases hx
    | some n =>
      rw [q] at hx
      cases hx
      refine ⟨hw _, ?_⟩
      show te _ _ _
      refine he i n _ q (same_new hD) _ ?_
      exact acc_put (take_len (by rw [List.length_map]; exact hl)) (take_put (x := f n) (by rw [List.getElem?_map, q]; rfl))
  · subst p
    rw [List.length_map, List.take_of_length_le (by rw [List.length_map]; exact Nat.le_refl _)]
    exact hd
end Ly
set_option Elab.async false
set_option linter.all false
set_option maxRecDepth 100000
set_option maxHeartbeats 4000000
namespace K13
open PySem PySem.Spec PyProof.Rows L2 Ly
def topS (i : Nat) : Stmt := PySem.Challenge.pw_longyears_k13_whole_lands_by_words.main.body.getD i (.Pass ⟨0, 0, 0, 0⟩)
abbrev s_is_from : Stmt := topS 16
theorem sc_is_from : FnScope ["thing", "low", "high"] ["thing", "low", "high"] (defScope s_is_from) := ⟨rfl, rfl, rfl, by decide +kernel, rfl, by decide +kernel, by decide +kernel⟩
abbrev s_is_land : Stmt := topS 17
theorem sc_is_land : FnScope ["thing"] ["thing"] (defScope s_is_land) := ⟨rfl, rfl, rfl, by decide +kernel, rfl, by decide +kernel, by decide +kernel⟩
abbrev s_need_land : Stmt := topS 18
theorem sc_need_land : FnScope ["land"] ["land"] (defScope s_need_land) := ⟨rfl, rfl, rfl, by decide +kernel, rfl, by decide +kernel, by decide +kernel⟩
abbrev s_need_year : Stmt := topS 19
theorem sc_need_year : FnScope ["year"] ["year"] (defScope s_need_year) := ⟨rfl, rfl, rfl, by decide +kernel, rfl, by decide +kernel, by decide +kernel⟩
abbrev s_need_day : Stmt := topS 20
theorem sc_need_day : FnScope ["day"] ["day"] (defScope s_need_day) := ⟨rfl, rfl, rfl, by decide +kernel, rfl, by decide +kernel, by decide +kernel⟩
abbrev s_step_of : Stmt := topS 21
theorem sc_step_of : FnScope ["land"] ["land"] (defScope s_step_of) := ⟨rfl, rfl, rfl, by decide +kernel, rfl, by decide +kernel, by decide +kernel⟩
abbrev s_first_day : Stmt := topS 22
theorem sc_first_day : FnScope ["land", "year"] ["land", "year"] (defScope s_first_day) := ⟨rfl, rfl, rfl, by decide +kernel, rfl, by decide +kernel, by decide +kernel⟩
abbrev s_year_of : Stmt := topS 23
theorem sc_year_of : FnScope ["land", "day"] ["land", "day"] (defScope s_year_of) := ⟨rfl, rfl, rfl, by decide +kernel, rfl, by decide +kernel, by decide +kernel⟩
abbrev s_dated : Stmt := topS 24
theorem sc_dated : FnScope ["land", "day", "year"] ["land", "day"] (defScope s_dated) := ⟨rfl, rfl, rfl, by decide +kernel, rfl, by decide +kernel, by decide +kernel⟩
abbrev s_begin : Stmt := topS 25
theorem sc_begin : FnScope ["land", "year"] ["land", "year"] (defScope s_begin) := ⟨rfl, rfl, rfl, by decide +kernel, rfl, by decide +kernel, by decide +kernel⟩
abbrev s_date : Stmt := topS 26
theorem sc_date : FnScope ["land", "day"] ["land", "day"] (defScope s_date) := ⟨rfl, rfl, rfl, by decide +kernel, rfl, by decide +kernel, by decide +kernel⟩
abbrev s_is_long : Stmt := topS 27
theorem sc_is_long : FnScope ["land", "year"] ["land", "year"] (defScope s_is_long) := ⟨rfl, rfl, rfl, by decide +kernel, rfl, by decide +kernel, by decide +kernel⟩
abbrev s_longs_to : Stmt := topS 28
theorem sc_longs_to : FnScope ["land", "year"] ["land", "year"] (defScope s_longs_to) := ⟨rfl, rfl, rfl, by decide +kernel, rfl, by decide +kernel, by decide +kernel⟩
abbrev s_next_long : Stmt := topS 29
theorem sc_next_long : FnScope ["land", "year", "wanted"] ["land", "year"] (defScope s_next_long) := ⟨rfl, rfl, rfl, by decide +kernel, rfl, by decide +kernel, by decide +kernel⟩
abbrev s_need_name : Stmt := topS 32
theorem sc_need_name : FnScope ["land", "place", "week", "name"] ["land", "place", "week", "name"] (defScope s_need_name) := ⟨rfl, rfl, rfl, by decide +kernel, rfl, by decide +kernel, by decide +kernel⟩
abbrev s_measure : Stmt := topS 33
theorem sc_measure : FnScope ["one", "other"] ["one", "other"] (defScope s_measure) := ⟨rfl, rfl, rfl, by decide +kernel, rfl, by decide +kernel, by decide +kernel⟩
abbrev s_back_of : Stmt := topS 34
theorem sc_back_of : FnScope ["number", "turn", "one", "other", "first", "second", "part"] ["number", "turn"] (defScope s_back_of) := ⟨rfl, rfl, rfl, by decide +kernel, rfl, by decide +kernel, by decide +kernel⟩
abbrev s_years_so : Stmt := topS 35
theorem sc_years_so : FnScope ["land", "place", "week", "name", "wheel", "step", "common", "turn", "back", "found", "rest", "away"] ["land", "place", "week", "name"] (defScope s_years_so) := ⟨rfl, rfl, rfl, by decide +kernel, rfl, by decide +kernel, by decide +kernel⟩
abbrev s_first_from : Stmt := topS 36
theorem sc_first_from : FnScope ["rests", "turn", "number", "some", "rest"] ["rests", "turn", "number"] (defScope s_first_from) := ⟨rfl, rfl, rfl, by decide +kernel, rfl, by decide +kernel, by decide +kernel⟩
abbrev s_counted : Stmt := topS 37
theorem sc_counted : FnScope ["rests", "turn", "first", "last", "rest"] ["rests", "turn", "first", "last"] (defScope s_counted) := ⟨rfl, rfl, rfl, by decide +kernel, rfl, by decide +kernel, by decide +kernel⟩
abbrev s_next_year : Stmt := topS 38
theorem sc_next_year : FnScope ["land", "place", "week", "name", "year", "rests", "turn"] ["land", "place", "week", "name", "year"] (defScope s_next_year) := ⟨rfl, rfl, rfl, by decide +kernel, rfl, by decide +kernel, by decide +kernel⟩
abbrev s_how_many : Stmt := topS 39
theorem sc_how_many : FnScope ["land", "place", "week", "name", "first", "last", "rests", "turn"] ["land", "place", "week", "name", "first", "last"] (defScope s_how_many) := ⟨rfl, rfl, rfl, by decide +kernel, rfl, by decide +kernel, by decide +kernel⟩
abbrev s_lengths : Stmt := topS 40
theorem sc_lengths : FnScope ["land", "place", "week", "name", "rests", "turn", "round_so", "rest", "one", "other"] ["land", "place", "week", "name"] (defScope s_lengths) := ⟨rfl, rfl, rfl, by decide +kernel, rfl, by decide +kernel, by decide +kernel⟩
abbrev s_barring : Stmt := topS 41
theorem sc_barring : FnScope ["land", "place", "week", "name"] ["land", "place", "week", "name"] (defScope s_barring) := ⟨rfl, rfl, rfl, by decide +kernel, rfl, by decide +kernel, by decide +kernel⟩
abbrev s_bars : Stmt := topS 42
theorem sc_bars : FnScope ["land", "place", "week", "name", "thing", "common", "rest", "one"] ["land", "place", "week", "name", "thing"] (defScope s_bars) := ⟨rfl, rfl, rfl, by decide +kernel, rfl, by decide +kernel, by decide +kernel⟩
abbrev s_need_placed : Stmt := topS 44
theorem sc_need_placed : FnScope ["one", "place_one", "other", "place_other"] ["one", "place_one", "other", "place_other"] (defScope s_need_placed) := ⟨rfl, rfl, rfl, by decide +kernel, rfl, by decide +kernel, by decide +kernel⟩
abbrev s_days_so : Stmt := topS 45
theorem sc_days_so : FnScope ["land", "place", "year"] ["land", "place"] (defScope s_days_so) := ⟨rfl, rfl, rfl, by decide +kernel, rfl, by decide +kernel, by decide +kernel⟩
abbrev s_common_days : Stmt := topS 46
theorem sc_common_days : FnScope ["one", "place_one", "other", "place_other", "step", "second", "common", "by_rest", "day", "turn", "back", "found", "there"] ["one", "place_one", "other", "place_other"] (defScope s_common_days) := ⟨rfl, rfl, rfl, by decide +kernel, rfl, by decide +kernel, by decide +kernel⟩
abbrev s_next_day : Stmt := topS 47
theorem sc_next_day : FnScope ["one", "place_one", "other", "place_other", "day", "rests", "turn"] ["one", "place_one", "other", "place_other", "day"] (defScope s_next_day) := ⟨rfl, rfl, rfl, by decide +kernel, rfl, by decide +kernel, by decide +kernel⟩
abbrev s_days : Stmt := topS 48
theorem sc_days : FnScope ["one", "place_one", "other", "place_other", "first", "last", "rests", "turn"] ["one", "place_one", "other", "place_other", "first", "last"] (defScope s_days) := ⟨rfl, rfl, rfl, by decide +kernel, rfl, by decide +kernel, by decide +kernel⟩
abbrev s_are_parted : Stmt := topS 49
theorem sc_are_parted : FnScope ["one", "place_one", "other", "place_other", "number", "left", "day"] ["one", "place_one", "other", "place_other", "number"] (defScope s_are_parted) := ⟨rfl, rfl, rfl, by decide +kernel, rfl, by decide +kernel, by decide +kernel⟩
abbrev s_parting : Stmt := topS 50
theorem sc_parting : FnScope ["one", "place_one", "other", "place_other", "common"] ["one", "place_one", "other", "place_other"] (defScope s_parting) := ⟨rfl, rfl, rfl, by decide +kernel, rfl, by decide +kernel, by decide +kernel⟩
abbrev s_least_form : Stmt := topS 53
theorem sc_least_form : FnScope ["land", "common"] ["land"] (defScope s_least_form) := ⟨rfl, rfl, rfl, by decide +kernel, rfl, by decide +kernel, by decide +kernel⟩
abbrev s_first_parting : Stmt := topS 54
theorem sc_first_parting : FnScope ["one", "other", "year"] ["one", "other"] (defScope s_first_parting) := ⟨rfl, rfl, rfl, by decide +kernel, rfl, by decide +kernel, by decide +kernel⟩
abbrev s_are_seen : Stmt := topS 55
theorem sc_are_seen : FnScope ["thing", "row", "one", "other"] ["thing"] (defScope s_are_seen) := ⟨rfl, rfl, rfl, by decide +kernel, rfl, by decide +kernel, by decide +kernel⟩
abbrev s_lands_by : Stmt := topS 56
theorem sc_lands_by : FnScope ["seen", "days", "top", "bottom", "step", "low", "high", "shift", "year", "day"] ["seen", "days", "top", "bottom"] (defScope s_lands_by) := ⟨rfl, rfl, rfl, by decide +kernel, rfl, by decide +kernel, by decide +kernel⟩
abbrev s_lands_of : Stmt := topS 57
theorem sc_lands_of : FnScope ["seen", "most", "year", "day", "later", "then", "near", "found", "days", "bottom", "top"] ["seen", "most"] (defScope s_lands_of) := ⟨rfl, rfl, rfl, by decide +kernel, rfl, by decide +kernel, by decide +kernel⟩
abbrev s_Realm_init : Stmt := inClass (topS 59) 0
theorem sc_Realm_init : FnScope ["self", "land"] ["self", "land"] (defScope s_Realm_init) := ⟨rfl, rfl, rfl, by decide +kernel, rfl, by decide +kernel, by decide +kernel⟩
abbrev s_Realm_change : Stmt := inClass (topS 59) 3
theorem sc_Realm_change : FnScope ["self", "day", "land", "last"] ["self", "day", "land"] (defScope s_Realm_change) := ⟨rfl, rfl, rfl, by decide +kernel, rfl, by decide +kernel, by decide +kernel⟩
abbrev s_Realm_land_of : Stmt := inClass (topS 59) 5
theorem sc_Realm_land_of : FnScope ["self", "day", "row"] ["self", "day"] (defScope s_Realm_land_of) := ⟨rfl, rfl, rfl, by decide +kernel, rfl, by decide +kernel, by decide +kernel⟩
abbrev s_Realm_date : Stmt := inClass (topS 59) 6
theorem sc_Realm_date : FnScope ["self", "day"] ["self", "day"] (defScope s_Realm_date) := ⟨rfl, rfl, rfl, by decide +kernel, rfl, by decide +kernel, by decide +kernel⟩
abbrev s_Realm_days_of : Stmt := inClass (topS 59) 7
theorem sc_Realm_days_of : FnScope ["self", "year", "place", "found", "at", "begin", "land", "day"] ["self", "year", "place"] (defScope s_Realm_days_of) := ⟨rfl, rfl, rfl, by decide +kernel, rfl, by decide +kernel, by decide +kernel⟩
abbrev s_law_deck : Stmt := topS 61
theorem sc_law_deck : FnScope ["cell", "turn"] ["cell", "turn"] (defScope s_law_deck) := ⟨rfl, rfl, rfl, by decide +kernel, rfl, by decide +kernel, by decide +kernel⟩
abbrev s_law_pick : Stmt := topS 62
theorem sc_law_pick : FnScope ["deck", "size", "found", "number"] ["deck", "size"] (defScope s_law_pick) := ⟨rfl, rfl, rfl, by decide +kernel, rfl, by decide +kernel, by decide +kernel⟩
abbrev s_law_suns_right : Stmt := topS 63
theorem sc_law_suns_right : FnScope ["sun", "moon", "even", "seven", "twice", "year"] ["sun", "moon"] (defScope s_law_suns_right) := ⟨rfl, rfl, rfl, by decide +kernel, rfl, by decide +kernel, by decide +kernel⟩
abbrev s_law : Stmt := topS 64
theorem sc_law : FnScope ["script", "sun", "moon", "cell", "deck", "days_so_", "plain", "realm", "year", "day"] ["script"] (defScope s_law) := ⟨rfl, rfl, rfl, by decide +kernel, rfl, by decide +kernel, by decide +kernel⟩
structure All (K : PySem.W.Frag) (mg : Str → Option Value) : Prop where
  t_is_from : Tx K mg "is_from" s_is_from ["thing", "low", "high"]
  t_is_land : Tx K mg "is_land" s_is_land ["thing"]
  t_need_land : Tx K mg "need_land" s_need_land ["land"]
  t_need_year : Tx K mg "need_year" s_need_year ["year"]
  t_need_day : Tx K mg "need_day" s_need_day ["day"]
  t_step_of : Tx K mg "step_of" s_step_of ["land"]
  t_first_day : Tx K mg "first_day" s_first_day ["land", "year"]
  t_year_of : Tx K mg "year_of" s_year_of ["land", "day"]
  t_dated : Tx K mg "dated" s_dated ["land", "day"]
  t_begin : Tx K mg "begin" s_begin ["land", "year"]
  t_date : Tx K mg "date" s_date ["land", "day"]
  t_is_long : Tx K mg "is_long" s_is_long ["land", "year"]
  t_longs_to : Tx K mg "longs_to" s_longs_to ["land", "year"]
  t_next_long : Tx K mg "next_long" s_next_long ["land", "year"]
  t_need_name : Tx K mg "need_name" s_need_name ["land", "place", "week", "name"]
  t_measure : Tx K mg "measure" s_measure ["one", "other"]
  t_back_of : Tx K mg "back_of" s_back_of ["number", "turn"]
  t_years_so : Tx K mg "years_so" s_years_so ["land", "place", "week", "name"]
  t_first_from : Tx K mg "first_from" s_first_from ["rests", "turn", "number"]
  t_counted : Tx K mg "counted" s_counted ["rests", "turn", "first", "last"]
  t_next_year : Tx K mg "next_year" s_next_year ["land", "place", "week", "name", "year"]
  t_how_many : Tx K mg "how_many" s_how_many ["land", "place", "week", "name", "first", "last"]
  t_lengths : Tx K mg "lengths" s_lengths ["land", "place", "week", "name"]
  t_barring : Tx K mg "barring" s_barring ["land", "place", "week", "name"]
  t_bars : Tx K mg "bars" s_bars ["land", "place", "week", "name", "thing"]
  t_need_placed : Tx K mg "need_placed" s_need_placed ["one", "place_one", "other", "place_other"]
  t_days_so : Tx K mg "days_so" s_days_so ["land", "place"]
  t_common_days : Tx K mg "common_days" s_common_days ["one", "place_one", "other", "place_other"]
  t_next_day : Tx K mg "next_day" s_next_day ["one", "place_one", "other", "place_other", "day"]
  t_days : Tx K mg "days" s_days ["one", "place_one", "other", "place_other", "first", "last"]
  t_are_parted : Tx K mg "are_parted" s_are_parted ["one", "place_one", "other", "place_other", "number"]
  t_parting : Tx K mg "parting" s_parting ["one", "place_one", "other", "place_other"]
  t_least_form : Tx K mg "least_form" s_least_form ["land"]
  t_first_parting : Tx K mg "first_parting" s_first_parting ["one", "other"]
  t_are_seen : Tx K mg "are_seen" s_are_seen ["thing"]
  t_lands_by : Tx K mg "lands_by" s_lands_by ["seen", "days", "top", "bottom"]
  t_lands_of : Tx K mg "lands_of" s_lands_of ["seen", "most"]
  t_Realm_init : Tm K mg "Realm" "__init__" "Realm.__init__" s_Realm_init ["self", "land"]
  t_Realm_change : Tm K mg "Realm" "change" "Realm.change" s_Realm_change ["self", "day", "land"]
  t_Realm_land_of : Tm K mg "Realm" "land_of" "Realm.land_of" s_Realm_land_of ["self", "day"]
  t_Realm_date : Tm K mg "Realm" "date" "Realm.date" s_Realm_date ["self", "day"]
  t_Realm_days_of : Tm K mg "Realm" "days_of" "Realm.days_of" s_Realm_days_of ["self", "year", "place"]
  t_law_deck : Tx K mg "_law_deck" s_law_deck ["cell", "turn"]
  t_law_pick : Tx K mg "_law_pick" s_law_pick ["deck", "size"]
  t_law_suns_right : Tx K mg "_law_suns_right" s_law_suns_right ["sun", "moon"]
  t_law : Tx K mg "law" s_law ["script"]
  r_Realm : ∃ C, Rm K mg "Realm" C
  b_all : mg "all" = none
  b_any : mg "any" = none
  b_bool : mg "bool" = none
  b_enumerate : mg "enumerate" = none
  b_int : mg "int" = none
  b_isinstance : mg "isinstance" = none
  b_len : mg "len" = none
  b_max : mg "max" = none
  b_min : mg "min" = none
  b_range : mg "range" = none
  b_set : mg "set" = none
  b_sorted : mg "sorted" = none
  b_sum : mg "sum" = none
  b_tuple : mg "tuple" = none
  b_zip : mg "zip" = none
  c_MOST_DAYS : ∃ t, mg "MOST_DAYS" = some (.int 400 t)
  c_MOST_BOTTOM : ∃ t, mg "MOST_BOTTOM" = some (.int 60 t)
  c_MOST_SHIFT : ∃ t, mg "MOST_SHIFT" = some (.int 1000000 t)
  c_FAR : ∃ t, mg "FAR" = some (.int 1000000000000000000000000000000 t)
  c_MOST_WEEK : ∃ t, mg "MOST_WEEK" = some (.int 20 t)
  c_MOST_TOLD : ∃ t, mg "MOST_TOLD" = some (.int 12 t)
local macro_rules | `(tactic| walk_at "g") => `(tactic| (repeat (first
  | refine ⟨_, _, _, _, rfl, rfl, (by assumption), (by rfl), ?_⟩
  | refine ⟨_, _, rfl, rfl, ⟨by omega, by omega⟩, ?_⟩
  | refine ⟨_, _, rfl, rfl, Or.inl ⟨by omega, by omega⟩, ?_⟩
  | refine ⟨_, _, rfl, rfl, Or.inr ⟨by omega, by omega⟩, ?_⟩
  | refine ⟨_, _, rfl, rfl, (by show (0 : Int) < _; omega), ?_⟩
  | refine ⟨_, _, rfl, rfl, ?_⟩
  | refine ⟨_, _, rfl, ?_⟩
  | refine ⟨_, rfl, ?_⟩
  | refine ⟨rfl, ?_⟩)))
local macro_rules | `(tactic| walk_at "vi") => `(tactic| (show V.int _ = V.int _; congr 1; (try dsimp only); omega))
section
variable {P : Program} {w : World} {K : PySem.W.Frag} {mg : Str → Option Value} {base : Heap}
def sp_is_from (K : PySem.W.Frag) : Sp := fun vs H Q _ => ∃ (x : V) (lo hi : Int) (n : String), vs = [x, .int lo, .int hi] ∧ Kn K H x n ∧ Q (.bl (isFrom x lo hi)) H
theorem d_is_from (A : All K mg) : Df P w K mg base CX0 "is_from" 1 ["thing", "low", "high"] (sp_is_from K) := by
  obtain ⟨f, fd, F, hm, hb⟩ := A.t_is_from
  refine ⟨f, fd, F.ok sc_is_from (fun vs H Q E h => ?_) (fun cdv A' outer s H vs Q E hr h => ?_), hm, F.kp, hb⟩
  · obtain ⟨x, lo, hi, n, rfl, _⟩ := h; rfl
  · obtain ⟨x, lo, hi, n, rfl, hk, q⟩ := h
    refine ⟨_, (pss_one (ps_ret (pe_and (pe_callB call_isi (by rfl) A.b_isinstance (by decide +kernel) (pa_cons (pv 0) (pa_cons (pe_bltn (v := .ty "int") (by rfl) A.b_int (by decide +kernel) rfl) pa_nil))) (pe_and (pe_not (pe_callB call_isi (by rfl) A.b_isinstance (by decide +kernel) (pa_cons (pv 0) (pa_cons (pe_bltn (v := .ty "bool") (by rfl) A.b_bool (by decide +kernel) rfl) pa_nil)))) (pe_one (pe_chain op_le op_le (pv 1) (pv 0) (pv 2))))))), ?_⟩
    refine ⟨x, rfl, x, _, _, _, _, rfl, .ty _, hk.ty, hk.kit (by decide), _, rfl, ?_⟩
    cases hk with
    | int i =>
      refine iteT ?_
      refine ⟨_, rfl, _, _, _, _, _, rfl, .ty _, (Kn.int i).ty, (Kn.int (K := K) (H := H) i).kit (by decide), _, rfl, _, rfl, ?_⟩
      refine iteT ?_
      refine ⟨_, rfl, _, rfl, _, _, rfl, rfl, _, rfl, ?_⟩
      refine ite2 (fun e => ?_) (fun e => ?_)
      · refine ⟨_, rfl, _, _, rfl, rfl, ?_⟩
        rw [isFrom_mid (of_decide_eq_true e)] at q
        exact q
      · rw [isFrom_no1 fun z => e (decide_eq_true z)] at q
        exact q
    | bl b =>
      refine iteT ?_
      refine ⟨_, rfl, _, _, _, _, _, rfl, .ty _, (Kn.bl b).ty, (Kn.bl (K := K) (H := H) b).kit (by decide), _, rfl, _, rfl, ?_⟩
      exact iteF q
    | non => exact iteF q
    | str z => exact iteF q
    | lst h => exact iteF q
    | tup h => exact iteF q

def sp_is_land (K : PySem.W.Frag) : Sp := fun vs H Q _ => ∃ (a : Addr) (d t b s : Int), vs = [.ref a] ∧ Ld K H a d t b s ∧ LandOk d t b s ∧ Q (.bl true) H
theorem d_is_land (A : All K mg) : Df P w K mg base CX0 "is_land" 2 ["thing"] (sp_is_land K) := by
  obtain ⟨f, fd, F, hm, hb⟩ := A.t_is_land
  refine ⟨f, fd, F.ok sc_is_land (fun vs H Q E h => ?_) (fun cdv A' outer s H vs Q E hr h => ?_), hm, F.kp, hb⟩
  · obtain ⟨a, d, t, b, s, rfl, _⟩ := h; rfl
  · obtain ⟨a, d, t, b, s, rfl, hl, hk, q⟩ := h
    obtain ⟨⟨k1, k2⟩, ⟨k3, k4⟩, ⟨k5, k6⟩, k7, k8⟩ := hk
    have kt : Kn K H (.ref a) "tuple" := .tup hl
    refine ⟨_, (pss_cons (ps_if (PW.pt (pw_or (pt_not (pt_val (pe_callB call_isi (by rfl) A.b_isinstance (by decide +kernel) (pa_cons (pv 0) (pa_cons (pe_bltn (v := .ty "tuple") (by rfl) A.b_tuple (by decide +kernel) rfl) pa_nil))))) (pw_or (pt_cmpR op_ne (pe_callB call_len_seq (by rfl) A.b_len (by decide +kernel) (pa_cons (pv 0) pa_nil)) pe_int (nomark _)) (pw_or1 (pt_not (pt_val (pe_callD (d_is_from A) hr (by decide) (by rfl) pass0 (pa_cons (pe_ix ix_tup (pv 0) pe_int (fun _ _ => rfl)) (pa_cons pe_int (pa_cons (pe_glob (v := .int 400) (by rfl) A.c_MOST_DAYS.choose_spec ⟨_, rfl⟩) pa_nil))))))))))
 (pss_one (ps_ret pe_bl))
 pss_nil)
 (pss_cons (ps_if (PW.pt (pw_or (pt_not (pt_val (pe_callD (d_is_from A) hr (by decide) (by rfl) pass0 (pa_cons (pe_ix ix_tup (pv 0) pe_int (fun _ _ => rfl)) (pa_cons pe_int (pa_cons (pe_glob (v := .int 60) (by rfl) A.c_MOST_BOTTOM.choose_spec ⟨_, rfl⟩) pa_nil)))))) (pw_or1 (pt_not (pt_val (pe_callD (d_is_from A) hr (by decide) (by rfl) pass0 (pa_cons (pe_ix ix_tup (pv 0) pe_int (fun _ _ => rfl)) (pa_cons pe_int (pa_cons (pe_op op_sub (pe_ix ix_tup (pv 0) pe_int (fun _ _ => rfl)) pe_int) pa_nil)))))))))
 (pss_one (ps_ret pe_bl))
 pss_nil)
 (pss_one (ps_ret (pe_callD (d_is_from A) hr (by decide) (by rfl) pass0 (pa_cons (pe_ix ix_tup (pv 0) pe_int (fun _ _ => rfl)) (pa_cons (pe_un un_neg (pe_glob (v := .int 1000000) (by rfl) A.c_MOST_SHIFT.choose_spec ⟨_, rfl⟩)) (pa_cons (pe_glob (v := .int 1000000) (by rfl) A.c_MOST_SHIFT.choose_spec ⟨_, rfl⟩) pa_nil)))))))), ?_⟩
    refine ⟨_, rfl, _, _, _, _, _, rfl, .ty _, kt.ty, kt.kit (by decide), _, rfl, ?_⟩
    refine iteF ?_
    refine ⟨_, rfl, a, _, rfl, .inr hl, rfl, _, rfl, ?_⟩
    refine iteF ?_
    refine ⟨_, rfl, _, _, _, _, rfl, rfl, hl, (by rfl), _, _, _, _, rfl, .int d, _, rfl, ?_⟩
    rw [isFrom_yes k1 k2]
    refine iteF ?_
    refine ⟨_, rfl, _, _, _, _, rfl, rfl, hl, (by rfl), _, _, _, _, rfl, .int b, _, rfl, ?_⟩
    rw [isFrom_yes k5 k6]
    refine iteF ?_
    refine ⟨_, rfl, _, _, _, _, rfl, rfl, hl, (by rfl), _, rfl, _, _, _, _, rfl, rfl, hl, (by rfl), _, _, rfl, rfl, _, _, _, _, rfl, .int t, _, rfl, ?_⟩
    rw [isFrom_yes k3 (by omega)]
    refine iteF ?_
    refine ⟨_, rfl, _, _, _, _, rfl, rfl, hl, (by rfl), _, rfl, _, _, _, _, rfl, .int s, ?_⟩
    rw [isFrom_yes (by omega) (by omega)]
    exact q

def sp_need_land (K : PySem.W.Frag) : Sp := fun vs H Q _ => ∃ (a : Addr) (d t b s : Int), vs = [.ref a] ∧ Ld K H a d t b s ∧ LandOk d t b s ∧ Q .non H
theorem d_need_land (A : All K mg) : Df P w K mg base CX0 "need_land" 3 ["land"] (sp_need_land K) := by
  obtain ⟨f, fd, F, hm, hb⟩ := A.t_need_land
  refine ⟨f, fd, F.ok sc_need_land (fun vs H Q E h => ?_) (fun cdv A' outer s H vs Q E hr h => ?_), hm, F.kp, hb⟩
  · obtain ⟨a, d, t, b, s, rfl, _⟩ := h; rfl
  · obtain ⟨a, d, t, b, s, rfl, hl, hk, q⟩ := h
    refine ⟨_, (pss_one (ps_if (pt_not (pt_val (pe_callD (d_is_land A) hr (by decide) (by rfl) pass0 (pa_cons (pv 0) pa_nil))))
 (pss_one ps_never)
 pss_nil)), ?_⟩
    refine ⟨_, rfl, a, d, t, b, s, rfl, hl, hk, _, rfl, ?_⟩
    exact iteF q

def sp_need_year : Sp := fun vs H Q _ => ∃ (y : Int), vs = [.int y] ∧ Far y ∧ Q .non H
theorem d_need_year (A : All K mg) : Df P w K mg base CX0 "need_year" 2 ["year"] sp_need_year := by
  obtain ⟨f, fd, F, hm, hb⟩ := A.t_need_year
  refine ⟨f, fd, F.ok sc_need_year (fun vs H Q E h => ?_) (fun cdv A' outer s H vs Q E hr h => ?_), hm, F.kp, hb⟩
  · obtain ⟨y, rfl, _⟩ := h; rfl
  · obtain ⟨y, rfl, ⟨h1, h2⟩, q⟩ := h
    refine ⟨_, (pss_one (ps_if (pt_not (pt_val (pe_callD (d_is_from A) hr (by decide) (by rfl) pass0 (pa_cons (pv 0) (pa_cons (pe_un un_neg (pe_glob (v := .int 1000000000000000000000000000000) (by rfl) A.c_FAR.choose_spec ⟨_, rfl⟩)) (pa_cons (pe_glob (v := .int 1000000000000000000000000000000) (by rfl) A.c_FAR.choose_spec ⟨_, rfl⟩) pa_nil))))))
 (pss_one ps_never)
 pss_nil)), ?_⟩
    refine ⟨_, rfl, _, rfl, _, _, _, _, rfl, .int y, _, rfl, ?_⟩
    rw [isFrom_yes h1 h2]
    exact iteF q

def sp_need_day : Sp := fun vs H Q _ => ∃ (y : Int), vs = [.int y] ∧ Far y ∧ Q .non H
theorem d_need_day (A : All K mg) : Df P w K mg base CX0 "need_day" 2 ["day"] sp_need_day := by
  obtain ⟨f, fd, F, hm, hb⟩ := A.t_need_day
  refine ⟨f, fd, F.ok sc_need_day (fun vs H Q E h => ?_) (fun cdv A' outer s H vs Q E hr h => ?_), hm, F.kp, hb⟩
  · obtain ⟨y, rfl, _⟩ := h; rfl
  · obtain ⟨y, rfl, ⟨h1, h2⟩, q⟩ := h
    refine ⟨_, (pss_one (ps_if (pt_not (pt_val (pe_callD (d_is_from A) hr (by decide) (by rfl) pass0 (pa_cons (pv 0) (pa_cons (pe_un un_neg (pe_glob (v := .int 1000000000000000000000000000000) (by rfl) A.c_FAR.choose_spec ⟨_, rfl⟩)) (pa_cons (pe_glob (v := .int 1000000000000000000000000000000) (by rfl) A.c_FAR.choose_spec ⟨_, rfl⟩) pa_nil))))))
 (pss_one ps_never)
 pss_nil)), ?_⟩
    refine ⟨_, rfl, _, rfl, _, _, _, _, rfl, .int y, _, rfl, ?_⟩
    rw [isFrom_yes h1 h2]
    exact iteF q

def sp_step_of (K : PySem.W.Frag) : Sp := fun vs H Q _ => ∃ (a : Addr) (d t b s : Int), vs = [.ref a] ∧ Ld K H a d t b s ∧ LandOk d t b s ∧ Q (.int (d * b + t)) H
theorem d_step_of (A : All K mg) : Df P w K mg base CX0 "step_of" 1 ["land"] (sp_step_of K) := by
  obtain ⟨f, fd, F, hm, hb⟩ := A.t_step_of
  refine ⟨f, fd, F.ok sc_step_of (fun vs H Q E h => ?_) (fun cdv A' outer s H vs Q E hr h => ?_), hm, F.kp, hb⟩
  · obtain ⟨a, d, t, b, s, rfl, _⟩ := h; rfl
  · obtain ⟨a, d, t, b, s, rfl, hl, hk, q⟩ := h
    obtain ⟨⟨k1, k2⟩, ⟨k3, k4⟩, ⟨k5, k6⟩, k7, k8⟩ := hk
    refine ⟨_, (pss_one (ps_ret (pe_op op_add (pe_op op_mul (pe_ix ix_tup (pv 0) pe_int (fun _ _ => rfl)) (pe_ix ix_tup (pv 0) pe_int (fun _ _ => rfl))) (pe_ix ix_tup (pv 0) pe_int (fun _ _ => rfl))))), ?_⟩
    walk_at "g"
    exact q

def sp_first_day (K : PySem.W.Frag) : Sp := fun vs H Q _ => ∃ (a : Addr) (d t b s y : Int), vs = [.ref a, .int y] ∧ Ld K H a d t b s ∧ LandOk d t b s ∧ Q (.int (fday d t b s y)) H
theorem d_first_day (A : All K mg) : Df P w K mg base CX0 "first_day" 2 ["land", "year"] (sp_first_day K) := by
  obtain ⟨f, fd, F, hm, hb⟩ := A.t_first_day
  refine ⟨f, fd, F.ok sc_first_day (fun vs H Q E h => ?_) (fun cdv A' outer s H vs Q E hr h => ?_), hm, F.kp, hb⟩
  · obtain ⟨a, d, t, b, s, y, rfl, _⟩ := h; rfl
  · obtain ⟨a, d, t, b, s, y, rfl, hl, hk, q⟩ := h
    have hp := step_pos hk
    obtain ⟨⟨k1, k2⟩, ⟨k3, k4⟩, ⟨k5, k6⟩, k7, k8⟩ := id hk
    refine ⟨_, (pss_one (ps_ret (pe_op op_fdiv (pe_op op_add (pe_op op_mul (pe_callD (d_step_of A) hr (by decide) (by rfl) pass0 (pa_cons (pv 0) pa_nil)) (pv 1)) (pe_ix ix_tup (pv 0) pe_int (fun _ _ => rfl))) (pe_ix ix_tup (pv 0) pe_int (fun _ _ => rfl))))), ?_⟩
    refine ⟨_, rfl, a, d, t, b, s, rfl, hl, hk, ?_⟩
    generalize hst : d * b + t = st at hp
    walk_at "g"
    rw [← hst]
    exact q

def sp_year_of (K : PySem.W.Frag) : Sp := fun vs H Q _ => ∃ (a : Addr) (d t b s n : Int), vs = [.ref a, .int n] ∧ Ld K H a d t b s ∧ LandOk d t b s ∧ Q (.int (yof d t b s n)) H
theorem d_year_of (A : All K mg) : Df P w K mg base CX0 "year_of" 2 ["land", "day"] (sp_year_of K) := by
  obtain ⟨f, fd, F, hm, hb⟩ := A.t_year_of
  refine ⟨f, fd, F.ok sc_year_of (fun vs H Q E h => ?_) (fun cdv A' outer s H vs Q E hr h => ?_), hm, F.kp, hb⟩
  · obtain ⟨a, d, t, b, s, n, rfl, _⟩ := h; rfl
  · obtain ⟨a, d, t, b, s, n, rfl, hl, hk, q⟩ := h
    have hp := step_pos hk
    obtain ⟨⟨k1, k2⟩, ⟨k3, k4⟩, ⟨k5, k6⟩, k7, k8⟩ := id hk
    refine ⟨_, (pss_one (ps_ret (pe_op op_fdiv (pe_op op_sub (pe_op op_sub (pe_op op_mul (pe_op op_add (pv 1) pe_int) (pe_ix ix_tup (pv 0) pe_int (fun _ _ => rfl))) (pe_ix ix_tup (pv 0) pe_int (fun _ _ => rfl))) pe_int) (pe_callD (d_step_of A) hr (by decide) (by rfl) pass0 (pa_cons (pv 0) pa_nil))))), ?_⟩
    walk_at "g"
    refine ⟨a, d, t, b, s, rfl, hl, hk, ?_⟩
    unfold yof at q
    generalize d * b + t = st at hp q ⊢
    walk_at "g"
    exact q

def sp_dated (K : PySem.W.Frag) : Sp := fun vs H Q _ => ∃ (a : Addr) (d t b s n : Int), vs = [.ref a, .int n] ∧ Ld K H a d t b s ∧ LandOk d t b s ∧ ∀ p, H p = none → Q (.ref p) (upd H p (.tup [.int (yof d t b s n), .int (n - fday d t b s (yof d t b s n))]))
theorem d_dated (A : All K mg) : Df P w K mg base CX0 "dated" 3 ["land", "day"] (sp_dated K) := by
  obtain ⟨f, fd, F, hm, hb⟩ := A.t_dated
  refine ⟨f, fd, F.ok sc_dated (fun vs H Q E h => ?_) (fun cdv A' outer s H vs Q E hr h => ?_), hm, F.kp, hb⟩
  · obtain ⟨a, d, t, b, s, n, rfl, _⟩ := h; rfl
  · obtain ⟨a, d, t, b, s, n, rfl, hl, hk, q⟩ := h
    refine ⟨_, (pss_cons (ps_set (i := 2) sc_dated.nd rfl (Or.inl rfl) (pe_callD (d_year_of A) hr (by decide) (by rfl) pass0 (pa_cons (pv 0) (pa_cons (pv 1) pa_nil))))
 (pss_one (ps_ret (pe_tup (pa_cons (pv 2) (pa_cons (pe_op op_sub (pv 1) (pe_callD (d_first_day A) hr (by decide) (by rfl) pass0 (pa_cons (pv 0) (pa_cons (pv 2) pa_nil)))) pa_nil)))))), ?_⟩
    refine ⟨_, rfl, _, rfl, a, d, t, b, s, n, rfl, hl, hk, ?_⟩
    refine ⟨_, rfl, _, rfl, _, rfl, _, rfl, a, d, t, b, s, _, rfl, hl, hk, ?_⟩
    walk_at "g"
    exact ⟨by show 2 ≤ sizeLine; decide, q⟩

def sp_begin (K : PySem.W.Frag) : Sp := fun vs H Q _ => ∃ (a : Addr) (d t b s y : Int), vs = [.ref a, .int y] ∧ Ld K H a d t b s ∧ LandOk d t b s ∧ Far y ∧ Q (.int (fday d t b s y)) H
theorem d_begin (A : All K mg) : Df P w K mg base CX0 "begin" 4 ["land", "year"] (sp_begin K) := by
  obtain ⟨f, fd, F, hm, hb⟩ := A.t_begin
  refine ⟨f, fd, F.ok sc_begin (fun vs H Q E h => ?_) (fun cdv A' outer s H vs Q E hr h => ?_), hm, F.kp, hb⟩
  · obtain ⟨a, d, t, b, s, y, rfl, _⟩ := h; rfl
  · obtain ⟨a, d, t, b, s, y, rfl, hl, hk, hy, q⟩ := h
    refine ⟨_, (pss_cons (ps_expr (pe_callD (d_need_land A) hr (by decide) (by rfl) pass0 (pa_cons (pv 0) pa_nil)))
 (pss_cons (ps_expr (pe_callD (d_need_year A) hr (by decide) (by rfl) pass0 (pa_cons (pv 1) pa_nil)))
 (pss_one (ps_ret (pe_callD (d_first_day A) hr (by decide) (by rfl) pass0 (pa_cons (pv 0) (pa_cons (pv 1) pa_nil))))))), ?_⟩
    refine ⟨_, rfl, a, d, t, b, s, rfl, hl, hk, ?_⟩
    refine ⟨_, rfl, y, rfl, hy, ?_⟩
    exact ⟨_, rfl, _, rfl, a, d, t, b, s, y, rfl, hl, hk, q⟩

def sp_date (K : PySem.W.Frag) : Sp := fun vs H Q _ => ∃ (a : Addr) (d t b s n : Int) (B : Hp), vs = [.ref a, .int n] ∧ Ld K H a d t b s ∧ LandOk d t b s ∧ Far n ∧ NoT H ∧ Same B H ∧ ∀ p H', H p = none → Same B H' → NoT H' → H' p = some (.tup [.int (yof d t b s n), .int (n - fday d t b s (yof d t b s n))]) → Q (.ref p) H'
theorem d_date (A : All K mg) : Df P w K mg base CX0 "date" 4 ["land", "day"] (sp_date K) := by
  obtain ⟨f, fd, F, hm, hb⟩ := A.t_date
  refine ⟨f, fd, F.ok sc_date (fun vs H Q E h => ?_) (fun cdv A' outer s H vs Q E hr h => ?_), hm, F.kp, hb⟩
  · obtain ⟨a, d, t, b, s, y, B, rfl, _⟩ := h; rfl
  · obtain ⟨a, d, t, b, s, y, B, rfl, hl, hk, hy, nt, sB, q⟩ := h
    refine ⟨_, (pss_cons (ps_expr (pe_callD (d_need_land A) hr (by decide) (by rfl) pass0 (pa_cons (pv 0) pa_nil)))
 (pss_cons (ps_expr (pe_callD (d_need_day A) hr (by decide) (by rfl) pass0 (pa_cons (pv 1) pa_nil)))
 (pss_one (ps_ret (pe_callD (d_dated A) hr (by decide) (by rfl) pass0 (pa_cons (pv 0) (pa_cons (pv 1) pa_nil))))))), ?_⟩
    refine ⟨_, rfl, a, d, t, b, s, rfl, hl, hk, ?_⟩
    refine ⟨_, rfl, y, rfl, hy, ?_⟩
    exact ⟨_, rfl, _, rfl, a, d, t, b, s, y, rfl, hl, hk, fun p hp => q p _ hp (sB.trans (same_new hp)) nt.tup upd_same⟩

def sp_is_long (K : PySem.W.Frag) : Sp := fun vs H Q _ => ∃ (a : Addr) (d t b s y : Int), vs = [.ref a, .int y] ∧ Ld K H a d t b s ∧ LandOk d t b s ∧ Far y ∧ Q (.bl (decide (d < fday d t b s (y + 1) - fday d t b s y))) H
theorem d_is_long (A : All K mg) : Df P w K mg base CX0 "is_long" 4 ["land", "year"] (sp_is_long K) := by
  obtain ⟨f, fd, F, hm, hb⟩ := A.t_is_long
  refine ⟨f, fd, F.ok sc_is_long (fun vs H Q E h => ?_) (fun cdv A' outer s H vs Q E hr h => ?_), hm, F.kp, hb⟩
  · obtain ⟨a, d, t, b, s, y, rfl, _⟩ := h; rfl
  · obtain ⟨a, d, t, b, s, y, rfl, hl, hk, hy, q⟩ := h
    refine ⟨_, (pss_cons (ps_expr (pe_callD (d_need_land A) hr (by decide) (by rfl) pass0 (pa_cons (pv 0) pa_nil)))
 (pss_cons (ps_expr (pe_callD (d_need_year A) hr (by decide) (by rfl) pass0 (pa_cons (pv 1) pa_nil)))
 (pss_one (ps_ret (pe_cmpR op_gt (pe_op op_sub (pe_callD (d_first_day A) hr (by decide) (by rfl) pass0 (pa_cons (pv 0) (pa_cons (pe_op op_add (pv 1) pe_int) pa_nil))) (pe_callD (d_first_day A) hr (by decide) (by rfl) pass0 (pa_cons (pv 0) (pa_cons (pv 1) pa_nil)))) (pe_ix ix_tup (pv 0) pe_int (fun _ _ => rfl)) (nomark _)))))), ?_⟩
    refine ⟨_, rfl, a, d, t, b, s, rfl, hl, hk, ?_⟩
    refine ⟨_, rfl, y, rfl, hy, ?_⟩
    refine ⟨_, rfl, _, rfl, _, _, rfl, rfl, a, d, t, b, s, _, rfl, hl, hk, ?_⟩
    refine ⟨_, rfl, _, rfl, a, d, t, b, s, _, rfl, hl, hk, ?_⟩
    walk_at "g"
    exact q

def sp_longs_to (K : PySem.W.Frag) : Sp := fun vs H Q _ => ∃ (a : Addr) (d t b s y : Int), vs = [.ref a, .int y] ∧ Ld K H a d t b s ∧ LandOk d t b s ∧ Q (.int (tof t b s y)) H
theorem d_longs_to (A : All K mg) : Df P w K mg base CX0 "longs_to" 1 ["land", "year"] (sp_longs_to K) := by
  obtain ⟨f, fd, F, hm, hb⟩ := A.t_longs_to
  refine ⟨f, fd, F.ok sc_longs_to (fun vs H Q E h => ?_) (fun cdv A' outer s H vs Q E hr h => ?_), hm, F.kp, hb⟩
  · obtain ⟨a, d, t, b, s, y, rfl, _⟩ := h; rfl
  · obtain ⟨a, d, t, b, s, y, rfl, hl, hk, q⟩ := h
    have hbb := hk.b
    have htt := hk.t
    refine ⟨_, (pss_one (ps_ret (pe_op op_fdiv (pe_op op_add (pe_op op_mul (pe_ix ix_tup (pv 0) pe_int (fun _ _ => rfl)) (pv 1)) (pe_ix ix_tup (pv 0) pe_int (fun _ _ => rfl))) (pe_ix ix_tup (pv 0) pe_int (fun _ _ => rfl))))), ?_⟩
    exact ⟨_, rfl, _, _, _, _, rfl, rfl, hl, (by rfl), _, rfl, _, _, rfl, rfl, Or.inl ⟨by omega, by omega⟩, _, rfl, _, _, _, _, rfl, rfl, hl, (by rfl), _, _, rfl, rfl, _, rfl, _, _, _, _, rfl, rfl, hl, (by rfl), _, _, rfl, rfl, ⟨by omega, by omega⟩, q⟩

def sp_next_long (K : PySem.W.Frag) : Sp := fun vs H Q _ => ∃ (a : Addr) (d t b s y : Int), vs = [.ref a, .int y] ∧ Ld K H a d t b s ∧ LandOk d t b s ∧ Far y ∧ ∀ o, Nxt (Lng t b s) y o → Q o H
theorem d_next_long (A : All K mg) : Df P w K mg base CX0 "next_long" 4 ["land", "year"] (sp_next_long K) := by
  obtain ⟨f, fd, F, hm, hb⟩ := A.t_next_long
  refine ⟨f, fd, F.ok sc_next_long (fun vs H Q E h => ?_) (fun cdv A' outer s H vs Q E hr h => ?_), hm, F.kp, hb⟩
  · obtain ⟨a, d, t, b, s, y, rfl, _⟩ := h; rfl
  · obtain ⟨a, d, t, b, s, y, rfl, hl, hk, hy, q⟩ := h
    have hbb := hk.b
    have htt := hk.t
    refine ⟨_, (pss_cons (ps_expr (pe_callD (d_need_land A) hr (by decide) (by rfl) pass0 (pa_cons (pv 0) pa_nil)))
 (pss_cons (ps_expr (pe_callD (d_need_year A) hr (by decide) (by rfl) pass0 (pa_cons (pv 1) pa_nil)))
 (pss_cons (ps_if (pt_cmpR op_eq (pe_ix ix_tup (pv 0) pe_int (fun _ _ => rfl)) pe_int (nomark _))
 (pss_one (ps_ret pe_non))
 pss_nil)
 (pss_cons (ps_set (i := 2) sc_next_long.nd rfl (Or.inl rfl) (pe_op op_add (pe_callD (d_longs_to A) hr (by decide) (by rfl) pass0 (pa_cons (pv 0) (pa_cons (pv 1) pa_nil))) pe_int))
 (pss_one (ps_ret (pe_op op_sub (pe_un un_neg (pe_op op_fdiv (pe_op op_sub (pe_ix ix_tup (pv 0) pe_int (fun _ _ => rfl)) (pe_op op_mul (pv 2) (pe_ix ix_tup (pv 0) pe_int (fun _ _ => rfl)))) (pe_ix ix_tup (pv 0) pe_int (fun _ _ => rfl)))) pe_int))))))), ?_⟩
    refine ⟨_, rfl, a, d, t, b, s, rfl, hl, hk, ?_⟩
    refine ⟨_, rfl, y, rfl, hy, ?_⟩
    refine ⟨_, rfl, _, _, _, _, rfl, rfl, hl, (by rfl), rfl, _, rfl, ite2 (fun c => ?_) (fun c => ?_)⟩
    · exact q _ (.inl ⟨rfl, no_long hk (V.int.inj (of_decide_eq_true c))⟩)
    · have h0 : t ≠ 0 := fun z => c (decide_eq_true (congrArg V.int z))
      refine ⟨_, rfl, _, rfl, a, d, t, b, s, y, rfl, hl, hk, _, _, rfl, rfl, ?_⟩
      exact ⟨_, rfl, _, _, _, _, rfl, rfl, hl, (by rfl), _, rfl, _, rfl, _, _, _, _, rfl, rfl, hl, (by rfl), _, _, rfl, rfl, Or.inr ⟨by omega, by omega⟩, _, _, rfl, rfl, _, rfl, _, _, _, _, rfl, rfl, hl, (by rfl), _, _, rfl, rfl, ⟨by omega, by omega⟩, _, rfl, _, _, rfl, rfl, q _ (.inr ⟨_, rfl, fst_long hk h0 y⟩)⟩

def sp_need_name (K : PySem.W.Frag) : Sp := fun vs H Q _ => ∃ (a : Addr) (d t b s pl wk nm : Int), vs = [.ref a, .int pl, .int wk, .int nm] ∧ Ld K H a d t b s ∧ LandOk d t b s ∧ (0 ≤ pl ∧ pl < d) ∧ (1 ≤ wk ∧ wk ≤ 20) ∧ (0 ≤ nm ∧ nm < wk) ∧ Q .non H
theorem d_need_name (A : All K mg) : Df P w K mg base CX0 "need_name" 4 ["land", "place", "week", "name"] (sp_need_name K) := by
  obtain ⟨f, fd, F, hm, hb⟩ := A.t_need_name
  refine ⟨f, fd, F.ok sc_need_name (fun vs H Q E h => ?_) (fun cdv A' outer s H vs Q E hr h => ?_), hm, F.kp, hb⟩
  · obtain ⟨a, d, t, b, s, pl, wk, nm, rfl, _⟩ := h; rfl
  · obtain ⟨a, d, t, b, s, pl, wk, nm, rfl, hl, hk, hp, hw, hn, q⟩ := h
    refine ⟨_, (pss_cons (ps_expr (pe_callD (d_need_land A) hr (by decide) (by rfl) pass0 (pa_cons (pv 0) pa_nil)))
 (pss_cons (ps_if (pt_not (pt_val (pe_callD (d_is_from A) hr (by decide) (by rfl) pass0 (pa_cons (pv 1) (pa_cons pe_int (pa_cons (pe_op op_sub (pe_ix ix_tup (pv 0) pe_int (fun _ _ => rfl)) pe_int) pa_nil))))))
 (pss_one ps_never)
 pss_nil)
 (pss_cons (ps_if (pt_not (pt_val (pe_callD (d_is_from A) hr (by decide) (by rfl) pass0 (pa_cons (pv 2) (pa_cons pe_int (pa_cons (pe_glob (v := .int 20) (by rfl) A.c_MOST_WEEK.choose_spec ⟨_, rfl⟩) pa_nil))))))
 (pss_one ps_never)
 pss_nil)
 (pss_one (ps_if (pt_not (pt_val (pe_callD (d_is_from A) hr (by decide) (by rfl) pass0 (pa_cons (pv 3) (pa_cons pe_int (pa_cons (pe_op op_sub (pv 2) pe_int) pa_nil))))))
 (pss_one ps_never)
 pss_nil))))), ?_⟩
    refine ⟨_, rfl, a, d, t, b, s, rfl, hl, hk, ?_⟩
    refine ⟨_, rfl, _, rfl, _, _, _, _, rfl, rfl, hl, (by rfl), _, _, rfl, rfl, _, _, _, _, rfl, .int pl, _, rfl, ?_⟩
    rw [isFrom_yes (by omega) (by omega)]
    refine iteF ?_
    refine ⟨_, rfl, _, _, _, _, rfl, .int wk, _, rfl, ?_⟩
    rw [isFrom_yes (by omega) (by omega)]
    refine iteF ?_
    refine ⟨_, rfl, _, rfl, _, _, rfl, rfl, _, _, _, _, rfl, .int nm, _, rfl, ?_⟩
    rw [isFrom_yes (by omega) (by omega)]
    exact iteF q

def sp_measure : Sp := fun vs H Q _ => ∃ (x y : Int), vs = [.int x, .int y] ∧ 0 ≤ x ∧ 0 ≤ y ∧ Q (.int (gcdI x y)) H
theorem d_measure (A : All K mg) : Df P w K mg base CX0 "measure" 1 ["one", "other"] sp_measure := by
  obtain ⟨f, fd, F, hm, hb⟩ := A.t_measure
  refine ⟨f, fd, F.ok sc_measure (fun vs H Q E h => ?_) (fun cdv A' outer s H vs Q E hr h => ?_), hm, F.kp, hb⟩
  · obtain ⟨x, y, rfl, _⟩ := h; rfl
  · obtain ⟨x, y, rfl, hx, hy, q⟩ := h
    refine ⟨_, (pss_cons (ps_while PassesOwn.never (pt_cmpR op_gt (pv 1) pe_int (nomark _))
 (pss_one (ps_par (i := 0) (j := 1) (by rfl) sc_measure.nd rfl rfl (by decide) rfl rfl (pa_cons (pv 1) (pa_cons (pe_op op_mod (pv 0) (pv 1)) pa_nil)) (by rfl))))
 (pss_one (ps_ret (pv 0)))), ?_⟩
    refine ⟨fun m σ H' => ∃ u v : Int, σ = [some (.int u), some (.int v)] ∧ H = H' ∧ 0 ≤ u ∧ 0 ≤ v ∧ gcdI u v = gcdI x y ∧ m = v.toNat, ⟨_, x, y, rfl, rfl, hx, hy, rfl, rfl⟩, ?_⟩
    rintro m σ H' ⟨u, v, rfl, rfl, hu, hv, hg, rfl⟩
    walk_at "g"
    refine ite2 (fun e => ?_) (fun e => ?_)
    · have hv0 : 0 < v := of_decide_eq_true e
      have m0 := Int.emod_nonneg u (show v ≠ 0 by omega)
      have m1 := Int.emod_lt_of_pos u hv0
      refine ⟨fun σ H' => ∃ u v' : Int, σ = [some (.int u), some (.int v')] ∧ H = H' ∧ 0 ≤ u ∧ 0 ≤ v' ∧ gcdI u v' = gcdI x y ∧ v'.toNat < v.toNat, fun σ' H' hN => ?_, ?_⟩
      · obtain ⟨u', v', e1, e2, e3, e4, e5, e6⟩ := hN
        exact ⟨_, e6, u', v', e1, e2, e3, e4, e5, rfl⟩
      · walk_at "g"
        exact ⟨hv, m0, by rw [← gcdI_step hu hv0]; exact hg, by omega⟩
    · have hv0 : v = 0 := by
        have : ¬ 0 < v := fun z => e (decide_eq_true z)
        omega
      subst hv0
      rw [gcdI_zero hu] at hg
      subst hg
      exact ⟨_, rfl, q⟩

def sp_back_of : Sp := fun vs H Q _ => ∃ (n T : Int), vs = [.int n, .int T] ∧ NoT H ∧ 1 ≤ T ∧ T ≤ 1000000000 ∧ 0 ≤ n ∧ gcdI n T = 1 ∧ ∀ r, 0 ≤ r → r < T → T ∣ n * r - 1 → Q (.int r) H
theorem d_back_of (A : All K mg) : Df P w K mg base CX0 "back_of" 1 ["number", "turn"] sp_back_of := by
  obtain ⟨f, fd, F, hm, hb⟩ := A.t_back_of
  refine ⟨f, fd, Fun.okF F sc_back_of (fun vs H Q E h => ?_) (fun cdv A' outer s H vs Q E hr h => ?_), hm, F.kp, hb⟩
  · obtain ⟨x, y, rfl, _⟩ := h; rfl
  · obtain ⟨n, T, rfl, nt, T1, T2, n0, hg, q⟩ := h
    refine ⟨_, (pss_cons (ps_par (i := 2) (j := 3) (by rfl) sc_back_of.nd rfl rfl (by decide) rfl rfl (pa_cons (pv 1) (pa_cons (pe_op op_mod (pv 0) (pv 1)) pa_nil)) (by rfl))
 (pss_cons (ps_asg (pe_tup (pa_cons pe_int (pa_cons pe_int pa_nil))) (pg_tup (by rfl) (pgs_cons (pg_name (i := 4) sc_back_of.nd rfl (Or.inl rfl)) (pgs_cons (pg_name (i := 5) sc_back_of.nd rfl (Or.inl rfl)) pgs_nil))))
 (pss_cons (ps_while PassesOwn.never (pt_cmpR op_gt (pv 3) pe_int (nomark _))
 (pss_cons (ps_set (i := 6) sc_back_of.nd rfl (Or.inl rfl) (pe_op op_fdiv (pv 2) (pv 3)))
 (pss_cons (ps_par (i := 2) (j := 3) (by rfl) sc_back_of.nd rfl rfl (by decide) rfl rfl (pa_cons (pv 3) (pa_cons (pe_op op_sub (pv 2) (pe_op op_mul (pv 6) (pv 3))) pa_nil)) (by rfl))
 (pss_one (ps_par (i := 4) (j := 5) (by rfl) sc_back_of.nd rfl rfl (by decide) rfl rfl (pa_cons (pv 5) (pa_cons (pe_op op_sub (pv 4) (pe_op op_mul (pv 6) (pv 5))) pa_nil)) (by rfl))))))
 (pss_one (ps_ret (pe_op op_mod (pv 4) (pv 1))))))), ?_⟩
    walk_at "g"
    refine ⟨by show 2 ≤ sizeLine; decide, fun p0 hp0 => ⟨p0, _, rfl, SqT.of upd_same, rfl, _, _, rfl, _, _, rfl, rfl, ?_⟩⟩
    have m0 := Int.emod_nonneg n (show T ≠ 0 by omega)
    have m1 := Int.emod_lt_of_pos n (show 0 < T by omega)
    refine ⟨fun m σ H' => ∃ u v x z y6, σ = [some (.int n), some (.int T), some (.int u), some (.int v), some (.int x), some (.int z), y6] ∧ Same H H' ∧ 0 ≤ u ∧ 0 ≤ v ∧ u ≤ T ∧ v ≤ T ∧ gcdI u v = 1 ∧ T ∣ n * x - u ∧ T ∣ n * z - v ∧ m = v.toNat,
      ⟨_, T, n % T, 0, 1, _, rfl, same_new hp0, by omega, m0, by omega, by omega, ?_, ?_, ?_, rfl⟩, ?_⟩
    · rw [gcdI_comm] at hg
      rw [← hg]
      by_cases hn : n % T = 0
      · have := gcdI_step (a := n) (b := T) n0 (by omega)
        rw [gcdI_comm T n, this]
      · have := gcdI_step (a := n) (b := T) n0 (by omega)
        rw [gcdI_comm T n, this]
    · exact ⟨-1, by rw [Int.mul_zero]; omega⟩
    · refine ⟨n / T, ?_⟩
      have := Int.emod_add_mul_ediv n T
      omega
    rintro m σ H' ⟨u, v, x, z, y6, rfl, sH, u0, v0, uT, vT, hg', d1, d2, rfl⟩
    walk_at "g"
    refine ite2 (fun e => ?_) (fun e => ?_)
    · have hv0 : 0 < v := of_decide_eq_true e
      have b0 := Int.emod_nonneg u (show v ≠ 0 by omega)
      have b1 := Int.emod_lt_of_pos u hv0
      have b2 := Int.emod_add_mul_ediv u v
      have b3 : 0 ≤ u / v := Int.ediv_nonneg u0 v0
      have b4 : u / v ≤ T := (ediv_abs (x := u) (k := v) (by omega) (B := T) (by omega) (by omega) uT).2
      refine ⟨fun σ H' => ∃ u' v' x z y6, σ = [some (.int n), some (.int T), some (.int u'), some (.int v'), some (.int x), some (.int z), y6] ∧ Same H H' ∧ 0 ≤ u' ∧ 0 ≤ v' ∧ u' ≤ T ∧ v' ≤ T ∧ gcdI u' v' = 1 ∧ T ∣ n * x - u' ∧ T ∣ n * z - v' ∧ v'.toNat < v.toNat, fun σ' H' hN => ?_, ?_⟩
      · obtain ⟨u', v', x', z', y6, e1, e2, e3, e4, e5, e6, e7, e8, e9, e10⟩ := hN
        exact ⟨_, e10, u', v', x', z', y6, e1, e2, e3, e4, e5, e6, e7, e8, e9, rfl⟩
      · walk_at "g"
        generalize hq : u / v = p at b2 b3 b4 ⊢
        have hc : v * p = p * v := Int.mul_comm ..
        walk_at "g"
        have e1 : u - p * v = u % v := by omega
        refine ⟨v, u - p * v, z, x - p * z, _, rfl, sH, v0, by omega, vT, by omega, ?_, d2, ?_, by omega⟩
        · rw [e1, ← gcdI_step u0 hv0]
          exact hg'
        · obtain ⟨k1, h1⟩ := d1
          obtain ⟨k2, h2⟩ := d2
          refine ⟨k1 - p * k2, ?_⟩
          have r1 : n * (x - p * z) = n * x - p * (n * z) := by rw [Int.mul_sub, ← Int.mul_assoc, Int.mul_comm n p, Int.mul_assoc]
          have r2 : T * (k1 - p * k2) = T * k1 - p * (T * k2) := by rw [Int.mul_sub, ← Int.mul_assoc, Int.mul_comm T p, Int.mul_assoc]
          have r3 : p * (n * z) = p * (T * k2) + p * v := by rw [← Int.mul_add]; congr 1; omega
          omega
    · have hv0 : v = 0 := by
        have : ¬ 0 < v := fun z => e (decide_eq_true z)
        omega
      subst hv0
      rw [gcdI_zero u0] at hg'
      subst hg'
      walk_at "g"
      refine fg_same nt sH (q _ (Int.emod_nonneg _ (by omega)) (Int.emod_lt_of_pos _ (by omega)) ?_)
      obtain ⟨k1, h1⟩ := d1
      refine ⟨k1 - n * (x / T), ?_⟩
      have b2 := Int.emod_add_mul_ediv x T
      have r1 : x % T = x - T * (x / T) := by omega
      rw [r1, Int.mul_sub, Int.mul_sub, ← Int.mul_assoc, ← Int.mul_assoc, Int.mul_comm T n]
      omega

def sp_years_so (K : PySem.W.Frag) : Sp := fun vs H Q _ => ∃ (a : Addr) (d t b s pl wk nm : Int), vs = [.ref a, .int pl, .int wk, .int nm] ∧ Ld K H a d t b s ∧ LandOk d t b s ∧ (0 ≤ pl ∧ pl < d) ∧ (1 ≤ wk ∧ wk ≤ 20) ∧ (0 ≤ nm ∧ nm < wk) ∧ NoT H ∧
  ∀ ys T l p H', Yso d t b s pl wk nm ys T → Same H H' → NoT H' → H' l = some (.lst (ys.map V.int)) → H' p = some (.tup [.ref l, .int T]) → Q (.ref p) H'
theorem d_years_so (A : All K mg) : Df P w K mg base CX0 "years_so" 2 ["land", "place", "week", "name"] (sp_years_so K) := by
  obtain ⟨f, fd, F, hm, hb⟩ := A.t_years_so
  refine ⟨f, fd, F.ok sc_years_so (fun vs H Q E h => ?_) (fun cdv A' outer s H vs Q E hr h => ?_), hm, F.kp, hb⟩
  · obtain ⟨a, d, t, b, s, pl, wk, nm, rfl, _⟩ := h; rfl
  · obtain ⟨a, d, t, b, s, pl, wk, nm, rfl, hl, hk, hp, hw, hn, nt, q⟩ := h
    have hbb := hk.b
    have hdd := hk.d
    have hss := hk.s
    have hst := step_pos hk
    have wb : 1 * 1 ≤ wk * b := Int.mul_le_mul hw.1 hbb.1 (by decide) (by omega)
    have wb2 : wk * b ≤ 20 * 60 := Int.mul_le_mul hw.2 hbb.2 (by omega) (by omega)
    have g1 : 1 ≤ gcdI (d * b + t) (wk * b) := gcdI_pos (by omega)
    have gS := gcdI_dvd_l (a := d * b + t) (b := wk * b) (by omega)
    have gW := gcdI_dvd_r (a := d * b + t) (b := wk * b) (by omega)
    have g2 : gcdI (d * b + t) (wk * b) ≤ 1200 := by
      have := Int.le_of_dvd (by omega) gW
      omega
    have gd := gcdI_div (a := d * b + t) (b := wk * b) (by omega) (by omega)
    refine ⟨_, (pss_cons (ps_set (i := 4) sc_years_so.nd rfl (Or.inl rfl) (pe_op op_mul (pv 2) (pe_ix ix_tup (pv 0) pe_int (fun _ _ => rfl))))
 (pss_cons (ps_set (i := 5) sc_years_so.nd rfl (Or.inl rfl) (pe_callD (d_step_of A) hr (by decide) (by rfl) pass0 (pa_cons (pv 0) pa_nil)))
 (pss_cons (ps_set (i := 6) sc_years_so.nd rfl (Or.inl rfl) (pe_callD (d_measure A) hr (by decide) (by rfl) pass0 (pa_cons (pv 5) (pa_cons (pv 4) pa_nil))))
 (pss_cons (ps_set (i := 7) sc_years_so.nd rfl (Or.inl rfl) (pe_op op_fdiv (pv 4) (pv 6)))
 (pss_cons (ps_set (i := 8) sc_years_so.nd rfl (Or.inl rfl) (pe_callD (d_back_of A) hr (by decide) (by rfl) pass0 (pa_cons (pe_op op_fdiv (pv 5) (pv 6)) (pa_cons (pv 7) pa_nil))))
 (pss_cons (ps_set (i := 9) sc_years_so.nd rfl (Or.inl rfl) (pe_lst pa_nil))
 (pss_cons (ps_for PassesOwn.never (by rfl) (pi_rgW2 (by rfl) A.b_range (pa_cons (pe_op op_mul (pv 3) (pe_ix ix_tup (pv 0) pe_int (fun _ _ => rfl))) (pa_cons (pe_op op_mul (pe_op op_add (pv 3) pe_int) (pe_ix ix_tup (pv 0) pe_int (fun _ _ => rfl))) pa_nil))) (pg_name (i := 10) sc_years_so.nd rfl (Or.inl rfl))
 (pss_cons (ps_set (i := 11) sc_years_so.nd rfl (Or.inl rfl) (pe_op op_sub (pe_op op_sub (pv 10) (pe_ix ix_tup (pv 0) pe_int (fun _ _ => rfl))) (pe_op op_mul (pv 1) (pe_ix ix_tup (pv 0) pe_int (fun _ _ => rfl)))))
 (pss_one (ps_if (pt_cmpR op_eq (pe_op op_mod (pv 11) (pv 6)) pe_int (nomark _))
 (pss_one (ps_expr (pe_bm PySem.F.plainAttrs_list PySem.F.slot_list_append PySem.F.type_list_append mt_append (pv 9) (pa_cons (pe_op op_mod (pe_op op_mul (pe_op op_fdiv (pv 11) (pv 6)) (pv 8)) (pv 7)) pa_nil))))
 pss_nil))))
 (pss_one (ps_ret (pe_tup (pa_cons (pe_callB cr_sortedI (by rfl) A.b_sorted (by decide +kernel) (pa_cons (pv 9) pa_nil)) (pa_cons (pv 7) pa_nil)))))))))))), ?_⟩
    walk_at "g"
    refine ⟨a, d, t, b, s, rfl, hl, hk, ?_⟩
    refine ⟨_, rfl, _, rfl, d * b + t, wk * b, rfl, by omega, by omega, ?_⟩
    generalize hg : gcdI (d * b + t) (wk * b) = g at g1 g2 gS gW gd ⊢
    walk_at "g"
    have T1 : 1 ≤ wk * b / g := by
      have e := Int.mul_ediv_cancel' gW
      rcases Int.lt_or_le (wk * b / g) 1 with z | z
      · have : g * (wk * b / g) ≤ g * 0 := Int.mul_le_mul_of_nonneg_left (by omega) (by omega)
        omega
      · exact z
    have T2 : wk * b / g ≤ 1200 := (ediv_abs (x := wk * b) (k := g) g1 (B := 1200) (by omega) (by omega) (by omega)).2
    have S0 : 0 ≤ (d * b + t) / g := Int.ediv_nonneg (by omega) (by omega)
    refine ⟨nt, T1, by omega, S0, gd, fun bk k0 k1 hbk => ?_⟩
    refine ⟨Nat.zero_le _, fun fl hfl => ?_⟩
    have nb : nm * b ≤ 20 * 60 := Int.mul_le_mul (by omega) hbb.2 (by omega) (by omega)
    have nb0 : 0 ≤ nm * b := Int.mul_nonneg (by omega) (by omega)
    have nb1 : (nm + 1) * b = nm * b + b := by rw [Int.add_mul, Int.one_mul]
    have hl1 := Same.t (same_new (o := .lst []) hfl) hl
    walk_at "g"
    refine for_range (lo := nm * b) (n := ((nm + 1) * b - nm * b).toNat) (fun i σ H' => (∃ y10 y11, σ = [some (.ref a), some (.int pl), some (.int wk), some (.int nm), some (.int (wk * b)), some (.int (d * b + t)), some (.int g), some (.int (wk * b / g)), some (.int bk), some (.ref fl), y10, y11]) ∧ H' = upd H fl (.lst ((fnd b s pl nm g bk (wk * b / g) i).map V.int)))
      ⟨⟨_, _, rfl⟩, rfl⟩ (fun i σ H' hi hW => ?_) (fun σ H' hW => ?_)
    · obtain ⟨⟨y10, y11, rfl⟩, rfl⟩ := hW
      have hl2 := Same.t (same_new (o := .lst ((fnd b s pl nm g bk (wk * b / g) i).map V.int)) hfl) hl
      have fln := fnd_len b s pl nm g bk (wk * b / g) i
      walk_at "g"
      refine ite2 (fun e => ?_) (fun e => ?_)
      · have hc : (nm * b + (i : Int) - s - pl * b) % g = 0 := V.int.inj (of_decide_eq_true e)
        refine ⟨_, rfl, .inl ⟨rfl, _, SqL.of upd_same⟩, ?_⟩
        walk_at "g"
        refine ⟨fl, _, _, rfl, rfl, upd_same, ?_, ⟨_, _, rfl⟩, ?_⟩
        · rw [List.length_map]
          exact sz_small (by omega)
        · rw [upd_upd]
          show upd H fl _ = upd H fl (.lst ((if (nm * b + (i : Int) - s - pl * b) % g = 0 then _ else _ : List Int).map V.int))
          rw [if_pos hc, List.map_append]
          rfl
      · have hc : ¬ (nm * b + (i : Int) - s - pl * b) % g = 0 := fun z => e (decide_eq_true (congrArg V.int z))
        refine ⟨⟨_, _, rfl⟩, ?_⟩
        show upd H fl _ = upd H fl (.lst ((if (nm * b + (i : Int) - s - pl * b) % g = 0 then _ else _ : List Int).map V.int))
        rw [if_neg hc]
    · obtain ⟨⟨y10, y11, rfl⟩, rfl⟩ := hW
      have hN : ((nm + 1) * b - nm * b).toNat = b.toNat := by rw [nb1]; congr 1; omega
      rw [hN]
      refine ⟨_, rfl, fl, _, rfl, SqL.of upd_same, fun ys p1 perm rising new => ?_⟩
      refine ⟨_, rfl, by show 2 ≤ sizeLine; decide, fun p2 h2 => ?_⟩
      refine q ys _ p1 p2 _ (yso_of hk hw.1 hn.1 hn.2 hg.symm rfl hbk perm rising) ((same_new hfl).trans ((same_new new).trans (same_new h2))) nt.lst.lst.tup (same_new h2 _ _ upd_same) upd_same

def sp_first_from (K : PySem.W.Frag) : Sp := fun vs H Q _ => ∃ (a : Addr) (T n : Int) (rs : List Int), vs = [.ref a, .int T, .int n] ∧ SqL K H a (rs.map V.int) ∧ rs.length ≤ 4000 ∧ 1 ≤ T ∧ (∀ r ∈ rs, 0 ≤ r ∧ r < T) ∧ NoT H ∧
  ∀ o, Nxt (fun z => z % T ∈ rs) n o → Q o H
theorem d_first_from (A : All K mg) : Df P w K mg base CX0 "first_from" 1 ["rests", "turn", "number"] (sp_first_from K) := by
  obtain ⟨f, fd, F, hm, hb⟩ := A.t_first_from
  refine ⟨f, fd, Fun.okF F sc_first_from (fun vs H Q E h => ?_) (fun cdv A' outer s H vs Q E hr h => ?_), hm, F.kp, hb⟩
  · obtain ⟨a, T, n, rs, rfl, _⟩ := h; rfl
  · obtain ⟨a, T, n, rs, rfl, hS, hl, hT, hrs, nt, q⟩ := h
    refine ⟨_, (pss_cons (ps_setLc (i := 3) (own := [("rest", 4)]) (g := gName 4) (tt := tYes) (by rfl) sc_first_from.nd rfl rfl (sw_true rfl rfl rfl (by decide +kernel)) (pi_list (pv 0)) (blkOk_by (own := [("rest", 4)]) (N := ["rests", "turn", "number", "some", "rest"]) (sc := defScope s_first_from) (by decide +kernel)) (fun _ _ _ _ _ => (pg_name (i := 4) sc_first_from.nd rfl (Or.inl rfl))) (fun _ _ _ _ _ => pts_nil) (fun _ _ _ _ _ => (pe_op op_add (pv 2) (pe_op op_mod (pe_op op_sub (pv 4) (pv 2)) (pv 1)))))
 (pss_one (ps_ret (pe_ifExp (pt_cmpR (op_neD hr.units) (pv 3) (pe_lst pa_nil) (nomark _)) (pe_callB (cr_min rfl) (by rfl) A.b_min (by decide +kernel) (pa_cons (pv 3) pa_nil)) pe_non)))), ?_⟩
    refine ⟨_, rfl, a, rfl, ⟨_, hS⟩, fun D hD => lc_mapI (f := fun r => n + (r - n) % T) hS hD (by omega) (fun _ => rfl) (fun i r H' _ _ Q' q' => ?_) ?_⟩
    · walk_at "g"
      exact q'
    have s1 := same_new (o := .lst ((rs.map fun r => n + (r - n) % T).map V.int)) hD
    refine ⟨_, rfl, Nat.zero_le _, fun e he => ?_⟩
    refine ne_nil (SqL.of (same_new he _ _ upd_same)) (SqL.of upd_same) ?_
    refine ⟨_, rfl, ite2 (fun c => ?_) (fun c => ?_)⟩
    · have hne : rs ≠ [] := fun z => by subst z; simp at c
      have hlen : 0 < (rs.map fun r => n + (r - n) % T).length := by
        rw [List.length_map]
        exact List.length_pos_iff.mpr hne
      refine ⟨_, rfl, D, _, rfl, SqL.of (same_new he _ _ upd_same), hlen, fun m hm' hle => ?_⟩
      exact fg_same nt (s1.trans (same_new he)) (q _ (.inr ⟨m, rfl, fst_rests hT hrs hm' hle⟩))
    · have hne : rs = [] := by
        cases rs with
        | nil => rfl
        | cons r rs => simp at c
      exact fg_same nt (s1.trans (same_new he)) (q _ (.inl ⟨rfl, fun z hz => by rw [hne] at hz; exact absurd hz (by simp)⟩))

def sp_counted (K : PySem.W.Frag) : Sp := fun vs H Q _ => ∃ (a : Addr) (T n m : Int) (rs : List Int), vs = [.ref a, .int T, .int n, .int m] ∧ SqL K H a (rs.map V.int) ∧ rs.length ≤ 4000 ∧ (1 ≤ T ∧ T < 1000000000) ∧ (∀ r ∈ rs, 0 ≤ r ∧ r < T) ∧ rs.Nodup ∧ n ≤ m ∧ NoT H ∧
  Q (.int (cnt (fun z => decide (z % T ∈ rs)) n (m - n).toNat)) H
theorem d_counted (A : All K mg) : Df P w K mg base CX0 "counted" 1 ["rests", "turn", "first", "last"] (sp_counted K) := by
  obtain ⟨f, fd, F, hm, hb⟩ := A.t_counted
  refine ⟨f, fd, Fun.okF F sc_counted (fun vs H Q E h => ?_) (fun cdv A' outer s H vs Q E hr h => ?_), hm, F.kp, hb⟩
  · obtain ⟨a, T, n, m, rs, rfl, _⟩ := h; rfl
  · obtain ⟨a, T, n, m, rs, rfl, hS, hl, hT, hrs, nd, hnm, nt, q⟩ := h
    refine ⟨_, (pss_one (ps_ret (pe_callB (cr_sum rfl) (by rfl) A.b_sum (by decide +kernel) (pa_cons (pe_lc (own := [("rest", 4)]) (g := gName 4) (tt := tYes) (by rfl) sc_counted.nd (pi_list (pv 0)) (blkOk_by (own := [("rest", 4)]) (N := ["rests", "turn", "first", "last", "rest"]) (sc := defScope s_counted) (by decide +kernel)) (fun _ _ _ _ _ => (pg_name (i := 4) sc_counted.nd rfl (Or.inl rfl))) (fun _ _ _ _ _ => pts_nil) (fun _ _ _ _ _ => (pe_op op_sub (pe_op op_fdiv (pe_op op_sub (pe_op op_sub (pv 3) pe_int) (pv 4)) (pv 1)) (pe_op op_fdiv (pe_op op_sub (pe_op op_sub (pv 2) pe_int) (pv 4)) (pv 1))))) pa_nil)))), ?_⟩
    refine ⟨_, rfl, a, rfl, ⟨_, hS⟩, fun D hD => lc_mapI (f := fun r => (m - 1 - r) / T - (n - 1 - r) / T) hS hD (by omega) (fun _ => rfl) (fun i r H' _ _ Q' q' => ?_) ?_⟩
    · walk_at "g"
      exact q'
    refine ⟨D, _, rfl, SqL.of upd_same, ?_⟩
    refine fg_same nt (same_new hD) ?_
    have e := csum_cnt (a := n) hT.1 hrs nd (n := (m - n).toNat)
    rw [show n + ((m - n).toNat : Int) = m by omega] at e
    unfold csum at e
    rw [e]
    exact q

def sp_next_year (K : PySem.W.Frag) : Sp := fun vs H Q _ => ∃ (a : Addr) (d t b s pl wk nm y : Int), vs = [.ref a, .int pl, .int wk, .int nm, .int y] ∧ Ld K H a d t b s ∧ LandOk d t b s ∧ (0 ≤ pl ∧ pl < d) ∧ (1 ≤ wk ∧ wk ≤ 20) ∧ (0 ≤ nm ∧ nm < wk) ∧ Far y ∧ NoT H ∧
  ∀ o, Nxt (has d t b s pl wk nm) y o → Q o H
theorem d_next_year (A : All K mg) : Df P w K mg base CX0 "next_year" 5 ["land", "place", "week", "name", "year"] (sp_next_year K) := by
  obtain ⟨f, fd, F, hm, hb⟩ := A.t_next_year
  refine ⟨f, fd, Fun.okF F sc_next_year (fun vs H Q E h => ?_) (fun cdv A' outer s H vs Q E hr h => ?_), hm, F.kp, hb⟩
  · obtain ⟨a, d, t, b, s, pl, wk, nm, y, rfl, _⟩ := h; rfl
  · obtain ⟨a, d, t, b, s, pl, wk, nm, y, rfl, hl, hk, hp, hw, hn, hy, nt, q⟩ := h
    refine ⟨_, (pss_cons (ps_expr (pe_callD (d_need_name A) hr (by decide) (by rfl) pass0 (pa_cons (pv 0) (pa_cons (pv 1) (pa_cons (pv 2) (pa_cons (pv 3) pa_nil))))))
 (pss_cons (ps_expr (pe_callD (d_need_year A) hr (by decide) (by rfl) pass0 (pa_cons (pv 4) pa_nil)))
 (pss_cons (ps_asg (pe_callD (d_years_so A) hr (by decide) (by rfl) pass0 (pa_cons (pv 0) (pa_cons (pv 1) (pa_cons (pv 2) (pa_cons (pv 3) pa_nil))))) (pg_tup (by rfl) (pgs_cons (pg_name (i := 5) sc_next_year.nd rfl (Or.inl rfl)) (pgs_cons (pg_name (i := 6) sc_next_year.nd rfl (Or.inl rfl)) pgs_nil))))
 (pss_one (ps_ret (pe_callD (d_first_from A) hr (by decide) (by rfl) pass0 (pa_cons (pv 5) (pa_cons (pv 6) (pa_cons (pv 4) pa_nil))))))))), ?_⟩
    refine ⟨_, rfl, _, rfl, _, rfl, _, rfl, a, d, t, b, s, pl, wk, nm, rfl, hl, hk, hp, hw, hn, ?_⟩
    refine ⟨_, rfl, y, rfl, hy, ?_⟩
    refine ⟨_, rfl, _, rfl, _, rfl, _, rfl, a, d, t, b, s, pl, wk, nm, rfl, hl, hk, hp, hw, hn, nt, fun ys T l p H' Y sH nt' e1 e2 => ?_⟩
    refine ⟨p, _, rfl, SqT.of e2, rfl, _, _, rfl, _, _, rfl, rfl, ?_⟩
    refine ⟨_, rfl, _, rfl, _, rfl, l, T, y, ys, rfl, SqL.of e1, by have := Y.len; omega, Y.tpos, Y.rng, nt', fun o ho => ?_⟩
    refine fg_same nt sH (q o ?_)
    have e : (fun z => z % T ∈ ys) = has d t b s pl wk nm := funext fun z => propext (Y.good z).symm
    rw [← e]
    exact ho

def sp_how_many (K : PySem.W.Frag) : Sp := fun vs H Q _ => ∃ (a : Addr) (d t b s pl wk nm y z : Int), vs = [.ref a, .int pl, .int wk, .int nm, .int y, .int z] ∧ Ld K H a d t b s ∧ LandOk d t b s ∧ (0 ≤ pl ∧ pl < d) ∧ (1 ≤ wk ∧ wk ≤ 20) ∧ (0 ≤ nm ∧ nm < wk) ∧ Far y ∧ Far z ∧ y ≤ z ∧ NoT H ∧
  Q (.int (cnt (fun x => decide (has d t b s pl wk nm x)) y (z - y).toNat)) H
theorem d_how_many (A : All K mg) : Df P w K mg base CX0 "how_many" 5 ["land", "place", "week", "name", "first", "last"] (sp_how_many K) := by
  obtain ⟨f, fd, F, hm, hb⟩ := A.t_how_many
  refine ⟨f, fd, Fun.okF F sc_how_many (fun vs H Q E h => ?_) (fun cdv A' outer s H vs Q E hr h => ?_), hm, F.kp, hb⟩
  · obtain ⟨a, d, t, b, s, pl, wk, nm, y, z, rfl, _⟩ := h; rfl
  · obtain ⟨a, d, t, b, s, pl, wk, nm, y, z, rfl, hl, hk, hp, hw, hn, hy, hz, hyz, nt, q⟩ := h
    refine ⟨_, (pss_cons (ps_expr (pe_callD (d_need_name A) hr (by decide) (by rfl) pass0 (pa_cons (pv 0) (pa_cons (pv 1) (pa_cons (pv 2) (pa_cons (pv 3) pa_nil))))))
 (pss_cons (ps_expr (pe_callD (d_need_year A) hr (by decide) (by rfl) pass0 (pa_cons (pv 4) pa_nil)))
 (pss_cons (ps_if (pt_not (pt_val (pe_callD (d_is_from A) hr (by decide) (by rfl) pass0 (pa_cons (pv 5) (pa_cons (pv 4) (pa_cons (pe_glob (v := .int 1000000000000000000000000000000) (by rfl) A.c_FAR.choose_spec ⟨_, rfl⟩) pa_nil))))))
 (pss_one ps_never)
 pss_nil)
 (pss_cons (ps_asg (pe_callD (d_years_so A) hr (by decide) (by rfl) pass0 (pa_cons (pv 0) (pa_cons (pv 1) (pa_cons (pv 2) (pa_cons (pv 3) pa_nil))))) (pg_tup (by rfl) (pgs_cons (pg_name (i := 6) sc_how_many.nd rfl (Or.inl rfl)) (pgs_cons (pg_name (i := 7) sc_how_many.nd rfl (Or.inl rfl)) pgs_nil))))
 (pss_one (ps_ret (pe_callD (d_counted A) hr (by decide) (by rfl) pass0 (pa_cons (pv 6) (pa_cons (pv 7) (pa_cons (pv 4) (pa_cons (pv 5) pa_nil))))))))))), ?_⟩
    refine ⟨_, rfl, _, rfl, _, rfl, _, rfl, a, d, t, b, s, pl, wk, nm, rfl, hl, hk, hp, hw, hn, ?_⟩
    refine ⟨_, rfl, y, rfl, hy, ?_⟩
    refine ⟨_, rfl, _, rfl, _, _, _, _, rfl, .int z, _, rfl, ?_⟩
    rw [isFrom_yes hyz hz.2]
    refine iteF ?_
    refine ⟨_, rfl, _, rfl, _, rfl, _, rfl, a, d, t, b, s, pl, wk, nm, rfl, hl, hk, hp, hw, hn, nt, fun ys T l p H' Y sH nt' e1 e2 => ?_⟩
    refine ⟨p, _, rfl, SqT.of e2, rfl, _, _, rfl, _, _, rfl, rfl, ?_⟩
    have T2 : T ≤ 1200 := by
      rw [Y.teq]
      have hbb := hk.b
      have wb : 1 * 1 ≤ wk * b := Int.mul_le_mul hw.1 hbb.1 (by decide) (by omega)
      have wb2 : wk * b ≤ 20 * 60 := Int.mul_le_mul hw.2 hbb.2 (by omega) (by omega)
      have hst := step_pos hk
      exact (ediv_abs (gcdI_pos (by omega)) (B := 1200) (by omega) (by omega) (by omega)).2
    refine ⟨_, rfl, _, rfl, _, rfl, _, rfl, l, T, y, z, ys, rfl, SqL.of e1, by have := Y.len; omega, ⟨Y.tpos, by omega⟩, Y.rng, Y.inc.imp (fun h => by omega), hyz, nt', ?_⟩
    refine fg_same nt sH ?_
    rw [cnt_congr (q := fun x => decide (has d t b s pl wk nm x)) fun x _ _ => decide_eq_decide.mpr (Y.good x).symm]
    exact q

def sp_lengths (K : PySem.W.Frag) : Sp := fun vs H Q _ => ∃ (a : Addr) (d t b s pl wk nm : Int), vs = [.ref a, .int pl, .int wk, .int nm] ∧ Ld K H a d t b s ∧ LandOk d t b s ∧ (0 ≤ pl ∧ pl < d) ∧ (1 ≤ wk ∧ wk ≤ 20) ∧ (0 ≤ nm ∧ nm < wk) ∧ NoT H ∧
  ∀ (L : List Int) p H', L.Pairwise (· < ·) → (∀ g, g ∈ L ↔ Gap (has d t b s pl wk nm) g) → H p = none → Same H H' → NoT H' → H' p = some (.tup (L.map V.int)) → Q (.ref p) H'
theorem d_lengths (A : All K mg) : Df P w K mg base CX0 "lengths" 5 ["land", "place", "week", "name"] (sp_lengths K) := by
  obtain ⟨f, fd, F, hm, hb⟩ := A.t_lengths
  refine ⟨f, fd, F.ok sc_lengths (fun vs H Q E h => ?_) (fun cdv A' outer s H vs Q E hr h => ?_), hm, F.kp, hb⟩
  · obtain ⟨a, d, t, b, s, pl, wk, nm, rfl, _⟩ := h; rfl
  · obtain ⟨a, d, t, b, s, pl, wk, nm, rfl, hl, hk, hp, hw, hn, nt, q⟩ := h
    refine ⟨_, (pss_cons (ps_expr (pe_callD (d_need_name A) hr (by decide) (by rfl) pass0 (pa_cons (pv 0) (pa_cons (pv 1) (pa_cons (pv 2) (pa_cons (pv 3) pa_nil))))))
 (pss_cons (ps_asg (pe_callD (d_years_so A) hr (by decide) (by rfl) pass0 (pa_cons (pv 0) (pa_cons (pv 1) (pa_cons (pv 2) (pa_cons (pv 3) pa_nil))))) (pg_tup (by rfl) (pgs_cons (pg_name (i := 4) sc_lengths.nd rfl (Or.inl rfl)) (pgs_cons (pg_name (i := 5) sc_lengths.nd rfl (Or.inr rfl)) pgs_nil))))
 (pss_cons (ps_set (i := 6) sc_lengths.nd rfl (Or.inl rfl) (pe_op op_catS (pv 4) (pe_lc (own := [("rest", 7)]) (g := gName 7) (tt := tYes) (by rfl) sc_lengths.nd (pi_list (pe_slice sl_list (pv 4) po_none (po_some pe_int))) (blkOk_by (own := [("rest", 7)]) (N := ["land", "place", "week", "name", "rests", "turn", "round_so", "rest", "one", "other"]) (sc := defScope s_lengths) (by decide +kernel)) (fun _ _ _ _ _ => (pg_name (i := 7) sc_lengths.nd rfl (Or.inl rfl))) (fun _ _ _ _ _ => pts_nil) (fun _ _ _ _ _ => (pe_op op_add (pv 7) (pv 5))))))
 (pss_one (ps_ret (pe_callTy call_tuple_of (by rfl) A.b_tuple (by decide +kernel) (pa_cons (pe_callB (cr_sortedSet rfl) (by rfl) A.b_sorted (by decide +kernel) (pa_cons (pe_callTy (cr_setOf rfl) (by rfl) A.b_set (by decide +kernel) (pa_cons (pe_lc (own := [("one", 8), ("other", 9)]) (g := gTup K 2 (gCons (gName 8) (gCons (gName 9) gNil))) (tt := tYes) (by rfl) sc_lengths.nd (pi_zip (by rfl) A.b_zip (pa_cons (pv 6) (pa_cons (pe_slice sl_list (pv 6) (po_some pe_int) po_none) pa_nil))) (blkOk_by (own := [("one", 8), ("other", 9)]) (N := ["land", "place", "week", "name", "rests", "turn", "round_so", "rest", "one", "other"]) (sc := defScope s_lengths) (by decide +kernel)) (fun _ _ _ _ _ => (pg_tup (by rfl) (pgs_cons (pg_name (i := 8) sc_lengths.nd rfl (Or.inl rfl)) (pgs_cons (pg_name (i := 9) sc_lengths.nd rfl (Or.inl rfl)) pgs_nil)))) (fun _ _ _ _ _ => pts_nil) (fun _ _ _ _ _ => (pe_op op_sub (pv 9) (pv 8)))) pa_nil)) pa_nil)) pa_nil))))))), ?_⟩
    refine ⟨_, rfl, _, rfl, _, rfl, _, rfl, a, d, t, b, s, pl, wk, nm, rfl, hl, hk, hp, hw, hn, ?_⟩
    refine ⟨_, rfl, _, rfl, _, rfl, _, rfl, a, d, t, b, s, pl, wk, nm, rfl, hl, hk, hp, hw, hn, nt, fun ys T l p H1 Y s1 nt1 e1 e2 => ?_⟩
    have yl := Y.len
    refine ⟨p, _, rfl, SqT.of e2, rfl, _, _, rfl, _, _, rfl, rfl, ?_⟩
    -- rests[:1]
    refine ⟨_, rfl, _, rfl, 1, rfl, l, _, rfl, SqL.of e1, fun p2 h2 => ?_⟩
    have hc : cutV (ys.map V.int) none (some 1) = (ys.take 1).map V.int := cut_to (k := 1)
    rw [hc]
    have s2 : Same H (upd H1 p2 (.lst ((ys.take 1).map V.int))) := s1.trans (same_new h2)
    have e3 := same_new (o := .lst ((ys.take 1).map V.int)) h2 _ _ e1
    have nt2 := nt1.lst (p := p2) (xs := (ys.take 1).map V.int)
    refine ⟨p2, rfl, ⟨_, SqL.of upd_same⟩, fun D hD => lc_mapI (f := fun r => r + T) (SqL.of upd_same) hD (by rw [List.length_take]; omega) (fun _ => rfl) (fun i r H' _ _ Q' q' => ?_) ?_⟩
    · walk_at "g"
      exact q'
    generalize upd H1 p2 (.lst ((ys.take 1).map V.int)) = H2 at s2 e3 nt2 hD ⊢
    refine ⟨l, D, _, _, rfl, rfl, SqL.of (same_new hD _ _ e3), SqL.of upd_same, ?_, fun p4 h4 => ?_⟩
    · rw [List.length_map, List.length_map, List.length_map, List.length_take]
      exact Nat.le_of_lt (sz_small (by omega))
    have e5 : ys.map V.int ++ ((ys.take 1).map fun r => r + T).map V.int = (rnd T ys).map V.int := by unfold rnd; rw [List.map_append]
    rw [e5]
    have s4 := s2.trans ((same_new (o := .lst (((ys.take 1).map fun r => r + T).map V.int)) hD).trans (same_new (o := .lst ((rnd T ys).map V.int)) h4))
    have nt4 := (nt2.lst (p := D) (xs := ((ys.take 1).map fun r => r + T).map V.int)).lst (p := p4) (xs := (rnd T ys).map V.int)
    have e6 : upd (upd H2 D (.lst (((ys.take 1).map fun r => r + T).map V.int))) p4 (.lst ((rnd T ys).map V.int)) p4 = some (.lst ((rnd T ys).map V.int)) := upd_same
    generalize upd (upd H2 D (.lst (((ys.take 1).map fun r => r + T).map V.int))) p4 (.lst ((rnd T ys).map V.int)) = H4 at s4 nt4 e6 ⊢
    have rl := rnd_len (T := T) (zs := ys)
    -- zip
    refine ⟨_, rfl, _, rfl, 1, rfl, p4, _, rfl, SqL.of e6, fun p5 h5 => ?_⟩
    have hc2 : cutV ((rnd T ys).map V.int) (some 1) none = ((rnd T ys).drop 1).map V.int := cut_from (k := 1)
    rw [hc2]
    refine ⟨p4, p5, _, _, rfl, SqL.of (same_new h5 _ _ e6), SqL.of upd_same, fun D2 hD2 => ?_⟩
    refine lc_zipI (f := fun a b => b - a) (SqL.of (same_new h5 _ _ e6)) (SqL.of upd_same) hD2 nt4.lst (by omega) (fun _ _ => rfl) (fun n m H' _ Q' q' => ?_) (fun H5 s5 nt5 e7 => ?_)
    · walk_at "g"
      exact q'
    have e8 : List.zipWith (fun a b => b - a) (rnd T ys) ((rnd T ys).drop 1) = difs (rnd T ys) := by unfold difs; rw [List.drop_one]
    rw [e8] at e7
    have dl := difs_len (rnd T ys)
    have s5' := s4.trans ((same_new (o := .lst (((rnd T ys).drop 1).map V.int)) h5).trans s5)
    -- set, sorted, tuple
    refine ⟨D2, difs (rnd T ys), rfl, SqL.of e7, by omega, fun p6 c h6 hc6 => ?_⟩
    refine ⟨p6, _, _, rfl, upd_same, by omega, fun L p7 hL hm' _ h7 => ?_⟩
    refine ⟨p7, _, rfl, .inl ⟨SqL.of upd_same, fun p8 h8 => ?_⟩⟩
    have fr : H p8 = none := L2.Same.free (s5'.trans ((same_new h6).trans (same_new h7))) h8
    refine q L p8 _ hL (fun g => ?_) fr (s5'.trans ((same_new h6).trans ((same_new h7).trans (same_new h8)))) ((nt5.upd rfl).lst.tup) upd_same
    rw [hm', ← (rnd_of Y).gap, decide_eq_true_iff]

def sp_barring (K : PySem.W.Frag) : Sp := fun vs H Q _ => ∃ (a : Addr) (d t b s pl wk nm : Int), vs = [.ref a, .int pl, .int wk, .int nm] ∧ Ld K H a d t b s ∧ LandOk d t b s ∧ (0 ≤ pl ∧ pl < d) ∧ (1 ≤ wk ∧ wk ≤ 20) ∧ (0 ≤ nm ∧ nm < wk) ∧ NoT H ∧
  ∀ o : V, ((o = .non ∧ ∃ z, has d t b s pl wk nm z) ∨ (o = .int (gcdI (d * b + t) (wk * b)) ∧ ∀ z, ¬ has d t b s pl wk nm z)) → Q o H
theorem d_barring (A : All K mg) : Df P w K mg base CX0 "barring" 5 ["land", "place", "week", "name"] (sp_barring K) := by
  obtain ⟨f, fd, F, hm, hb⟩ := A.t_barring
  refine ⟨f, fd, Fun.okF F sc_barring (fun vs H Q E h => ?_) (fun cdv A' outer s H vs Q E hr h => ?_), hm, F.kp, hb⟩
  · obtain ⟨a, d, t, b, s, pl, wk, nm, rfl, _⟩ := h; rfl
  · obtain ⟨a, d, t, b, s, pl, wk, nm, rfl, hl, hk, hp, hw, hn, nt, q⟩ := h
    have hbb := hk.b
    have hst := step_pos hk
    have wb : 1 * 1 ≤ wk * b := Int.mul_le_mul hw.1 hbb.1 (by decide) (by omega)
    refine ⟨_, (pss_cons (ps_expr (pe_callD (d_need_name A) hr (by decide) (by rfl) pass0 (pa_cons (pv 0) (pa_cons (pv 1) (pa_cons (pv 2) (pa_cons (pv 3) pa_nil))))))
 (pss_cons (ps_if (pt_cmpR (op_neD hr.units) (pe_ix ix_tup (pe_callD (d_years_so A) hr (by decide) (by rfl) pass0 (pa_cons (pv 0) (pa_cons (pv 1) (pa_cons (pv 2) (pa_cons (pv 3) pa_nil))))) pe_int (fun _ _ => rfl)) (pe_lst pa_nil) (nomark _))
 (pss_one (ps_ret pe_non))
 pss_nil)
 (pss_one (ps_ret (pe_callD (d_measure A) hr (by decide) (by rfl) pass0 (pa_cons (pe_callD (d_step_of A) hr (by decide) (by rfl) pass0 (pa_cons (pv 0) pa_nil)) (pa_cons (pe_op op_mul (pv 2) (pe_ix ix_tup (pv 0) pe_int (fun _ _ => rfl))) pa_nil))))))), ?_⟩
    refine ⟨_, rfl, _, rfl, _, rfl, _, rfl, a, d, t, b, s, pl, wk, nm, rfl, hl, hk, hp, hw, hn, ?_⟩
    refine ⟨_, rfl, _, rfl, _, rfl, _, rfl, a, d, t, b, s, pl, wk, nm, rfl, hl, hk, hp, hw, hn, nt, fun ys T l p H' Y sH nt' e1 e2 => ?_⟩
    refine ⟨p, _, 0, _, rfl, rfl, SqT.of e2, (by rfl), Nat.zero_le _, fun e he => ?_⟩
    refine ne_nil (SqL.of (same_new he _ _ e1)) (SqL.of upd_same) ⟨_, rfl, ite2 (fun c => ?_) (fun c => ?_)⟩
    · have hne : ys ≠ [] := fun z => by subst z; simp at c
      refine fg_same nt (sH.trans (same_new he)) (q _ (.inl ⟨rfl, ?_⟩))
      cases ys with
      | nil => exact absurd rfl hne
      | cons y r =>
        have r1 := Y.rng y (List.mem_cons_self ..)
        exact ⟨y, (Y.good y).mpr (by rw [Int.emod_eq_of_lt r1.1 r1.2]; exact List.mem_cons_self ..)⟩
    · have hne : ys = [] := by
        cases ys with
        | nil => rfl
        | cons r rs => simp at c
      have hl2 := Same.t (sH.trans (same_new (o := .lst []) he)) hl
      refine ⟨_, rfl, a, d, t, b, s, rfl, hl2, hk, ?_⟩
      walk_at "g"
      refine ⟨by omega, by omega, ?_⟩
      refine fg_same nt (sH.trans (same_new he)) (q _ (.inr ⟨rfl, fun z hz => ?_⟩))
      have := (Y.good z).mp hz
      rw [hne] at this
      exact absurd this (by simp)

def sp_bars (K : PySem.W.Frag) : Sp := fun vs H Q _ => ∃ (a : Addr) (d t b s pl wk nm : Int) (x : V) (n : String), vs = [.ref a, .int pl, .int wk, .int nm, x] ∧ Ld K H a d t b s ∧ LandOk d t b s ∧ (0 ≤ pl ∧ pl < d) ∧ (1 ≤ wk ∧ wk ≤ 20) ∧ (0 ≤ nm ∧ nm < wk) ∧ Kn K H x n ∧ NoT H ∧
  ∀ r : Bool, (r = true ↔ Bar d t b s pl wk nm x) → Q (.bl r) H
theorem d_bars (A : All K mg) : Df P w K mg base CX0 "bars" 5 ["land", "place", "week", "name", "thing"] (sp_bars K) := by
  obtain ⟨f, fd, F, hm, hb⟩ := A.t_bars
  refine ⟨f, fd, Fun.okF F sc_bars (fun vs H Q E h => ?_) (fun cdv A' outer s H vs Q E hr h => ?_), hm, F.kp, hb⟩
  · obtain ⟨a, d, t, b, s, pl, wk, nm, x, n, rfl, _⟩ := h; rfl
  · obtain ⟨a, d, t, b, s, pl, wk, nm, x, n, rfl, hl, hk, hp, hw, hn, hx, nt, q⟩ := h
    have hbb := hk.b
    have hdd := hk.d
    have hss := hk.s
    have hst := step_pos hk
    have wb : 1 * 1 ≤ wk * b := Int.mul_le_mul hw.1 hbb.1 (by decide) (by omega)
    have g1 : 1 ≤ gcdI (d * b + t) (wk * b) := gcdI_pos (by omega)
    have gS := gcdI_dvd_l (a := d * b + t) (b := wk * b) (by omega)
    have gW := gcdI_dvd_r (a := d * b + t) (b := wk * b) (by omega)
    refine ⟨_, (pss_cons (ps_expr (pe_callD (d_need_name A) hr (by decide) (by rfl) pass0 (pa_cons (pv 0) (pa_cons (pv 1) (pa_cons (pv 2) (pa_cons (pv 3) pa_nil))))))
 (pss_cons (ps_set (i := 5) sc_bars.nd rfl (Or.inl rfl) (pe_callD (d_measure A) hr (by decide) (by rfl) pass0 (pa_cons (pe_callD (d_step_of A) hr (by decide) (by rfl) pass0 (pa_cons (pv 0) pa_nil)) (pa_cons (pe_op op_mul (pv 2) (pe_ix ix_tup (pv 0) pe_int (fun _ _ => rfl))) pa_nil))))
 (pss_cons (ps_if (PW.pt (pw_or (pt_not (pt_val (pe_callD (d_is_from A) hr (by decide) (by rfl) pass0 (pa_cons (pv 4) (pa_cons pe_int (pa_cons (pv 5) pa_nil)))))) (pw_or1 (pt_cmpR op_ne (pe_op op_mod (pv 5) (pv 4)) pe_int (nomark _)))))
 (pss_one (ps_ret pe_bl))
 pss_nil)
 (pss_cons (ps_set (i := 6) sc_bars.nd rfl (Or.inr rfl) (pe_op op_mod (pe_op op_add (pe_ix ix_tup (pv 0) pe_int (fun _ _ => rfl)) (pe_op op_mul (pv 1) (pe_ix ix_tup (pv 0) pe_int (fun _ _ => rfl)))) (pv 4)))
 (pss_one (ps_ret (pe_callB (cr_all rfl) (by rfl) A.b_all (by decide +kernel) (pa_cons (pe_lc (own := [("one", 7)]) (g := gName 7) (tt := tYes) (by rfl) sc_bars.nd (pi_rgW2 (by rfl) A.b_range (pa_cons (pe_op op_mul (pv 3) (pe_ix ix_tup (pv 0) pe_int (fun _ _ => rfl))) (pa_cons (pe_op op_mul (pe_op op_add (pv 3) pe_int) (pe_ix ix_tup (pv 0) pe_int (fun _ _ => rfl))) pa_nil))) (blkOk_by (own := [("one", 7)]) (N := ["land", "place", "week", "name", "thing", "common", "rest", "one"]) (sc := defScope s_bars) (by decide +kernel)) (fun _ _ _ _ _ => (pg_name (i := 7) sc_bars.nd rfl (Or.inl rfl))) (fun _ _ _ _ _ => pts_nil) (fun _ _ _ _ _ => (pe_cmpR op_ne (pe_op op_mod (pv 7) (pv 4)) (pv 6) (nomark _)))) pa_nil)))))))), ?_⟩
    refine ⟨_, rfl, _, rfl, _, rfl, _, rfl, a, d, t, b, s, pl, wk, nm, rfl, hl, hk, hp, hw, hn, ?_⟩
    refine ⟨_, rfl, a, d, t, b, s, rfl, hl, hk, ?_⟩
    walk_at "g"
    refine ⟨by omega, by omega, ?_⟩
    have dg : ∀ i, 1 ≤ i → i ∣ d * b + t → i ∣ wk * b → i ∣ gcdI (d * b + t) (wk * b) := fun i h0 h1 h2 => dvd_gcdI (by omega) (by omega) (by omega) h1 h2
    generalize gcdI (d * b + t) (wk * b) = g at g1 gS gW dg ⊢
    refine ⟨_, rfl, _, rfl, _, _, _, _, rfl, hx, _, rfl, ?_⟩
    refine ite2 (fun c => ?_) (fun c => ?_)
    · refine fg_same nt (Same.refl _) (q false ⟨fun z => absurd z (by decide), ?_⟩)
      rintro ⟨i, rfl, B⟩
      exfalso
      have hle := Int.le_of_dvd (by omega) (dg i B.1 B.2.1 B.2.2.1)
      rw [isFrom_yes B.1 hle] at c
      exact absurd c (by decide)
    · have hc : isFrom x 1 g = true := by
        cases z : isFrom x 1 g with
        | true => rfl
        | false => rw [z] at c; exact absurd rfl c
      cases hx with
      | int i =>
        rw [isFrom_int, Bool.and_eq_true, decide_eq_true_iff, decide_eq_true_iff] at hc
        walk_at "g"
        refine ite2 (fun c2 => ?_) (fun c2 => ?_)
        · refine fg_same nt (Same.refl _) (q false ⟨fun z => absurd z (by decide), ?_⟩)
          rintro ⟨i', e, B⟩
          cases e
          exfalso
          have h1 := (Int.dvd_iff_emod_eq_zero ..).mp (dg i B.1 B.2.1 B.2.2.1)
          replace c2 : (!decide (V.int (g % i) = V.int 0)) = true := c2
          rw [h1] at c2
          exact absurd c2 (by decide)
        · have hz : g % i = 0 := by
            by_cases z : g % i = 0
            · exact z
            · exfalso
              refine c2 ?_
              rw [decide_eq_false (fun e => z (V.int.inj e))]; rfl
          have hdv : i ∣ g := (Int.dvd_iff_emod_eq_zero ..).mpr hz
          have nb0 : 0 ≤ nm * b := Int.mul_nonneg (by omega) (by omega)
          walk_at "g"
          intro D hD
          have e1 : ((nm + 1) * b - nm * b).toNat = b.toNat := by rw [Int.add_mul, Int.one_mul]; congr 1; omega
          rw [e1]
          refine lc_rgV (f := fun k => .bl (!decide (V.int ((nm * b + (k : Int)) % i) = V.int ((s + pl * b) % i)))) hD (by omega) (fun _ => rfl) (fun k H' hk' sH _ Q' q' => ?_) ?_
          · walk_at "g"
            exact q'
          · refine ⟨D, (List.range b.toNat).map fun k : Nat => !decide (V.int ((nm * b + (k : Int)) % i) = V.int ((s + pl * b) % i)), rfl, SqL.of ?_, ?_⟩
            · rw [List.map_map]; exact upd_same
            · refine fg_same nt (same_new hD) (q _ ?_)
              rw [Ly.all_range]
              constructor
              · intro hall
                refine ⟨i, rfl, hc.1, Int.dvd_trans hdv gS, Int.dvd_trans hdv gW, fun j j0 j1 ej => ?_⟩
                have := hall j.toNat (by omega)
                rw [show ((j.toNat : Nat) : Int) = j by omega, ej] at this
                simp at this
              · rintro ⟨i', e, B⟩ k hk'
                cases e
                have := B.2.2.2 k (by omega) (by omega)
                rw [decide_eq_false (fun e => this (V.int.inj e))]; rfl
      | non => exact absurd (show false = true from hc) (by decide)
      | bl _ => exact absurd (show false = true from hc) (by decide)
      | str _ => exact absurd (show false = true from hc) (by decide)
      | lst _ => exact absurd (show false = true from hc) (by decide)
      | tup _ => exact absurd (show false = true from hc) (by decide)

def sp_need_placed (K : PySem.W.Frag) : Sp := fun vs H Q _ => ∃ (a a2 : Addr) (d t b s pl d2 t2 b2 s2 pl2 : Int), vs = [.ref a, .int pl, .ref a2, .int pl2] ∧ Ld K H a d t b s ∧ LandOk d t b s ∧ (0 ≤ pl ∧ pl < d) ∧ Ld K H a2 d2 t2 b2 s2 ∧ LandOk d2 t2 b2 s2 ∧ (0 ≤ pl2 ∧ pl2 < d2) ∧ Q .non H
theorem d_need_placed (A : All K mg) : Df P w K mg base CX0 "need_placed" 4 ["one", "place_one", "other", "place_other"] (sp_need_placed K) := by
  obtain ⟨f, fd, F, hm, hb⟩ := A.t_need_placed
  refine ⟨f, fd, F.ok sc_need_placed (fun vs H Q E h => ?_) (fun cdv A' outer s H vs Q E hr h => ?_), hm, F.kp, hb⟩
  · obtain ⟨a, a2, d, t, b, s, pl, d2, t2, b2, s2, pl2, rfl, _⟩ := h; rfl
  · obtain ⟨a, a2, d, t, b, s, pl, d2, t2, b2, s2, pl2, rfl, hl, hk, hp, hl2, hk2, hp2, q⟩ := h
    refine ⟨_, (pss_cons (ps_expr (pe_callD (d_need_land A) hr (by decide) (by rfl) pass0 (pa_cons (pv 0) pa_nil)))
 (pss_cons (ps_if (pt_not (pt_val (pe_callD (d_is_from A) hr (by decide) (by rfl) pass0 (pa_cons (pv 1) (pa_cons pe_int (pa_cons (pe_op op_sub (pe_ix ix_tup (pv 0) pe_int (fun _ _ => rfl)) pe_int) pa_nil))))))
 (pss_one ps_never)
 pss_nil)
 (pss_cons (ps_expr (pe_callD (d_need_land A) hr (by decide) (by rfl) pass0 (pa_cons (pv 2) pa_nil)))
 (pss_one (ps_if (pt_not (pt_val (pe_callD (d_is_from A) hr (by decide) (by rfl) pass0 (pa_cons (pv 3) (pa_cons pe_int (pa_cons (pe_op op_sub (pe_ix ix_tup (pv 2) pe_int (fun _ _ => rfl)) pe_int) pa_nil))))))
 (pss_one ps_never)
 pss_nil))))), ?_⟩
    refine ⟨_, rfl, a, d, t, b, s, rfl, hl, hk, ?_⟩
    refine ⟨_, rfl, _, rfl, _, _, _, _, rfl, rfl, hl, (by rfl), _, _, rfl, rfl, _, _, _, _, rfl, .int pl, _, rfl, ?_⟩
    rw [isFrom_yes (by omega) (by omega)]
    refine iteF ?_
    refine ⟨_, rfl, a2, d2, t2, b2, s2, rfl, hl2, hk2, ?_⟩
    refine ⟨_, rfl, _, rfl, _, _, _, _, rfl, rfl, hl2, (by rfl), _, _, rfl, rfl, _, _, _, _, rfl, .int pl2, _, rfl, ?_⟩
    rw [isFrom_yes (by omega) (by omega)]
    exact iteF q

def sp_days_so (K : PySem.W.Frag) : Sp := fun vs H Q _ => ∃ (a : Addr) (d t b s pl : Int), vs = [.ref a, .int pl] ∧ Ld K H a d t b s ∧ LandOk d t b s ∧ ∀ p, H p = none → Q (.ref p) (upd H p (.lst ((dso d t b s pl).map V.int)))
theorem d_days_so (A : All K mg) : Df P w K mg base CX0 "days_so" 3 ["land", "place"] (sp_days_so K) := by
  obtain ⟨f, fd, F, hm, hb⟩ := A.t_days_so
  refine ⟨f, fd, F.ok sc_days_so (fun vs H Q E h => ?_) (fun cdv A' outer s H vs Q E hr h => ?_), hm, F.kp, hb⟩
  · obtain ⟨a, d, t, b, s, pl, rfl, _⟩ := h; rfl
  · obtain ⟨a, d, t, b, s, pl, rfl, hl, hk, q⟩ := h
    have hbb := hk.b
    have hst := step_pos hk
    refine ⟨_, (pss_one (ps_ret (pe_lc (own := [("year", 2)]) (g := gName 2) (tt := tYes) (by rfl) sc_days_so.nd (pi_rgW1 (by rfl) A.b_range (pa_cons (pe_ix ix_tup (pv 0) pe_int (fun _ _ => rfl)) pa_nil)) (blkOk_by (own := [("year", 2)]) (N := ["land", "place", "year"]) (sc := defScope s_days_so) (by decide +kernel)) (fun _ _ _ _ _ => (pg_name (i := 2) sc_days_so.nd rfl (Or.inl rfl))) (fun _ _ _ _ _ => pts_nil) (fun _ _ _ _ _ => (pe_op op_mod (pe_op op_add (pe_callD (d_first_day A) hr (by decide) (by rfl) pass0 (pa_cons (pv 0) (pa_cons (pv 2) pa_nil))) (pv 1)) (pe_callD (d_step_of A) hr (by decide) (by rfl) pass0 (pa_cons (pv 0) pa_nil))))))), ?_⟩
    refine ⟨_, rfl, _, _, _, _, rfl, rfl, hl, (by rfl), _, rfl, fun D hD => lc_rgV (f := fun k => .int ((fday d t b s (k : Int) + pl) % (d * b + t))) hD (by omega) (fun _ => rfl) (fun i H' hi sH _ Q' q' => ?_) ?_⟩
    · refine ⟨_, rfl, _, rfl, a, d, t, b, s, _, rfl, Same.t sH hl, hk, _, rfl, _, _, rfl, rfl, _, rfl, a, d, t, b, s, rfl, Same.t sH hl, hk, _, _, rfl, rfl, ?_, ?_⟩
      · show (0 : Int) < d * b + t; omega
      · rw [show (0 : Int) + (i : Int) = i by omega]
        exact q'
    · have e : (List.range b.toNat).map (fun k : Nat => V.int ((fday d t b s (k : Int) + pl) % (d * b + t))) = (dso d t b s pl).map V.int := by unfold dso; rw [List.map_map]; rfl
      rw [e]
      exact q D hD

def sp_common_days (K : PySem.W.Frag) : Sp := fun vs H Q _ => ∃ (a a2 : Addr) (d t b s pl d2 t2 b2 s2 pl2 : Int), vs = [.ref a, .int pl, .ref a2, .int pl2] ∧ Ld K H a d t b s ∧ LandOk d t b s ∧ (0 ≤ pl ∧ pl < d) ∧ Ld K H a2 d2 t2 b2 s2 ∧ LandOk d2 t2 b2 s2 ∧ (0 ≤ pl2 ∧ pl2 < d2) ∧ NoT H ∧
  ∀ rs T l p H', Cmn d t b s pl d2 t2 b2 s2 pl2 rs T → Same H H' → NoT H' → H' l = some (.lst (rs.map V.int)) → H' p = some (.tup [.ref l, .int T]) → Q (.ref p) H'
theorem d_common_days (A : All K mg) : Df P w K mg base CX0 "common_days" 4 ["one", "place_one", "other", "place_other"] (sp_common_days K) := by
  obtain ⟨f, fd, F, hm, hb⟩ := A.t_common_days
  refine ⟨f, fd, F.ok sc_common_days (fun vs H Q E h => ?_) (fun cdv A' outer s H vs Q E hr h => ?_), hm, F.kp, hb⟩
  · obtain ⟨a, a2, d, t, b, s, pl, d2, t2, b2, s2, pl2, rfl, _⟩ := h; rfl
  · obtain ⟨a, a2, d, t, b, s, pl, d2, t2, b2, s2, pl2, rfl, hl, hk, hp, hl2, hk2, hp2, nt, q⟩ := h
    have hbb := hk.b
    have hst := step_pos hk
    have hbb2 := hk2.b
    have hst2 := step_pos hk2
    have rU := dso_rng (pl := pl) hk
    have rV := dso_rng (pl := pl2) hk2
    have lU := dso_len (d := d) (t := t) (b := b) (s := s) (pl := pl)
    have lV := dso_len (d := d2) (t := t2) (b := b2) (s := s2) (pl := pl2)
    have CM := fun {g bk turn : Int} (e1 : g = gcdI (d * b + t) (d2 * b2 + t2)) (e2 : turn = (d2 * b2 + t2) / g) (e3 : turn ∣ (d * b + t) / g * bk - 1) => cmn_of (pl := pl) (pl2 := pl2) hk hk2 e1 e2 e3
    have g1 : 1 ≤ gcdI (d * b + t) (d2 * b2 + t2) := gcdI_pos (by omega)
    have gS := gcdI_dvd_l (a := d * b + t) (b := d2 * b2 + t2) (by omega)
    have gW := gcdI_dvd_r (a := d * b + t) (b := d2 * b2 + t2) (by omega)
    have g2 := Int.le_of_dvd (by omega) gS
    have gd := gcdI_div (a := d * b + t) (b := d2 * b2 + t2) (by omega) (by omega)
    refine ⟨_, (pss_cons (ps_par (i := 4) (j := 5) (by rfl) sc_common_days.nd rfl rfl (by decide) rfl rfl (pa_cons (pe_callD (d_step_of A) hr (by decide) (by rfl) pass0 (pa_cons (pv 0) pa_nil)) (pa_cons (pe_callD (d_step_of A) hr (by decide) (by rfl) pass0 (pa_cons (pv 2) pa_nil)) pa_nil)) (by rfl))
 (pss_cons (ps_set (i := 6) sc_common_days.nd rfl (Or.inl rfl) (pe_callD (d_measure A) hr (by decide) (by rfl) pass0 (pa_cons (pv 4) (pa_cons (pv 5) pa_nil))))
 (pss_cons (ps_set (i := 7) sc_common_days.nd rfl (Or.inl rfl) pe_dnewK)
 (pss_cons (ps_for PassesOwn.never (by rfl) (pi_list (pe_callD (d_days_so A) hr (by decide) (by rfl) pass0 (pa_cons (pv 2) (pa_cons (pv 3) pa_nil)))) (pg_name (i := 8) sc_common_days.nd rfl (Or.inl rfl))
 (pss_one (ps_dput (hu_of hr) (pv 7) (pe_op op_mod (pv 8) (pv 6)) (pe_op op_catS (pe_dget2 (hu_of hr) (pv 7) (pe_op op_mod (pv 8) (pv 6)) (pe_lst pa_nil) ⟨rfl, rfl, rfl, rfl⟩) (pe_lst (pa_cons (pv 8) pa_nil))) rfl)))
 (pss_cons (ps_set (i := 9) sc_common_days.nd rfl (Or.inl rfl) (pe_op op_fdiv (pv 5) (pv 6)))
 (pss_cons (ps_set (i := 10) sc_common_days.nd rfl (Or.inl rfl) (pe_callD (d_back_of A) hr (by decide) (by rfl) pass0 (pa_cons (pe_op op_fdiv (pv 4) (pv 6)) (pa_cons (pv 9) pa_nil))))
 (pss_cons (ps_set (i := 11) sc_common_days.nd rfl (Or.inl rfl) (pe_lst pa_nil))
 (pss_cons (ps_for PassesOwn.never (by rfl) (pi_list (pe_callD (d_days_so A) hr (by decide) (by rfl) pass0 (pa_cons (pv 0) (pa_cons (pv 1) pa_nil)))) (pg_name (i := 8) sc_common_days.nd rfl (Or.inl rfl))
 (pss_one (ps_for PassesOwn.never (by rfl) (pi_list (pe_dget2 (hu_of hr) (pv 7) (pe_op op_mod (pv 8) (pv 6)) (pe_lst pa_nil) ⟨rfl, rfl, rfl, rfl⟩)) (pg_name (i := 12) sc_common_days.nd rfl (Or.inl rfl))
 (pss_one (ps_expr (pe_bm PySem.F.plainAttrs_list PySem.F.slot_list_append PySem.F.type_list_append mt_append (pv 11) (pa_cons (pe_op op_add (pv 8) (pe_op op_mul (pv 4) (pe_op op_mod (pe_op op_mul (pe_op op_fdiv (pe_op op_sub (pv 12) (pv 8)) (pv 6)) (pv 10)) (pv 9)))) pa_nil)))))))
 (pss_one (ps_ret (pe_tup (pa_cons (pv 11) (pa_cons (pe_op op_mul (pv 4) (pv 9)) pa_nil))))))))))))), ?_⟩
    refine sq_par (fun v v2 H' => v = .int (d * b + t) ∧ v2 = .int (d2 * b2 + t2) ∧ H = H') (fun Q' k => ⟨_, rfl, a, d, t, b, s, rfl, hl, hk, _, rfl, a2, d2, t2, b2, s2, rfl, hl2, hk2, k _ _ _ ⟨rfl, rfl, rfl⟩⟩) ?_
    rintro _ _ _ ⟨rfl, rfl, rfl⟩
    refine sq_set (fun v H' => v = .int (gcdI (d * b + t) (d2 * b2 + t2)) ∧ H = H') (fun Q' k => ⟨_, rfl, _, rfl, _, _, rfl, by omega, by omega, k _ _ ⟨rfl, rfl⟩⟩) ?_
    rintro _ _ ⟨rfl, rfl⟩
    generalize hg : gcdI (d * b + t) (d2 * b2 + t2) = g at g1 g2 gS gW gd ⊢
    refine sq_set (fun v H' => ∃ D, v = .ref D ∧ H D = none ∧ upd H D (.dK []) = H') (fun Q' k => fun D hD => k _ _ ⟨D, rfl, hD, rfl⟩) ?_
    rintro _ _ ⟨D, rfl, hD, rfl⟩
    -- by_rest
    refine sq_st (fun σ' H' => (∃ y8 y9 y10 y11 y12, σ' = [some (.ref a), some (.int pl), some (.ref a2), some (.int pl2), some (.int (d * b + t)), some (.int (d2 * b2 + t2)), some (.int g), some (.ref D), y8, y9, y10, y11, y12]) ∧ ∃ kvs : List (Key × V), H' D = some (.dK kvs) ∧ Same H H' ∧ NoT H' ∧ ∀ r : Int, (valV kvs (Sum.inl r) = none ∧ (dso d2 t2 b2 s2 pl2).filter (fun v => decide (v % g = r)) = []) ∨ ∃ l, valV kvs (Sum.inl r) = some (.ref l) ∧ H' l = some (.lst (((dso d2 t2 b2 s2 pl2).filter (fun v => decide (v % g = r))).map V.int))) (fun D' k => ?_) ?_
    · refine ⟨_, rfl, _, rfl, a2, d2, t2, b2, s2, pl2, rfl, Same.t (same_new hD) hl2, hk2, fun p1 h1 => ?_⟩
      generalize dso d2 t2 b2 s2 pl2 = vs at lV rV k ⊢
      have vl : vs.length ≤ 60 := by omega
      refine ⟨p1, rfl, ⟨_, SqL.of upd_same⟩, for_list (xs := vs.map V.int) (fun i σ' H' => (∃ y8 y9 y10 y11 y12, σ' = [some (.ref a), some (.int pl), some (.ref a2), some (.int pl2), some (.int (d * b + t)), some (.int (d2 * b2 + t2)), some (.int g), some (.ref D), y8, y9, y10, y11, y12]) ∧ H' p1 = some (.lst (vs.map V.int)) ∧ ∃ kvs : List (Key × V), H' D = some (.dK kvs) ∧ kvs.length ≤ i ∧ Same H H' ∧ NoT H' ∧ ∀ r : Int, (valV kvs (Sum.inl r) = none ∧ (vs.take i).filter (fun v => decide (v % g = r)) = []) ∨ ∃ l, valV kvs (Sum.inl r) = some (.ref l) ∧ H' l = some (.lst (((vs.take i).filter (fun v => decide (v % g = r))).map V.int)))
        ⟨⟨_, _, _, _, _, rfl⟩, upd_same, [], same_new h1 _ _ upd_same, Nat.le_refl _, (same_new hD).trans (same_new h1), (nt.dK).lst, fun r => .inl ⟨rfl, rfl⟩⟩ (fun i σ H' _ p => SqL.of p.2.1) (fun i x σ H' hx hW => ?_) (fun σ H' hW => ?_)⟩
      · obtain ⟨⟨y8, y9, y10, y11, y12, rfl⟩, hp1, kvs, hDk, hkl, sH, nH, hv⟩ := hW
        rw [List.getElem?_map] at hx
        cases qx : vs[i]? with
        | none => rw [qx] at hx; cases hx
        | some v =>
          rw [qx] at hx
          cases hx
          have hil := (List.getElem?_eq_some_iff.mp qx).1
          have e1 : ∀ r : Int, (vs.take (i + 1)).filter (fun v => decide (v % g = r)) = if v % g = r then (vs.take i).filter (fun v => decide (v % g = r)) ++ [v] else (vs.take i).filter (fun v => decide (v % g = r)) := fun r => by
            rw [List.take_succ, qx, List.filter_append]
            by_cases c : v % g = r <;> simp [c]
          have hp1D : p1 ≠ D := fun z => by rw [z, hDk] at hp1; cases hp1
          refine ⟨_, rfl, D, rfl, .inl ⟨kvs, .inl hDk⟩, _, rfl, _, rfl, _, _, rfl, rfl, (by show (0 : Int) < g; omega), Nat.zero_le _, fun e he => ?_⟩
          refine ⟨_, DGet.k (k := Sum.inl (v % g)) (same_new he _ _ hDk), ?_⟩
          -- the list so far
          obtain ⟨l0, ys, el0, hl0, hys⟩ : ∃ (l0 : Addr) (ys : List Int), ((valV kvs (Sum.inl (v % g))).getD (.ref e)) = .ref l0 ∧ upd H' e (.lst []) l0 = some (.lst (ys.map V.int)) ∧ ys = (vs.take i).filter (fun u => decide (u % g = v % g)) := by
            rcases hv (v % g) with ⟨h1, h2⟩ | ⟨l, h1, h2⟩
            · exact ⟨e, [], by rw [h1]; rfl, upd_same, h2.symm⟩
            · exact ⟨l, _, by rw [h1]; rfl, same_new he _ _ h2, rfl⟩
          rw [el0]
          have yl : ys.length ≤ 60 := by
            rw [hys]
            exact Nat.le_trans (List.length_filter_le ..) (by rw [List.length_take]; omega)
          refine ⟨_, rfl, by show 1 ≤ sizeLine; decide, fun p2 h2 => ?_⟩
          refine ⟨l0, p2, _, _, rfl, rfl, SqL.of (same_new h2 _ _ hl0), SqL.of upd_same, ?_, fun p3 h3 => ?_⟩
          · rw [List.length_map]
            exact Nat.le_of_lt (sz_small (by show ys.length + 1 < 100000; omega))
          have S3 : Same H' (upd (upd (upd H' e (.lst [])) p2 (.lst [.int v])) p3 (.lst (ys.map V.int ++ [.int v]))) := (same_new he).trans ((same_new h2).trans (same_new h3))
          refine ⟨_, rfl, _, rfl, _, rfl, _, _, rfl, rfl, (by show (0 : Int) < g; omega), ?_⟩
          refine ⟨D, _, rfl, DPut.k (k := Sum.inl (v % g)) (S3 _ _ hDk) (sz_small (by omega)), ?_⟩
          have hp3D : p3 ≠ D := fun z => by
            rw [z] at h3
            rw [((same_new he).trans (same_new h2)) _ _ hDk] at h3; cases h3
          refine ⟨⟨_, _, _, _, _, rfl⟩, by rw [upd_ne hp1D]; exact S3 _ _ hp1, _, upd_same, Nat.le_trans (putK_len ..) (by omega), ?_, ?_, fun r => ?_⟩
          · intro c o ec
            have nc : c ≠ D := fun z => by rw [z, hD] at ec; cases ec
            rw [upd_ne nc]
            exact S3 _ _ (sH _ _ ec)
          · exact (((nH.lst).lst).lst).dK
          · rw [valV_put, e1 r]
            by_cases c : v % g = r
            · subst c
              rw [if_pos rfl, if_pos rfl]
              refine .inr ⟨p3, rfl, ?_⟩
              rw [upd_ne hp3D, upd_same, List.map_append, ← hys]
              rfl
            · rw [if_neg (fun z => c (Sum.inl.inj z).symm), if_neg c]
              rcases hv r with h4 | ⟨l, h4, h5⟩
              · exact .inl h4
              · refine .inr ⟨l, h4, ?_⟩
                have nl : l ≠ D := fun z => by rw [z, hDk] at h5; cases h5
                rw [upd_ne nl]
                exact S3 _ _ h5
      · obtain ⟨⟨y8, y9, y10, y11, y12, rfl⟩, hp1, kvs, hDk, hkl, sH, nH, hv⟩ := hW
        refine k _ _ ⟨⟨_, _, _, _, _, rfl⟩, kvs, hDk, sH, nH, fun r => ?_⟩
        have := hv r
        rw [List.length_map, List.take_of_length_le (Nat.le_refl _)] at this
        exact this
    rintro _ H1 ⟨⟨y8, y9, y10, y11, y12, rfl⟩, kvs, hDk, s1, nt1, hv⟩
    -- turn, back
    have T1 : 1 ≤ (d2 * b2 + t2) / g := by
      have e := Int.mul_ediv_cancel' gW
      rcases Int.lt_or_le ((d2 * b2 + t2) / g) 1 with z | z
      · have : g * ((d2 * b2 + t2) / g) ≤ g * 0 := Int.mul_le_mul_of_nonneg_left (by omega) (by omega)
        omega
      · exact z
    have T2 : (d2 * b2 + t2) / g ≤ 24060 := (ediv_abs (x := d2 * b2 + t2) (k := g) g1 (B := 24060) (by omega) (by omega) (by omega)).2
    have S0 : 0 ≤ (d * b + t) / g := Int.ediv_nonneg (by omega) (by omega)
    refine sq_set (fun v H' => v = .int ((d2 * b2 + t2) / g) ∧ H1 = H') (fun Q' k => ⟨_, rfl, _, rfl, _, _, rfl, rfl, ⟨by omega, by omega⟩, k _ _ ⟨rfl, rfl⟩⟩) ?_
    rintro _ _ ⟨rfl, rfl⟩
    refine sq_set (fun v H' => ∃ bk, v = .int bk ∧ 0 ≤ bk ∧ bk < (d2 * b2 + t2) / g ∧ (d2 * b2 + t2) / g ∣ (d * b + t) / g * bk - 1 ∧ H1 = H') (fun Q' k => ⟨_, rfl, _, rfl, _, _, rfl, rfl, ⟨by omega, by omega⟩, _, rfl, _, _, rfl, nt1, T1, by omega, S0, gd, fun r r0 r1 hr' => k _ _ ⟨r, rfl, r0, r1, hr', rfl⟩⟩) ?_
    rintro _ _ ⟨bk, rfl, k0, k1, hbk, rfl⟩
    have C := CM hg.symm rfl hbk
    generalize hturn : (d2 * b2 + t2) / g = turn at T1 T2 k0 k1 hbk C ⊢
    refine sq_set (fun v H' => ∃ fl, v = .ref fl ∧ H1 fl = none ∧ upd H1 fl (.lst []) = H') (fun Q' k => ⟨Nat.zero_le _, fun fl hfl => k _ _ ⟨fl, rfl, hfl, rfl⟩⟩) ?_
    rintro _ _ ⟨fl, rfl, hfl, rfl⟩
    have hDfl : D ≠ fl := ne_of_none hDk hfl
    generalize hW2 : d2 * b2 + t2 = W at hst2 C ⊢
    have clen := C.len
    -- found
    refine sq_st (fun σ' H' => (∃ y8 y12, σ' = [some (.ref a), some (.int pl), some (.ref a2), some (.int pl2), some (.int (d * b + t)), some (.int W), some (.int g), some (.ref D), y8, some (.int turn), some (.int bk), some (.ref fl), y12]) ∧ Same H1 H' ∧ NoT H' ∧ H' fl = some (.lst ((cfnd (d * b + t) g bk turn (dso d t b s pl) (dso d2 t2 b2 s2 pl2)).map V.int))) (fun D' k => ?_) ?_
    · refine ⟨_, rfl, _, rfl, a, d, t, b, s, pl, rfl, Same.t (s1.trans (same_new hfl)) hl, hk, fun p1 h1 => ?_⟩
      generalize dso d t b s pl = us at lU rU k C ⊢
      have ul : us.length ≤ 60 := by omega
      generalize dso d2 t2 b2 s2 pl2 = vs at lV rV k hv C ⊢
      have vl : vs.length ≤ 60 := by omega
      generalize hSS : d * b + t = S at hst k ⊢
      have hne1 : p1 ≠ fl := fun z => by rw [z, upd_same] at h1; cases h1
      -- the invariant of both loops: what stands but fl
      let I : List Int → Hp → Prop := fun xs H' => H' fl = some (.lst (xs.map V.int)) ∧ (∀ c o, c ≠ fl → upd (upd H1 fl (.lst [])) p1 (.lst (us.map V.int)) c = some o → H' c = some o) ∧ NoT H'
      refine ⟨p1, rfl, ⟨_, SqL.of upd_same⟩, for_list (xs := us.map V.int) (fun i σ' H' => (∃ y8 y12, σ' = [some (.ref a), some (.int pl), some (.ref a2), some (.int pl2), some (.int S), some (.int W), some (.int g), some (.ref D), y8, some (.int turn), some (.int bk), some (.ref fl), y12]) ∧ I (cfnd S g bk turn (us.take i) vs) H')
        ⟨⟨_, _, rfl⟩, by rw [upd_ne (Ne.symm hne1)]; exact upd_same, fun c o _ e => e, (nt1.lst).lst⟩ (fun i σ H' _ p => SqL.of (p.2.2.1 p1 _ hne1 upd_same)) (fun i x σ H' hx hW => ?_) (fun σ H' hW => ?_)⟩
      · obtain ⟨⟨y8, y12, rfl⟩, i1, i2, i3⟩ := hW
        rw [List.getElem?_map] at hx
        cases qx : us[i]? with
        | none => rw [qx] at hx; cases hx
        | some u =>
          rw [qx] at hx
          cases hx
          have hu := rU u (List.mem_of_getElem? qx)
          have hil := (List.getElem?_eq_some_iff.mp qx).1
          have hD2 : H' D = some (.dK kvs) := i2 D _ hDfl (same_new h1 _ _ (by rw [upd_ne hDfl]; exact hDk))
          have ecf : cfnd S g bk turn (us.take (i + 1)) vs = cfnd S g bk turn (us.take i) vs ++ (vs.filter fun v => decide (v % g = u % g)).map (sol S g bk turn u) := by
            unfold cfnd
            rw [List.take_succ, qx, List.flatMap_append]
            simp
          have ecl : (cfnd S g bk turn (us.take i) vs).length ≤ 3600 := by
            refine Nat.le_trans (flat_len (m := 60) fun u _ => ?_) (by rw [List.length_take]; omega)
            rw [List.length_map]
            exact Nat.le_trans (List.length_filter_le ..) vl
          refine ⟨_, rfl, D, rfl, .inl ⟨kvs, .inl hD2⟩, _, rfl, _, rfl, _, _, rfl, rfl, (by show (0 : Int) < g; omega), Nat.zero_le _, fun e he => ?_⟩
          refine ⟨_, DGet.k (k := Sum.inl (u % g)) (same_new he _ _ hD2), ?_⟩
          have hefl : e ≠ fl := fun z => by rw [z, i1] at he; cases he
          obtain ⟨l0, el0, hl0, hl0f⟩ : ∃ l0 : Addr, ((valV kvs (Sum.inl (u % g))).getD (.ref e)) = .ref l0 ∧ upd H' e (.lst []) l0 = some (.lst ((vs.filter fun v => decide (v % g = u % g)).map V.int)) ∧ l0 ≠ fl := by
            rcases hv (u % g) with ⟨h3, h4⟩ | ⟨l, h3, h4⟩
            · exact ⟨e, by rw [h3]; rfl, by rw [h4]; exact upd_same, hefl⟩
            · have nl : l ≠ fl := ne_of_none h4 hfl
              exact ⟨l, by rw [h3]; rfl, same_new he _ _ (i2 l _ nl (same_new h1 _ _ (by rw [upd_ne nl]; exact h4))), nl⟩
          rw [el0]
          generalize hfs : vs.filter (fun v => decide (v % g = u % g)) = fs at hl0 ecf
          have fsl : fs.length ≤ 60 := by rw [← hfs]; exact Nat.le_trans (List.length_filter_le ..) vl
          have fsr : ∀ v ∈ fs, 0 ≤ v ∧ v < 24061 := fun v hv' => by
            rw [← hfs] at hv'
            have := rV v (List.mem_filter.mp hv').1
            omega
          refine ⟨l0, rfl, ⟨_, SqL.of hl0⟩, for_list (xs := fs.map V.int) (fun j σ' H'' => (∃ y12, σ' = [some (.ref a), some (.int pl), some (.ref a2), some (.int pl2), some (.int S), some (.int W), some (.int g), some (.ref D), some (.int u), some (.int turn), some (.int bk), some (.ref fl), y12]) ∧ I (cfnd S g bk turn (us.take i) vs ++ (fs.take j).map (sol S g bk turn u)) H'' ∧ H'' l0 = some (.lst (fs.map V.int)))
            ⟨⟨_, rfl⟩, ⟨by rw [upd_ne (Ne.symm hefl), i1]; simp, fun c o nc ec => same_new he _ _ (i2 c o nc ec), i3.lst⟩, hl0⟩ (fun j σ H'' _ p => SqL.of p.2.2) (fun j x σ H'' hx' hW => ?_) (fun σ H'' hW => ?_)⟩
          · obtain ⟨⟨y12, rfl⟩, ⟨j1, j2, j3⟩, j4⟩ := hW
            rw [List.getElem?_map] at hx'
            cases qv : fs[j]? with
            | none => rw [qv] at hx'; cases hx'
            | some v =>
              rw [qv] at hx'
              cases hx'
              have hv' := fsr v (List.mem_of_getElem? qv)
              have b1 : -24061 ≤ (v - u) / g ∧ (v - u) / g ≤ 24061 := ediv_abs g1 (by omega) (by omega) (by omega)
              refine ⟨_, rfl, .inl ⟨rfl, _, SqL.of j1⟩, ?_⟩
              refine ⟨_, rfl, _, rfl, _, rfl, _, rfl, _, _, rfl, rfl, _, rfl, _, _, rfl, rfl, ⟨by omega, by omega⟩, _, rfl, _, _, rfl, rfl, Or.inl ⟨by omega, by omega⟩, _, rfl, _, _, rfl, rfl, (by show (0 : Int) < turn; omega), ?_⟩
              refine ⟨_, _, rfl, rfl, Or.inl ⟨by omega, by omega⟩, _, _, rfl, rfl, ?_⟩
              refine ⟨fl, _, _, rfl, rfl, j1, ?_, ⟨_, rfl⟩, ⟨?_, fun c o nc ec => by rw [upd_ne nc]; exact j2 c o nc ec, j3.lst⟩, by rw [upd_ne hl0f]; exact j4⟩
              · rw [List.length_map, List.length_append, List.length_map, List.length_take]
                exact sz_small (by omega)
              · rw [upd_same, List.take_succ, qv]
                simp only [List.map_append, List.append_assoc]
                rfl
          · obtain ⟨⟨y12, rfl⟩, ⟨j1, j2, j3⟩, j4⟩ := hW
            rw [List.length_map, List.take_of_length_le (Nat.le_refl _), ← ecf] at j1
            exact ⟨⟨_, _, rfl⟩, j1, j2, j3⟩
      · obtain ⟨⟨y8, y12, rfl⟩, i1, i2, i3⟩ := hW
        rw [List.length_map, List.take_of_length_le (Nat.le_refl _)] at i1
        refine k _ _ ⟨⟨_, _, rfl⟩, fun c o ec => ?_, i3, i1⟩
        have nc : c ≠ fl := ne_of_none ec hfl
        exact i2 c o nc (same_new h1 _ _ (by rw [upd_ne nc]; exact ec))
    rintro _ H2 ⟨⟨y8, y12, rfl⟩, s2, nt2, e2⟩
    refine ⟨_, rfl, _, rfl, _, rfl, _, _, rfl, rfl, Or.inl ⟨by omega, by omega⟩, by show 2 ≤ sizeLine; decide, fun p hp' => ?_⟩
    exact q _ _ fl p _ C (s1.trans (s2.trans (same_new hp'))) nt2.tup (same_new hp' _ _ e2) upd_same

def sp_next_day (K : PySem.W.Frag) : Sp := fun vs H Q _ => ∃ (a a2 : Addr) (d t b s pl d2 t2 b2 s2 pl2 n : Int), vs = [.ref a, .int pl, .ref a2, .int pl2, .int n] ∧ Ld K H a d t b s ∧ LandOk d t b s ∧ (0 ≤ pl ∧ pl < d) ∧ Ld K H a2 d2 t2 b2 s2 ∧ LandOk d2 t2 b2 s2 ∧ (0 ≤ pl2 ∧ pl2 < d2) ∧ Far n ∧ NoT H ∧
  ∀ o, Nxt (Both d t b s pl d2 t2 b2 s2 pl2) n o → Q o H
theorem d_next_day (A : All K mg) : Df P w K mg base CX0 "next_day" 5 ["one", "place_one", "other", "place_other", "day"] (sp_next_day K) := by
  obtain ⟨f, fd, F, hm, hb⟩ := A.t_next_day
  refine ⟨f, fd, Fun.okF F sc_next_day (fun vs H Q E h => ?_) (fun cdv A' outer s H vs Q E hr h => ?_), hm, F.kp, hb⟩
  · obtain ⟨a, a2, d, t, b, s, pl, d2, t2, b2, s2, pl2, n, rfl, _⟩ := h; rfl
  · obtain ⟨a, a2, d, t, b, s, pl, d2, t2, b2, s2, pl2, n, rfl, hl, hk, hp, hl2, hk2, hp2, hn, nt, q⟩ := h
    refine ⟨_, (pss_cons (ps_expr (pe_callD (d_need_placed A) hr (by decide) (by rfl) pass0 (pa_cons (pv 0) (pa_cons (pv 1) (pa_cons (pv 2) (pa_cons (pv 3) pa_nil))))))
 (pss_cons (ps_expr (pe_callD (d_need_day A) hr (by decide) (by rfl) pass0 (pa_cons (pv 4) pa_nil)))
 (pss_cons (ps_asg (pe_callD (d_common_days A) hr (by decide) (by rfl) pass0 (pa_cons (pv 0) (pa_cons (pv 1) (pa_cons (pv 2) (pa_cons (pv 3) pa_nil))))) (pg_tup (by rfl) (pgs_cons (pg_name (i := 5) sc_next_day.nd rfl (Or.inl rfl)) (pgs_cons (pg_name (i := 6) sc_next_day.nd rfl (Or.inl rfl)) pgs_nil))))
 (pss_one (ps_ret (pe_callD (d_first_from A) hr (by decide) (by rfl) pass0 (pa_cons (pv 5) (pa_cons (pv 6) (pa_cons (pv 4) pa_nil))))))))), ?_⟩
    refine ⟨_, rfl, _, rfl, _, rfl, _, rfl, a, a2, d, t, b, s, pl, d2, t2, b2, s2, pl2, rfl, hl, hk, hp, hl2, hk2, hp2, ?_⟩
    refine ⟨_, rfl, n, rfl, hn, ?_⟩
    refine ⟨_, rfl, _, rfl, _, rfl, _, rfl, a, a2, d, t, b, s, pl, d2, t2, b2, s2, pl2, rfl, hl, hk, hp, hl2, hk2, hp2, nt, fun rs T l p H' C sH nt' e1 e2 => ?_⟩
    refine ⟨p, _, rfl, SqT.of e2, rfl, _, _, rfl, _, _, rfl, rfl, ?_⟩
    refine ⟨_, rfl, _, rfl, _, rfl, l, T, n, rs, rfl, SqL.of e1, by have := C.len; omega, C.tpos.1, C.rng, nt', fun o ho => ?_⟩
    refine fg_same nt sH (q o ?_)
    have e : (fun z => z % T ∈ rs) = Both d t b s pl d2 t2 b2 s2 pl2 := funext fun z => propext (C.good z).symm
    rw [← e]
    exact ho

def sp_days (K : PySem.W.Frag) : Sp := fun vs H Q _ => ∃ (a a2 : Addr) (d t b s pl d2 t2 b2 s2 pl2 n m : Int), vs = [.ref a, .int pl, .ref a2, .int pl2, .int n, .int m] ∧ Ld K H a d t b s ∧ LandOk d t b s ∧ (0 ≤ pl ∧ pl < d) ∧ Ld K H a2 d2 t2 b2 s2 ∧ LandOk d2 t2 b2 s2 ∧ (0 ≤ pl2 ∧ pl2 < d2) ∧ Far n ∧ Far m ∧ n ≤ m ∧ NoT H ∧
  Q (.int (cnt (bothB d t b s pl d2 t2 b2 s2 pl2) n (m - n).toNat)) H
theorem d_days (A : All K mg) : Df P w K mg base CX0 "days" 5 ["one", "place_one", "other", "place_other", "first", "last"] (sp_days K) := by
  obtain ⟨f, fd, F, hm, hb⟩ := A.t_days
  refine ⟨f, fd, Fun.okF F sc_days (fun vs H Q E h => ?_) (fun cdv A' outer s H vs Q E hr h => ?_), hm, F.kp, hb⟩
  · obtain ⟨a, a2, d, t, b, s, pl, d2, t2, b2, s2, pl2, n, m, rfl, _⟩ := h; rfl
  · obtain ⟨a, a2, d, t, b, s, pl, d2, t2, b2, s2, pl2, n, m, rfl, hl, hk, hp, hl2, hk2, hp2, hn, hm', hnm, nt, q⟩ := h
    refine ⟨_, (pss_cons (ps_expr (pe_callD (d_need_placed A) hr (by decide) (by rfl) pass0 (pa_cons (pv 0) (pa_cons (pv 1) (pa_cons (pv 2) (pa_cons (pv 3) pa_nil))))))
 (pss_cons (ps_expr (pe_callD (d_need_day A) hr (by decide) (by rfl) pass0 (pa_cons (pv 4) pa_nil)))
 (pss_cons (ps_if (pt_not (pt_val (pe_callD (d_is_from A) hr (by decide) (by rfl) pass0 (pa_cons (pv 5) (pa_cons (pv 4) (pa_cons (pe_glob (v := .int 1000000000000000000000000000000) (by rfl) A.c_FAR.choose_spec ⟨_, rfl⟩) pa_nil))))))
 (pss_one ps_never)
 pss_nil)
 (pss_cons (ps_asg (pe_callD (d_common_days A) hr (by decide) (by rfl) pass0 (pa_cons (pv 0) (pa_cons (pv 1) (pa_cons (pv 2) (pa_cons (pv 3) pa_nil))))) (pg_tup (by rfl) (pgs_cons (pg_name (i := 6) sc_days.nd rfl (Or.inl rfl)) (pgs_cons (pg_name (i := 7) sc_days.nd rfl (Or.inl rfl)) pgs_nil))))
 (pss_one (ps_ret (pe_callD (d_counted A) hr (by decide) (by rfl) pass0 (pa_cons (pv 6) (pa_cons (pv 7) (pa_cons (pv 4) (pa_cons (pv 5) pa_nil))))))))))), ?_⟩
    refine ⟨_, rfl, _, rfl, _, rfl, _, rfl, a, a2, d, t, b, s, pl, d2, t2, b2, s2, pl2, rfl, hl, hk, hp, hl2, hk2, hp2, ?_⟩
    refine ⟨_, rfl, n, rfl, hn, ?_⟩
    refine ⟨_, rfl, _, rfl, _, _, _, _, rfl, .int m, _, rfl, ?_⟩
    rw [isFrom_yes hnm hm'.2]
    refine iteF ?_
    refine ⟨_, rfl, _, rfl, _, rfl, _, rfl, a, a2, d, t, b, s, pl, d2, t2, b2, s2, pl2, rfl, hl, hk, hp, hl2, hk2, hp2, nt, fun rs T l p H' C sH nt' e1 e2 => ?_⟩
    refine ⟨p, _, rfl, SqT.of e2, rfl, _, _, rfl, _, _, rfl, rfl, ?_⟩
    refine ⟨_, rfl, _, rfl, _, rfl, _, rfl, l, T, n, m, rs, rfl, SqL.of e1, by have := C.len; omega, C.tpos, C.rng, C.nodup, hnm, nt', ?_⟩
    refine fg_same nt sH ?_
    rw [cnt_congr (q := bothB d t b s pl d2 t2 b2 s2 pl2) fun x _ _ => by rw [Bool.eq_iff_iff, bothB_iff, decide_eq_true_iff]; exact (C.good x).symm]
    exact q

def sp_are_parted (K : PySem.W.Frag) : Sp := fun vs H Q _ => ∃ (a a2 : Addr) (d t b s pl d2 t2 b2 s2 pl2 n : Int), vs = [.ref a, .int pl, .ref a2, .int pl2, .int n] ∧ Ld K H a d t b s ∧ LandOk d t b s ∧ Ld K H a2 d2 t2 b2 s2 ∧ LandOk d2 t2 b2 s2 ∧ 1 ≤ n ∧ n ∣ d * b + t ∧ n ∣ d2 * b2 + t2 ∧ NoT H ∧
  ∀ r : Bool, (r = true ↔ PrtI d t b s pl d2 t2 b2 s2 pl2 n) → Q (.bl r) H
theorem d_are_parted (A : All K mg) : Df P w K mg base CX0 "are_parted" 4 ["one", "place_one", "other", "place_other", "number"] (sp_are_parted K) := by
  obtain ⟨f, fd, F, hm, hb⟩ := A.t_are_parted
  refine ⟨f, fd, Fun.okF F sc_are_parted (fun vs H Q E h => ?_) (fun cdv A' outer s H vs Q E hr h => ?_), hm, F.kp, hb⟩
  · obtain ⟨a, a2, d, t, b, s, pl, d2, t2, b2, s2, pl2, n, rfl, _⟩ := h; rfl
  · obtain ⟨a, a2, d, t, b, s, pl, d2, t2, b2, s2, pl2, n, rfl, hl, hk, hl2, hk2, hn, hd1, hd2, nt, q⟩ := h
    have hbb := hk.b
    have hbb2 := hk2.b
    have lU := dso_len (d := d) (t := t) (b := b) (s := s) (pl := pl)
    have lV := dso_len (d := d2) (t := t2) (b := b2) (s := s2) (pl := pl2)
    have pd := prt_dso (s := s) (pl := pl) (s2 := s2) (pl2 := pl2) hd1 hd2
    refine ⟨_, (pss_cons (ps_set (i := 5) sc_are_parted.nd rfl (Or.inr rfl) (pe_dc (own := [("day", 6)]) (g := gName 6) (tt := tYes) (by rfl) sc_are_parted.nd (pi_list (pe_callD (d_days_so A) hr (by decide) (by rfl) pass0 (pa_cons (pv 0) (pa_cons (pv 1) pa_nil)))) (blkOk_by (own := [("day", 6)]) (N := ["one", "place_one", "other", "place_other", "number", "left", "day"]) (sc := defScope s_are_parted) (by decide +kernel)) (fun _ _ _ _ _ => (pg_name (i := 6) sc_are_parted.nd rfl (Or.inl rfl))) (fun _ _ _ _ _ => pts_nil) (fun _ _ _ _ _ => (pe_op op_mod (pv 6) (pv 4))) (fun _ _ _ _ _ => pe_bl)))
 (pss_one (ps_ret (pe_not (pe_callB (cr_any rfl) (by rfl) A.b_any (by decide +kernel) (pa_cons (pe_lc (own := [("day", 6)]) (g := gName 6) (tt := tYes) (by rfl) sc_are_parted.nd (pi_list (pe_callD (d_days_so A) hr (by decide) (by rfl) pass0 (pa_cons (pv 2) (pa_cons (pv 3) pa_nil)))) (blkOk_by (own := [("day", 6)]) (N := ["one", "place_one", "other", "place_other", "number", "left", "day"]) (sc := defScope s_are_parted) (by decide +kernel)) (fun _ _ _ _ _ => (pg_name (i := 6) sc_are_parted.nd rfl (Or.inl rfl))) (fun _ _ _ _ _ => pts_nil) (fun _ _ _ _ _ => (pe_cmp (pc_din (hu_of hr) (pe_op op_mod (pv 6) (pv 4)) (pv 5)) rfl))) pa_nil)))))), ?_⟩
    refine ⟨_, rfl, _, rfl, a, d, t, b, s, pl, rfl, hl, hk, fun p1 h1 => ?_⟩
    refine ⟨p1, rfl, ⟨_, SqL.of upd_same⟩, fun D hD => dc_ints (f := fun x => x % n) (SqL.of upd_same) hD (by omega) (fun _ => rfl) (fun i x H' _ _ Q' q' => ?_) (fun kvs hkv => ?_)⟩
    · exact ⟨_, rfl, _, rfl, _, _, rfl, rfl, (by show (0 : Int) < n; omega), q'⟩
    have s2' : Same H (upd (upd H p1 (.lst ((dso d t b s pl).map V.int))) D (.dK kvs)) := (same_new h1).trans (same_new hD)
    refine ⟨_, rfl, _, rfl, a2, d2, t2, b2, s2, pl2, rfl, Same.t s2' hl2, hk2, fun p2 h2 => ?_⟩
    have hD2 := same_new (o := .lst ((dso d2 t2 b2 s2 pl2).map V.int)) h2 _ _ (upd_same (H := upd H p1 (.lst ((dso d t b s pl).map V.int))) (a := D) (o := .dK kvs))
    refine ⟨p2, rfl, ⟨_, SqL.of upd_same⟩, fun D3 hD3 => lc_mapV (f := fun x => .bl (decide (x % n ∈ (dso d t b s pl).map fun x => x % n))) (SqL.of upd_same) hD3 (by omega) (fun _ => rfl) (fun i x H' _ sH Q' q' => ?_) ?_⟩
    · refine ⟨_, rfl, _, rfl, _, _, rfl, rfl, (by show (0 : Int) < n; omega), _, rfl, D, _, rfl, DGet.k (k := Sum.inl (x % n)) (sH _ _ hD2), ?_⟩
      rw [hkv]
      exact q'
    refine ⟨D3, (dso d2 t2 b2 s2 pl2).map fun x => decide (x % n ∈ (dso d t b s pl).map fun x => x % n), rfl, SqL.of ?_, _, rfl, ?_⟩
    · rw [List.map_map]; exact upd_same
    refine fg_same nt (s2'.trans ((same_new h2).trans (same_new hD3))) (q _ ?_)
    rw [pd, Bool.not_eq_true', List.any_eq_false]
    constructor
    · intro h u hu v hv e
      exact h true (List.mem_map.mpr ⟨v, hv, decide_eq_true (List.mem_map.mpr ⟨u, hu, e⟩)⟩) rfl
    · intro h x hx
      obtain ⟨v, hv, rfl⟩ := List.mem_map.mp hx
      intro z
      obtain ⟨u, hu, e⟩ := List.mem_map.mp (of_decide_eq_true z)
      exact h u hu v hv e

def sp_parting (K : PySem.W.Frag) : Sp := fun vs H Q _ => ∃ (a a2 : Addr) (d t b s pl d2 t2 b2 s2 pl2 : Int), vs = [.ref a, .int pl, .ref a2, .int pl2] ∧ Ld K H a d t b s ∧ LandOk d t b s ∧ (0 ≤ pl ∧ pl < d) ∧ Ld K H a2 d2 t2 b2 s2 ∧ LandOk d2 t2 b2 s2 ∧ (0 ≤ pl2 ∧ pl2 < d2) ∧ NoT H ∧
  ∀ o : V, ((o = .non ∧ ∃ z, Both d t b s pl d2 t2 b2 s2 pl2 z) ∨ (o = .int (gcdI (d * b + t) (d2 * b2 + t2)) ∧ ∀ z, ¬ Both d t b s pl d2 t2 b2 s2 pl2 z)) → Q o H
theorem d_parting (A : All K mg) : Df P w K mg base CX0 "parting" 5 ["one", "place_one", "other", "place_other"] (sp_parting K) := by
  obtain ⟨f, fd, F, hm, hb⟩ := A.t_parting
  refine ⟨f, fd, F.ok sc_parting (fun vs H Q E h => ?_) (fun cdv A' outer s H vs Q E hr h => ?_), hm, F.kp, hb⟩
  · obtain ⟨a, a2, d, t, b, s, pl, d2, t2, b2, s2, pl2, rfl, _⟩ := h; rfl
  · obtain ⟨a, a2, d, t, b, s, pl, d2, t2, b2, s2, pl2, rfl, hl, hk, hp, hl2, hk2, hp2, nt, q⟩ := h
    have hst := step_pos hk
    have hst2 := step_pos hk2
    refine ⟨_, (pss_cons (ps_expr (pe_callD (d_need_placed A) hr (by decide) (by rfl) pass0 (pa_cons (pv 0) (pa_cons (pv 1) (pa_cons (pv 2) (pa_cons (pv 3) pa_nil))))))
 (pss_cons (ps_set (i := 4) sc_parting.nd rfl (Or.inl rfl) (pe_callD (d_measure A) hr (by decide) (by rfl) pass0 (pa_cons (pe_callD (d_step_of A) hr (by decide) (by rfl) pass0 (pa_cons (pv 0) pa_nil)) (pa_cons (pe_callD (d_step_of A) hr (by decide) (by rfl) pass0 (pa_cons (pv 2) pa_nil)) pa_nil))))
 (pss_one (ps_ret (pe_ifExp (pt_val (pe_callD (d_are_parted A) hr (by decide) (by rfl) pass0 (pa_cons (pv 0) (pa_cons (pv 1) (pa_cons (pv 2) (pa_cons (pv 3) (pa_cons (pv 4) pa_nil))))))) (pv 4) pe_non))))), ?_⟩
    refine ⟨_, rfl, _, rfl, _, rfl, _, rfl, a, a2, d, t, b, s, pl, d2, t2, b2, s2, pl2, rfl, hl, hk, hp, hl2, hk2, hp2, ?_⟩
    refine ⟨_, rfl, a, d, t, b, s, rfl, hl, hk, _, rfl, a2, d2, t2, b2, s2, rfl, hl2, hk2, _, _, rfl, by omega, by omega, ?_⟩
    refine ⟨_, rfl, _, rfl, _, rfl, _, rfl, _, rfl, a, a2, d, t, b, s, pl, d2, t2, b2, s2, pl2, _, rfl, hl, hk, hl2, hk2, gcdI_pos (by omega), gcdI_dvd_l (by omega), gcdI_dvd_r (by omega), nt, fun r hr' => ⟨_, rfl, ?_⟩⟩
    rw [← both_prt hk hk2] at hr'
    refine ite2 (fun c => ?_) (fun c => ?_)
    · exact ⟨_, rfl, q _ (.inr ⟨rfl, hr'.mp c⟩)⟩
    · refine q _ (.inl ⟨rfl, ?_⟩)
      exact Classical.byContradiction fun z => c (hr'.mpr fun w hw => z ⟨w, hw⟩)

def sp_least_form (K : PySem.W.Frag) : Sp := fun vs H Q _ => ∃ (a : Addr) (d t b s : Int), vs = [.ref a] ∧ Ld K H a d t b s ∧ LandOk d t b s ∧ ∀ p, H p = none → Q (.ref p) (upd H p (.tup [.int d, .int (lfT t b), .int (lfB t b), .int (lfS t b s)]))
theorem d_least_form (A : All K mg) : Df P w K mg base CX0 "least_form" 2 ["land"] (sp_least_form K) := by
  obtain ⟨f, fd, F, hm, hb⟩ := A.t_least_form
  refine ⟨f, fd, F.ok sc_least_form (fun vs H Q E h => ?_) (fun cdv A' outer s H vs Q E hr h => ?_), hm, F.kp, hb⟩
  · obtain ⟨a, d, t, b, s, rfl, _⟩ := h; rfl
  · obtain ⟨a, d, t, b, s, rfl, hl, hk, q⟩ := h
    have hbb := hk.b
    have htt := hk.t
    have g1 : 1 ≤ gcdI b t := gcdI_pos (by omega)
    have g2 : gcdI b t ≤ 60 := by
      have := Int.le_of_dvd (by omega) (gcdI_dvd_l (a := b) (b := t) (by omega))
      omega
    refine ⟨_, (pss_cons (ps_set (i := 1) sc_least_form.nd rfl (Or.inl rfl) (pe_callD (d_measure A) hr (by decide) (by rfl) pass0 (pa_cons (pe_ix ix_tup (pv 0) pe_int (fun _ _ => rfl)) (pa_cons (pe_ix ix_tup (pv 0) pe_int (fun _ _ => rfl)) pa_nil))))
 (pss_one (ps_ret (pe_tup (pa_cons (pe_ix ix_tup (pv 0) pe_int (fun _ _ => rfl)) (pa_cons (pe_op op_fdiv (pe_ix ix_tup (pv 0) pe_int (fun _ _ => rfl)) (pv 1)) (pa_cons (pe_op op_fdiv (pe_ix ix_tup (pv 0) pe_int (fun _ _ => rfl)) (pv 1)) (pa_cons (pe_op op_fdiv (pe_ix ix_tup (pv 0) pe_int (fun _ _ => rfl)) (pv 1)) pa_nil)))))))), ?_⟩
    refine ⟨_, rfl, _, _, _, _, rfl, rfl, hl, (by rfl), _, rfl, _, _, _, _, rfl, rfl, hl, (by rfl), b, t, rfl, by omega, by omega, ?_⟩
    unfold lfT lfB lfS at q
    generalize gcdI b t = g at g1 g2 q ⊢
    walk_at "g"
    exact ⟨by show 4 ≤ sizeLine; decide, q⟩

def sp_first_parting (K : PySem.W.Frag) : Sp := fun vs H Q _ => ∃ (a a2 : Addr) (d t b s d2 t2 b2 s2 : Int), vs = [.ref a, .ref a2] ∧ Ld K H a d t b s ∧ LandOk d t b s ∧ Ld K H a2 d2 t2 b2 s2 ∧ LandOk d2 t2 b2 s2 ∧ NoT H ∧
  ∀ o, Pt (fday d t b s) (fday d2 t2 b2 s2) o → Q o H
theorem d_first_parting (A : All K mg) : Df P w K mg base CX0 "first_parting" 4 ["one", "other"] (sp_first_parting K) := by
  obtain ⟨f, fd, F, hm, hb⟩ := A.t_first_parting
  refine ⟨f, fd, Fun.okF F sc_first_parting (fun vs H Q E h => ?_) (fun cdv A' outer s H vs Q E hr h => ?_), hm, F.kp, hb⟩
  · obtain ⟨a, a2, d, t, b, s, d2, t2, b2, s2, rfl, _⟩ := h; rfl
  · obtain ⟨a, a2, d, t, b, s, d2, t2, b2, s2, rfl, hl, hk, hl2, hk2, nt, q⟩ := h
    refine ⟨_, (pss_cons (ps_expr (pe_callD (d_need_land A) hr (by decide) (by rfl) pass0 (pa_cons (pv 0) pa_nil)))
 (pss_cons (ps_expr (pe_callD (d_need_land A) hr (by decide) (by rfl) pass0 (pa_cons (pv 1) pa_nil)))
 (pss_cons (ps_if (pt_cmpR (op_eqD hr.units) (pe_callD (d_least_form A) hr (by decide) (by rfl) pass0 (pa_cons (pv 0) pa_nil)) (pe_callD (d_least_form A) hr (by decide) (by rfl) pass0 (pa_cons (pv 1) pa_nil)) (nomark _))
 (pss_one (ps_ret pe_non))
 pss_nil)
 (pss_cons (ps_set (i := 2) sc_first_parting.nd rfl (Or.inl rfl) pe_int)
 (pss_cons (ps_while PassesOwn.never (pt_cmpR op_eq (pe_callD (d_first_day A) hr (by decide) (by rfl) pass0 (pa_cons (pv 0) (pa_cons (pv 2) pa_nil))) (pe_callD (d_first_day A) hr (by decide) (by rfl) pass0 (pa_cons (pv 1) (pa_cons (pv 2) pa_nil))) (nomark _))
 (pss_one (ps_aug (i := 2) sc_first_parting.nd rfl (Or.inl rfl) pe_int ip_add)))
 (pss_one (ps_ret (pv 2)))))))), ?_⟩
    refine ⟨_, rfl, a, d, t, b, s, rfl, hl, hk, ?_⟩
    refine ⟨_, rfl, a2, d2, t2, b2, s2, rfl, hl2, hk2, ?_⟩
    refine ⟨_, rfl, a, d, t, b, s, rfl, hl, hk, fun p1 h1 => ?_⟩
    refine ⟨_, rfl, a2, d2, t2, b2, s2, rfl, Same.t (same_new h1) hl2, hk2, fun p2 h2 => ?_⟩
    refine eq_tints (ns := [d, lfT t b, lfB t b, lfS t b s]) (ms := [d2, lfT t2 b2, lfB t2 b2, lfS t2 b2 s2]) (SqT.of (same_new h2 _ _ upd_same)) (SqT.of upd_same) ⟨_, rfl, ite2 (fun c => ?_) (fun c => ?_)⟩
    · have e := of_decide_eq_true c
      simp only [List.cons.injEq, and_true] at e
      exact fg_same nt ((same_new h1).trans (same_new h2)) (q _ (.inl ⟨rfl, alike_all hk hk2 ⟨e.1, e.2.1, e.2.2.1, e.2.2.2⟩⟩))
    · have hne : ¬ (d = d2 ∧ lfT t b = lfT t2 b2 ∧ lfB t b = lfB t2 b2 ∧ lfS t b s = lfS t2 b2 s2) := fun z => c (decide_eq_true (by rw [z.1, z.2.1, z.2.2.1, z.2.2.2]))
      obtain ⟨Y, Y0, Y1, hY⟩ := parted hk hk2 hne
      have S2 := (same_new (o := .tup [.int d, .int (lfT t b), .int (lfB t b), .int (lfS t b s)]) h1).trans (same_new (o := .tup [.int d2, .int (lfT t2 b2), .int (lfB t2 b2), .int (lfS t2 b2 s2)]) h2)
      have hlA := Same.t S2 hl
      have hlB := Same.t S2 hl2
      refine ⟨fun m σ H' => ∃ y : Int, σ = [some (.ref a), some (.ref a2), some (.int y)] ∧ H' = upd (upd H p1 (.tup [.int d, .int (lfT t b), .int (lfB t b), .int (lfS t b s)])) p2 (.tup [.int d2, .int (lfT t2 b2), .int (lfB t2 b2), .int (lfS t2 b2 s2)]) ∧ 0 ≤ y ∧ y ≤ Y ∧ (∀ k, 0 ≤ k → k < y → fday d t b s k = fday d2 t2 b2 s2 k) ∧ m = (Y - y).toNat,
        ⟨_, 0, rfl, rfl, by omega, Y0, fun k k0 k1 => by omega, rfl⟩, ?_⟩
      rintro m σ H' ⟨y, rfl, rfl, y0, y1, hlow, rfl⟩
      refine ⟨_, rfl, _, rfl, a, d, t, b, s, y, rfl, hlA, hk, ?_⟩
      refine ⟨_, rfl, _, rfl, a2, d2, t2, b2, s2, y, rfl, hlB, hk2, ?_⟩
      refine ⟨rfl, _, rfl, ite2 (fun c2 => ?_) (fun c2 => ?_)⟩
      · have e := V.int.inj (of_decide_eq_true c2)
        have hyY : y ≠ Y := fun z => hY (by rw [← z]; exact e)
        refine ⟨fun σ H' => ∃ y' : Int, σ = [some (.ref a), some (.ref a2), some (.int y')] ∧ H' = upd (upd H p1 (.tup [.int d, .int (lfT t b), .int (lfB t b), .int (lfS t b s)])) p2 (.tup [.int d2, .int (lfT t2 b2), .int (lfB t2 b2), .int (lfS t2 b2 s2)]) ∧ 0 ≤ y' ∧ y' ≤ Y ∧ (∀ k, 0 ≤ k → k < y' → fday d t b s k = fday d2 t2 b2 s2 k) ∧ (Y - y').toNat < (Y - y).toNat, fun σ' H' hN => ?_, ?_⟩
        · obtain ⟨y', e1, e2, e3, e4, e5, e6⟩ := hN
          exact ⟨_, e6, y', e1, e2, e3, e4, e5, rfl⟩
        · refine ⟨_, rfl, _, _, rfl, rfl, y + 1, rfl, rfl, by omega, by omega, fun k k0 k1 => ?_, by omega⟩
          by_cases z : k = y
          · rw [z]; exact e
          · exact hlow k k0 (by omega)
      · have e : fday d t b s y ≠ fday d2 t2 b2 s2 y := fun z => c2 (decide_eq_true (congrArg V.int z))
        exact ⟨_, rfl, fg_same nt S2 (q _ (.inr ⟨y, rfl, ⟨y0, by omega⟩, e, hlow⟩))⟩

/-- a row that may be of a year -/
def RowV (K : PySem.W.Frag) (H : Hp) (v : V) (r : V × V) : Prop := ∃ p n m, v = .ref p ∧ SqT K H p [r.1, r.2] ∧ Kn K H r.1 n ∧ Kn K H r.2 m
def rowOk (r : V × V) : Bool := isFrom r.1 (-10000) 10000 && isFrom r.2 (-1000000) 1000000
def chainI (R : Rw) : Bool := (List.zipWith (fun a b : Int × Int => decide (a.1 < b.1)) R (R.drop 1)).all id
def vRow (r : Int × Int) : V × V := (.int r.1, .int r.2)
theorem isFrom_is {x : V} {lo hi : Int} (h : isFrom x lo hi = true) : ∃ i, x = .int i ∧ lo ≤ i ∧ i ≤ hi := by
  cases x with
  | int i =>
    rw [isFrom_int, Bool.and_eq_true, decide_eq_true_iff, decide_eq_true_iff] at h
    exact ⟨i, rfl, h⟩
  | _ => exact absurd (show false = true from h) (by decide)
theorem rows_int : ∀ {R : List (V × V)}, R.all rowOk = true → ∃ rs : Rw, R = rs.map vRow
  | [], _ => ⟨[], rfl⟩
  | r :: R, h => by
    rw [List.all_cons, Bool.and_eq_true] at h
    obtain ⟨rs, rfl⟩ := rows_int h.2
    have h1 := h.1
    unfold rowOk at h1
    rw [Bool.and_eq_true] at h1
    obtain ⟨i, e1, _⟩ := isFrom_is h1.1
    obtain ⟨j, e2, _⟩ := isFrom_is h1.2
    refine ⟨(i, j) :: rs, ?_⟩
    rw [List.map_cons]
    congr 1
    exact Prod.ext e1 e2
def sp_are_seen (K : PySem.W.Frag) : Sp := fun vs H Q _ => ∃ (x : V), vs = [x] ∧ NoT H ∧ ((∃ n, Kn K H x n ∧ n ≠ "tuple" ∧ Q (.bl false) H) ∨ (∃ a xs, x = .ref a ∧ SqT K H a xs ∧ (xs.length < 2 ∨ 6 < xs.length) ∧ Q (.bl false) H) ∨
  ∃ a xs R, x = .ref a ∧ SqT K H a xs ∧ 2 ≤ xs.length ∧ xs.length ≤ 6 ∧ Paired (RowV K H) xs R ∧ (R.all rowOk = false → Q (.bl false) H) ∧ ∀ rs, R.all rowOk = true → R = rs.map vRow → Q (.bl (chainI rs)) H)
theorem d_are_seen (A : All K mg) : Df P w K mg base CX0 "are_seen" 2 ["thing"] (sp_are_seen K) := by
  obtain ⟨f, fd, F, hm, hb⟩ := A.t_are_seen
  refine ⟨f, fd, Fun.okF F sc_are_seen (fun vs H Q E h => ?_) (fun cdv A' outer s H vs Q E hr h => ?_), hm, F.kp, hb⟩
  · obtain ⟨x, rfl, _⟩ := h; rfl
  · obtain ⟨x, rfl, nt, h⟩ := h
    have p6 : (10 : Int) ^ (6 : Int).toNat = 1000000 := by decide
    refine ⟨_, (pss_cons (ps_if (PW.pt (pw_or (pt_not (pt_val (pe_callB call_isi (by rfl) A.b_isinstance (by decide +kernel) (pa_cons (pv 0) (pa_cons (pe_bltn (v := .ty "tuple") (by rfl) A.b_tuple (by decide +kernel) rfl) pa_nil))))) (pw_or1 (pt_not (pt_chain op_le op_le pe_int (pe_callB call_len_seq (by rfl) A.b_len (by decide +kernel) (pa_cons (pv 0) pa_nil)) pe_int)))))
 (pss_one (ps_ret pe_bl))
 pss_nil)
 (pss_cons (ps_for PassesOwn.never (by rfl) (pi_tup (pv 0)) (pg_name (i := 1) sc_are_seen.nd rfl (Or.inl rfl))
 (pss_cons (ps_if (PW.pt (pw_or (pt_not (pt_val (pe_callB call_isi (by rfl) A.b_isinstance (by decide +kernel) (pa_cons (pv 1) (pa_cons (pe_bltn (v := .ty "tuple") (by rfl) A.b_tuple (by decide +kernel) rfl) pa_nil))))) (pw_or (pt_cmpR op_ne (pe_callB call_len_seq (by rfl) A.b_len (by decide +kernel) (pa_cons (pv 1) pa_nil)) pe_int (nomark _)) (pw_or1 (pt_not (pt_val (pe_callD (d_is_from A) hr (by decide) (by rfl) pass0 (pa_cons (pe_ix ix_tup (pv 1) pe_int (fun _ _ => rfl)) (pa_cons (pe_un un_neg pe_int) (pa_cons pe_int pa_nil))))))))))
 (pss_one (ps_ret pe_bl))
 pss_nil)
 (pss_one (ps_if (pt_not (pt_val (pe_callD (d_is_from A) hr (by decide) (by rfl) pass0 (pa_cons (pe_ix ix_tup (pv 1) pe_int (fun _ _ => rfl)) (pa_cons (pe_un un_neg (pe_op op_pow pe_int pe_int)) (pa_cons (pe_op op_pow pe_int pe_int) pa_nil))))))
 (pss_one (ps_ret pe_bl))
 pss_nil))))
 (pss_one (ps_ret (pe_callB (cr_all rfl) (by rfl) A.b_all (by decide +kernel) (pa_cons (pe_lc (own := [("one", 2), ("other", 3)]) (g := gTup K 2 (gCons (gName 2) (gCons (gName 3) gNil))) (tt := tYes) (by rfl) sc_are_seen.nd (RZ.pi_zipA (by rfl) A.b_zip (pa_cons (pv 0) (pa_cons (pe_slice sl_tup (pv 0) (po_some pe_int) po_none) pa_nil))) (blkOk_by (own := [("one", 2), ("other", 3)]) (N := ["thing", "row", "one", "other"]) (sc := defScope s_are_seen) (by decide +kernel)) (fun _ _ _ _ _ => (pg_tup (by rfl) (pgs_cons (pg_name (i := 2) sc_are_seen.nd rfl (Or.inl rfl)) (pgs_cons (pg_name (i := 3) sc_are_seen.nd rfl (Or.inl rfl)) pgs_nil)))) (fun _ _ _ _ _ => pts_nil) (fun _ _ _ _ _ => (pe_cmpR op_lt (pe_ix (r := rIxT K) ix_tup (pv 2) pe_int (fun _ _ => rfl)) (pe_ix (r := rIxT K) ix_tup (pv 3) pe_int (fun _ _ => rfl)) (nomark _)))) pa_nil)))))), ?_⟩
    rcases h with ⟨n, hk, hn, q⟩ | ⟨a, xs, rfl, hS, hl, q⟩ | ⟨a, xs, R, rfl, hS, l2, l6, hR, q0, q1⟩
    · refine ⟨_, rfl, _, _, _, _, _, rfl, .ty _, hk.ty, hk.kit (by decide), _, rfl, ?_⟩
      have e : kindIs n "tuple" = false := by
        unfold kindIs
        rw [show (n == "tuple") = false from beq_eq_false_iff_ne.mpr hn]
        simp
      rw [e]
      exact iteT (fg_same nt (Same.refl _) q)
    · have kt : Kn K H (.ref a) "tuple" := .tup hS
      refine ⟨_, rfl, _, _, _, _, _, rfl, .ty _, kt.ty, kt.kit (by decide), _, rfl, ?_⟩
      refine iteF ?_
      refine ⟨_, rfl, a, _, rfl, .inr hS, _, _, rfl, rfl, _, rfl, ?_⟩
      refine ite2 (fun c => ?_) (fun c => ?_)
      · refine ⟨_, _, rfl, rfl, _, rfl, ?_⟩
        have c := of_decide_eq_true c
        rw [decide_eq_false (by omega)]
        exact iteT (fg_same nt (Same.refl _) q)
      · exact ⟨_, rfl, iteT (fg_same nt (Same.refl _) q)⟩
    · have kt : Kn K H (.ref a) "tuple" := .tup hS
      have elen : xs.length = R.length := Paired.length hR
      refine sq_if (fun H' => H = H') (fun Q' q' => ?_) (fun H' e => ?_)
      · refine ⟨_, rfl, _, _, _, _, _, rfl, .ty _, kt.ty, kt.kit (by decide), _, rfl, ?_⟩
        refine iteF ?_
        refine ⟨_, rfl, a, _, rfl, .inr hS, _, _, rfl, rfl, _, rfl, ?_⟩
        rw [decide_eq_true (by omega)]
        refine iteT ?_
        refine ⟨_, _, rfl, rfl, _, rfl, ?_⟩
        rw [decide_eq_true (by omega)]
        exact q' _ rfl
      subst e
      refine sq_str (fun σ H' => (∃ y1 y2 y3, σ = [some (.ref a), y1, y2, y3]) ∧ H = H' ∧ R.all rowOk = true) (fun N k => ?_) (fun σ' H' e => ?_)
      · refine ⟨_, rfl, a, rfl, ⟨_, hS⟩, for_tup (xs := xs) (fun i σ H' => (∃ y1 y2 y3, σ = [some (.ref a), y1, y2, y3]) ∧ H = H' ∧ (R.take i).all rowOk = true) ⟨⟨_, _, _, rfl⟩, rfl, by simp⟩ (fun i σ H' _ hW => by obtain ⟨_, rfl, _⟩ := hW; exact hS) (fun i x σ H' hx hW => ?_) (fun σ H' hW => ?_)⟩
        · obtain ⟨⟨y1, y2, y3, rfl⟩, rfl, hall⟩ := hW
          obtain ⟨⟨u, v⟩, hr', p, n, m, rfl, hp, hu, hv⟩ := Paired.row hR hx
          have kp : Kn K H (.ref p) "tuple" := .tup hp
          have stp : (R.take (i + 1)).all rowOk = (isFrom u (-10000) 10000 && isFrom v (-1000000) 1000000) := by
            rw [List.take_succ, hr', List.all_append, hall]
            simp [rowOk]
          have bad : rowOk (u, v) = false → R.all rowOk = false := fun z => by
            cases c : R.all rowOk with
            | false => rfl
            | true =>
              have := List.all_eq_true.mp c _ (List.mem_of_getElem? hr')
              rw [z] at this
              cases this
          show tSeq _ _ _ _ _
          refine ⟨_, rfl, _, _, _, _, _, rfl, .ty _, kp.ty, kp.kit (by decide), _, rfl, ?_⟩
          refine iteF ?_
          refine ⟨_, rfl, p, _, rfl, .inr hp, rfl, _, rfl, ?_⟩
          refine iteF ?_
          refine ⟨_, rfl, _, _, _, _, rfl, rfl, hp, (by rfl), _, rfl, _, _, _, _, rfl, hu, _, rfl, ?_⟩
          cases c : isFrom u (-10000) 10000 with
          | false => exact iteT (fg_same nt (Same.refl _) (q0 (bad (by unfold rowOk; rw [c]; rfl))))
          | true =>
            refine iteF ?_
            refine ⟨_, rfl, _, _, _, _, rfl, rfl, hp, (by rfl), _, _, rfl, rfl, ⟨by decide, by decide, by decide⟩, _, rfl, _, _, rfl, rfl, ⟨by decide, by decide, by decide⟩, _, _, _, _, rfl, hv, _, rfl, ?_⟩
            rw [p6]
            cases c2 : isFrom v (-1000000) 1000000 with
            | false => exact iteT (fg_same nt (Same.refl _) (q0 (bad (by unfold rowOk; rw [c2, Bool.and_false]))))
            | true =>
              refine iteF ⟨⟨_, _, _, rfl⟩, rfl, ?_⟩
              rw [stp, c, c2]
              rfl
        · obtain ⟨⟨y1, y2, y3, rfl⟩, rfl, hall⟩ := hW
          refine k _ _ ⟨⟨_, _, _, rfl⟩, rfl, ?_⟩
          rw [elen, List.take_length] at hall
          exact hall
      · obtain ⟨⟨y1, y2, y3, rfl⟩, rfl, hall⟩ := e
        obtain ⟨rs, rfl⟩ := rows_int hall
        have qq := q1 rs hall rfl
        rw [List.length_map] at elen
        have hR' : Paired (RowI K H) xs rs := by
          refine paired_get (by rw [elen]) fun i x y h1 h2 => ?_
          obtain ⟨r, hr', p, n, m, rfl, hp, hu, hv⟩ := Paired.row hR h1
          rw [List.getElem?_map, h2] at hr'
          cases hr'
          exact ⟨p, rfl, hp⟩
        have xl : xs.drop 1 = cutV xs (some ((1 : Nat) : Int)) none := cutV_from.symm
        refine ⟨_, rfl, _, rfl, 1, rfl, a, xs, rfl, hS, ?_, fun p1 h1 => ?_⟩
        · rintro ⟨z, _⟩
          rw [show (1 : Int) = ((1 : Nat) : Int) from rfl, HT.sIx_nat] at z
          omega
        have s1 := same_new (o := .tup (cutV xs (some 1) none)) h1
        have sq1 : SqT K (upd H p1 (.tup (cutV xs (some 1) none))) p1 (xs.drop 1) := by
          rw [xl]; exact SqT.of upd_same
        refine ⟨a, p1, xs, xs.drop 1, rfl, .inr ⟨Same.t s1 hS, sq1, fun D hD => ?_⟩⟩
        have nt1 : NoT (upd H p1 (.tup (cutV xs (some 1) none))) := nt.tup
        generalize upd H p1 (.tup (cutV xs (some 1) none)) = H1 at s1 sq1 hD nt1 ⊢
        have hS1 := Same.t s1 hS
        refine lc_zipT (xs := xs) (ys := xs.drop 1) (fun i H' => Same H1 H' ∧ NoT H' ∧ H' D = some (.lst (((List.zipWith (fun a b : Int × Int => decide (a.1 < b.1)) rs (rs.drop 1)).take i).map V.bl))) ⟨same_new hD, nt1.lst, upd_same⟩ (fun i H' p => ⟨Same.t p.1 hS1, Same.t p.1 sq1⟩) (fun i x y T H' hx' hy' hT p => ?_) (fun H' p => ?_)
        · obtain ⟨s2, nt2, hD2⟩ := p
          obtain ⟨r1, hr1, q1', rfl, e1⟩ := Paired.row hR' hx'
          rw [List.getElem?_drop] at hy'
          obtain ⟨r2, hr2, q2', rfl, e2⟩ := Paired.row hR' hy'
          have s3 := same_new (o := .tup [.ref q1', .ref q2']) hT
          have s13 := (s1.trans s2).trans s3
          have zg : (List.zipWith (fun a b : Int × Int => decide (a.1 < b.1)) rs (rs.drop 1))[i]? = some (decide (r1.1 < r2.1)) := by rw [List.getElem?_zipWith, List.getElem?_drop, hr1, hr2]
          refine ⟨T, _, rfl, SqT.of upd_same, rfl, _, _, rfl, _, _, rfl, rfl, rfl, ?_⟩
          refine yesT ⟨_, rfl, _, _, _, _, rfl, rfl, Same.t s13 e1, (by rfl), _, rfl, _, _, _, _, rfl, rfl, Same.t s13 e2, (by rfl), _, _, rfl, rfl, ?_⟩
          refine ⟨_, s3 _ _ hD2, ?_, fun b o e => ?_, (nt2.tup).lst, ?_⟩
          · rw [List.length_map, List.length_take, List.length_zipWith]
            exact sz_small (by omega)
          · by_cases c : b = D
            · subst c; rw [hD] at e; cases e
            · rw [upd_ne c]; exact s3 _ _ (s2 b o e)
          · rw [upd_same, List.take_succ, zg, List.map_append]
            rfl
        · obtain ⟨s2, nt2, hD2⟩ := p
          rw [List.take_of_length_le (by rw [List.length_zipWith, List.length_drop, List.length_drop]; omega)] at hD2
          refine ⟨D, _, rfl, SqL.of hD2, ?_⟩
          exact fg_same nt (s1.trans s2) qq

def sp_lands_by (K : PySem.W.Frag) : Sp := fun vs H Q _ => ∃ (a : Addr) (xs : List V) (R : Rw) (d t b : Int), vs = [.ref a, .int d, .int t, .int b] ∧ SqT K H a xs ∧ Paired (RowI K H) xs R ∧ R ≠ [] ∧ R.length ≤ 6 ∧ (1 ≤ d ∧ d ≤ 1000) ∧ (0 ≤ t ∧ t < b) ∧ (1 ≤ b ∧ b ≤ 12) ∧ NoT H ∧
  ∀ ys p H', Same H H' → NoT H' → H p = none → H' p = some (.lst ys) → Paired (TupL H') ys (byL R d t b) → Q (.ref p) H'
theorem d_lands_by (A : All K mg) : Df P w K mg base CX0 "lands_by" 1 ["seen", "days", "top", "bottom"] (sp_lands_by K) := by
  obtain ⟨f, fd, F, hm, hb⟩ := A.t_lands_by
  refine ⟨f, fd, F.ok sc_lands_by (fun vs H Q E h => ?_) (fun cdv A' outer s H vs Q E hr h => ?_), hm, F.kp, hb⟩
  · obtain ⟨a, xs, R, d, t, b, rfl, _⟩ := h; rfl
  · obtain ⟨a, xs, R, d, t, b, rfl, hS, hR, hne, hl6, hd, ht, hbb, nt, q⟩ := h
    refine ⟨_, (pss_cons (ps_set (i := 4) sc_lands_by.nd rfl (Or.inr rfl) (pe_op op_add (pe_op op_mul (pv 1) (pv 3)) (pv 2)))
 (pss_cons (ps_set (i := 5) sc_lands_by.nd rfl (Or.inl rfl) (pe_callB (cr_max rfl) (by rfl) A.b_max (by decide +kernel) (pa_cons (pe_lc (own := [("year", 8), ("day", 9)]) (g := gTup K 2 (gCons (gName 8) (gCons (gName 9) gNil))) (tt := tYes) (by rfl) sc_lands_by.nd (pi_tup (pv 0)) (blkOk_by (own := [("year", 8), ("day", 9)]) (N := ["seen", "days", "top", "bottom", "step", "low", "high", "shift", "year", "day"]) (sc := defScope s_lands_by) (by decide +kernel)) (fun _ _ _ _ _ => (pg_tup (by rfl) (pgs_cons (pg_name (i := 8) sc_lands_by.nd rfl (Or.inl rfl)) (pgs_cons (pg_name (i := 9) sc_lands_by.nd rfl (Or.inl rfl)) pgs_nil)))) (fun _ _ _ _ _ => pts_nil) (fun _ _ _ _ _ => (pe_op op_sub (pe_op op_mul (pv 9) (pv 3)) (pe_op op_mul (pv 4) (pv 8))))) pa_nil)))
 (pss_cons (ps_set (i := 6) sc_lands_by.nd rfl (Or.inl rfl) (pe_callB (cr_min rfl) (by rfl) A.b_min (by decide +kernel) (pa_cons (pe_lc (own := [("year", 8), ("day", 9)]) (g := gTup K 2 (gCons (gName 8) (gCons (gName 9) gNil))) (tt := tYes) (by rfl) sc_lands_by.nd (pi_tup (pv 0)) (blkOk_by (own := [("year", 8), ("day", 9)]) (N := ["seen", "days", "top", "bottom", "step", "low", "high", "shift", "year", "day"]) (sc := defScope s_lands_by) (by decide +kernel)) (fun _ _ _ _ _ => (pg_tup (by rfl) (pgs_cons (pg_name (i := 8) sc_lands_by.nd rfl (Or.inl rfl)) (pgs_cons (pg_name (i := 9) sc_lands_by.nd rfl (Or.inl rfl)) pgs_nil)))) (fun _ _ _ _ _ => pts_nil) (fun _ _ _ _ _ => (pe_op op_sub (pe_op op_sub (pe_op op_add (pe_op op_mul (pv 9) (pv 3)) (pv 3)) pe_int) (pe_op op_mul (pv 4) (pv 8))))) pa_nil)))
 (pss_one (ps_ret (pe_lc (own := [("shift", 7)]) (g := gName 7) (tt := tYes) (by rfl) sc_lands_by.nd (pi_rgW2 (by rfl) A.b_range (pa_cons (pv 5) (pa_cons (pe_op op_add (pv 6) pe_int) pa_nil))) (blkOk_by (own := [("shift", 7)]) (N := ["seen", "days", "top", "bottom", "step", "low", "high", "shift", "year", "day"]) (sc := defScope s_lands_by) (by decide +kernel)) (fun _ _ _ _ _ => (pg_name (i := 7) sc_lands_by.nd rfl (Or.inl rfl))) (fun _ _ _ _ _ => pts_nil) (fun _ _ _ _ _ => (pe_tup (pa_cons (pv 1) (pa_cons (pv 2) (pa_cons (pv 3) (pa_cons (pv 7) pa_nil)))))))))))), ?_⟩
    have db := Int.mul_le_mul hd.2 hbb.2 (by omega) (by decide)
    have db0 := Int.mul_nonneg (show 0 ≤ d by omega) (show 0 ≤ b by omega)
    refine sq_set (fun v H' => v = .int (d * b + t) ∧ H = H') (fun Q' q' => ?_) (fun v H' e => ?_)
    · walk_at "g"
      exact q' _ _ ⟨rfl, rfl⟩
    obtain ⟨rfl, rfl⟩ := e
    have hlen : ∀ f : Int × Int → Int, 0 < (R.map f).length := fun f => by rw [List.length_map]; exact List.length_pos_iff.mpr hne
    have bl := byL_len (d := d) (t := t) hne hbb.1
    unfold byL at bl q
    generalize hst : d * b + t = st at db0 bl q ⊢
    refine sq_set (fun v H' => v = .int (mx (lowB R st b)) ∧ Same H H' ∧ NoT H') (fun Q' q' => ?_) (fun v H1 e => ?_)
    · refine ⟨_, rfl, a, rfl, ⟨_, hS⟩, fun D hD => lc_rowI (f := fun r => r.2 * b - st * r.1) hS hR hD (by omega) (fun _ _ => rfl) (fun r H' _ Q'' q'' => ?_) ?_⟩
      · refine ⟨_, rfl, _, rfl, _, _, rfl, rfl, Or.inr ⟨by omega, by omega⟩, _, rfl, _, rfl, _, _, rfl, rfl, Or.inl ⟨by omega, by omega⟩, _, _, rfl, rfl, ?_⟩
        exact q''
      · refine ⟨D, _, rfl, SqL.of upd_same, hlen _, fun m h1 h2 => q' _ _ ⟨?_, same_new hD, nt.lst⟩⟩
        rw [mx_eq h1 h2]
        rfl
    obtain ⟨rfl, s1, nt1⟩ := e
    have hS1 := Same.t s1 hS
    have hR1 : Paired (RowI K H1) xs R := Paired.mapP hR fun _ _ r => r.same s1
    refine sq_set (fun v H' => v = .int (mn (highB R st b)) ∧ Same H H' ∧ NoT H') (fun Q' q' => ?_) (fun v H2 e => ?_)
    · refine ⟨_, rfl, a, rfl, ⟨_, hS1⟩, fun D hD => lc_rowI (f := fun r => r.2 * b + b - 1 - st * r.1) hS1 hR1 hD (by omega) (fun _ _ => rfl) (fun r H' _ Q'' q'' => ?_) ?_⟩
      · refine ⟨_, rfl, _, rfl, _, _, rfl, rfl, Or.inr ⟨by omega, by omega⟩, _, rfl, _, _, rfl, rfl, _, _, rfl, rfl, _, rfl, _, rfl, _, _, rfl, rfl, Or.inl ⟨by omega, by omega⟩, _, _, rfl, rfl, ?_⟩
        exact q''
      · refine ⟨D, _, rfl, SqL.of upd_same, hlen _, fun m h1 h2 => q' _ _ ⟨?_, s1.trans (same_new hD), nt1.lst⟩⟩
        rw [mn_eq h1 h2]
        rfl
    obtain ⟨rfl, s2, nt2⟩ := e
    generalize mx (lowB R st b) = lo at bl q ⊢
    generalize mn (highB R st b) = hi at bl q ⊢
    rw [List.length_map, List.length_range] at bl
    refine ⟨_, rfl, _, rfl, _, _, rfl, rfl, _, _, rfl, fun D hD => ?_⟩
    have nD : H D = none := s2.free hD
    refine lc_range (lo := lo) (n := (hi + 1 - lo).toNat) (fun i H' => ∃ ys, Same H H' ∧ NoT H' ∧ H' D = some (.lst ys) ∧ Paired (TupL H') ys ((List.range i).map fun i : Nat => [d, t, b, lo + i])) ⟨[], s2.trans (same_new hD), nt2.lst, upd_same, .nil⟩ (fun i H' hi' hW => ?_) (fun H' hW => ?_)
    · obtain ⟨ys, s3, nt3, hy, hP⟩ := hW
      refine ⟨rfl, ?_⟩
      refine yesT ⟨_, rfl, _, rfl, _, rfl, _, rfl, by show 4 ≤ sizeLine; decide, fun p hp => ?_⟩
      have sp := same_new (o := .tup [.int d, .int t, .int b, .int (lo + i)]) hp
      have yl : ys.length = i := by rw [Paired.length hP, List.length_map, List.length_range]
      have gr : Gr D H' (upd (upd H' p (.tup [.int d, .int t, .int b, .int (lo + i)])) D (.lst (ys ++ [.ref p]))) := ((Gr.refl hy).new hp rfl).put
      have nDp : p ≠ D := (ne_of_none hy hp).symm
      refine ⟨ys, sp _ _ hy, sz_small (by omega), ys ++ [.ref p], fun b o e => ?_, (nt3.tup).lst, upd_same, ?_⟩
      · exact gr.keep b o (ne_of_none e nD) (s3 b o e)
      · rw [List.range_succ, List.map_append]
        refine Paired.snoc ⟨p, rfl, ?_⟩ (Paired.mapP hP fun _ _ r => r.gr gr)
        rw [upd_ne nDp, upd_same]
        rfl
    · obtain ⟨ys, s3, nt3, hy, hP⟩ := hW
      exact q ys D H' s3 nt3 nD hy hP

theorem vRow_inj {r q : Int × Int} (h : vRow r = vRow q) : r = q := by
  unfold vRow at h
  have h1 := congrArg Prod.fst h
  have h2 := congrArg Prod.snd h
  exact Prod.ext (V.int.inj h1) (V.int.inj h2)
theorem map_inj {α β : Type} {f : α → β} (hf : ∀ a b, f a = f b → a = b) : ∀ {l m : List α}, l.map f = m.map f → l = m
  | [], [], _ => rfl
  | [], _ :: _, h => by simp at h
  | _ :: _, [], h => by simp at h
  | a :: l, b :: m, h => by
    simp only [List.map_cons, List.cons.injEq] at h
    rw [hf a b h.1, map_inj hf h.2]
theorem chain_of : ∀ {R : Rw}, R.Pairwise (fun a b => a.1 < b.1) → chainI R = true
  | [], _ => rfl
  | [x], _ => rfl
  | x :: y :: R, h => by
    have h' := List.pairwise_cons.mp h
    have ih := chain_of h'.2
    unfold chainI at ih ⊢
    have e : List.zipWith (fun a b : Int × Int => decide (a.1 < b.1)) (x :: y :: R) ((x :: y :: R).drop 1) = decide (x.1 < y.1) :: List.zipWith (fun a b : Int × Int => decide (a.1 < b.1)) (y :: R) ((y :: R).drop 1) := rfl
    rw [e, List.all_cons, ih, Bool.and_true]
    exact decide_eq_true (h'.1 y (List.mem_cons_self ..))
/-- rows as they are asked for -/
structure SeenOk (R : Rw) : Prop where
  l2 : 2 ≤ R.length
  l6 : R.length ≤ 6
  inc : R.Pairwise fun a b => a.1 < b.1
  rng : ∀ r ∈ R, (-10000 ≤ r.1 ∧ r.1 ≤ 10000) ∧ (-1000000 ≤ r.2 ∧ r.2 ≤ 1000000)
theorem SeenOk.rows {R : Rw} (h : SeenOk R) : (R.map vRow).all rowOk = true := by
  rw [List.all_eq_true]
  intro x hx
  obtain ⟨r, hr, rfl⟩ := List.mem_map.mp hx
  have := h.rng r hr
  show (isFrom (.int r.1) (-10000) 10000 && isFrom (.int r.2) (-1000000) 1000000) = true
  rw [isFrom_yes this.1.1 this.1.2, isFrom_yes this.2.1 this.2.2]
  rfl
theorem row_v {K : PySem.W.Frag} {H : Hp} {xs : List V} {R : Rw} (h : Paired (RowI K H) xs R) : Paired (RowV K H) xs (R.map vRow) := by
  refine paired_get (by rw [List.length_map]; exact Paired.length h) fun i x y h1 h2 => ?_
  obtain ⟨r, hr, p, rfl, hp⟩ := Paired.row h h1
  rw [List.getElem?_map, hr] at h2
  cases h2
  exact ⟨p, _, _, rfl, hp, .int _, .int _⟩
def sp_lands_of (K : PySem.W.Frag) : Sp := fun vs H Q _ => ∃ (a : Addr) (xs : List V) (R : Rw) (most : Int), vs = [.ref a, .int most] ∧ SqT K H a xs ∧ Paired (RowI K H) xs R ∧ SeenOk R ∧ (1 ≤ most ∧ most ≤ 12) ∧ NoT H ∧
  ∀ ys Ms p H', Same H H' → NoT H' → H p = none → H' p = some (.lst ys) → Paired (TupL H') ys Ms → Ms.Perm (landsL R most) → Ms.Pairwise (fun a b => lexL b a = false) → Q (.ref p) H'
theorem d_lands_of (A : All K mg) : Df P w K mg base CX0 "lands_of" 3 ["seen", "most"] (sp_lands_of K) := by
  obtain ⟨f, fd, F, hm, hb⟩ := A.t_lands_of
  refine ⟨f, fd, F.ok sc_lands_of (fun vs H Q E h => ?_) (fun cdv A' outer s H vs Q E hr h => ?_), hm, F.kp, hb⟩
  · obtain ⟨a, xs, R, most, rfl, _⟩ := h; rfl
  · obtain ⟨a, xs, R, most, rfl, hS, hR, sR, hm, nt, q⟩ := h
    have elen : xs.length = R.length := Paired.length hR
    have l2 := sR.l2
    have l6 := sR.l6
    have hne : R ≠ [] := by rintro rfl; simp at l2
    obtain ⟨⟨ya, da⟩, hr0⟩ : ∃ r, R[0]? = some r := ⟨_, List.getElem?_eq_getElem (by omega)⟩
    obtain ⟨⟨yz, dz⟩, hrz⟩ : ∃ r, R[R.length - 1]? = some r := ⟨_, List.getElem?_eq_getElem (by omega)⟩
    obtain ⟨v0, hv0, p0, rfl, hp0⟩ := Paired.wor hR hr0
    obtain ⟨vz, hvz, pz, rfl, hpz⟩ := Paired.wor hR hrz
    have near : nearOf R = (dz - da) / (yz - ya) := by
      unfold nearOf
      rw [List.head?_eq_getElem?, List.getLast?_eq_getElem?, hr0, hrz]
    have hlt : ya < yz := by
      obtain ⟨h1, e1⟩ := List.getElem?_eq_some_iff.mp hr0
      obtain ⟨h2, e2⟩ := List.getElem?_eq_some_iff.mp hrz
      have := List.pairwise_iff_getElem.mp sR.inc 0 (R.length - 1) h1 h2 (by omega)
      rw [e1, e2] at this
      exact this
    have ra := sR.rng _ (List.mem_of_getElem? hr0)
    have rz := sR.rng _ (List.mem_of_getElem? hrz)
    refine ⟨_, (pss_cons (ps_if (pt_not (pt_val (pe_callD (d_are_seen A) hr (by decide) (by rfl) pass0 (pa_cons (pv 0) pa_nil))))
 (pss_one ps_never)
 pss_nil)
 (pss_cons (ps_if (pt_not (pt_val (pe_callD (d_is_from A) hr (by decide) (by rfl) pass0 (pa_cons (pv 1) (pa_cons pe_int (pa_cons (pe_glob (v := .int 12) (by rfl) A.c_MOST_TOLD.choose_spec ⟨_, rfl⟩) pa_nil))))))
 (pss_one ps_never)
 pss_nil)
 (pss_cons (ps_asg (pe_tup (pa_cons (pe_ix ix_tup (pv 0) pe_int (fun _ _ => rfl)) (pa_cons (pe_ix ix_tup (pv 0) (pe_un un_neg pe_int) (fun _ _ => rfl)) pa_nil))) (pg_tup (by rfl) (pgs_cons (pg_tup (by rfl) (pgs_cons (pg_name (i := 2) sc_lands_of.nd rfl (Or.inl rfl)) (pgs_cons (pg_name (i := 3) sc_lands_of.nd rfl (Or.inl rfl)) pgs_nil))) (pgs_cons (pg_tup (by rfl) (pgs_cons (pg_name (i := 4) sc_lands_of.nd rfl (Or.inl rfl)) (pgs_cons (pg_name (i := 5) sc_lands_of.nd rfl (Or.inl rfl)) pgs_nil))) pgs_nil))))
 (pss_cons (ps_set (i := 6) sc_lands_of.nd rfl (Or.inl rfl) (pe_op op_fdiv (pe_op op_sub (pv 5) (pv 3)) (pe_op op_sub (pv 4) (pv 2))))
 (pss_cons (ps_set (i := 7) sc_lands_of.nd rfl (Or.inl rfl) (pe_lst pa_nil))
 (pss_cons (ps_for PassesOwn.never (by rfl) (pi_rgW2 (by rfl) A.b_range (pa_cons (pe_callB (call_max2 rfl) (by rfl) A.b_max (by decide +kernel) (pa_cons pe_int (pa_cons (pe_op op_sub (pv 6) pe_int) pa_nil))) (pa_cons (pe_op op_add (pe_callB (call_min2 rfl) (by rfl) A.b_min (by decide +kernel) (pa_cons (pe_glob (v := .int 400) (by rfl) A.c_MOST_DAYS.choose_spec ⟨_, rfl⟩) (pa_cons (pe_op op_add (pv 6) pe_int) pa_nil))) pe_int) pa_nil))) (pg_name (i := 8) sc_lands_of.nd rfl (Or.inl rfl))
 (pss_one (ps_for PassesOwn.never (by rfl) (pi_rgW2 (by rfl) A.b_range (pa_cons pe_int (pa_cons (pe_op op_add (pv 1) pe_int) pa_nil))) (pg_name (i := 9) sc_lands_of.nd rfl (Or.inl rfl))
 (pss_one (ps_for PassesOwn.never (by rfl) (pi_rgW1 (by rfl) A.b_range (pa_cons (pv 9) pa_nil)) (pg_name (i := 10) sc_lands_of.nd rfl (Or.inl rfl))
 (pss_one (ps_if (pt_cmpR op_eq (pe_callD (d_measure A) hr (by decide) (by rfl) pass0 (pa_cons (pv 9) (pa_cons (pv 10) pa_nil))) pe_int (nomark _))
 (pss_one (ps_aug (i := 7) sc_lands_of.nd rfl (Or.inl rfl) (pe_callD (d_lands_by A) hr (by decide) (by rfl) pass0 (pa_cons (pv 0) (pa_cons (pv 8) (pa_cons (pv 10) (pa_cons (pv 9) pa_nil))))) iop_ext))
 pss_nil)))))))
 (pss_one (ps_ret (pe_callB cr_sortT4 (by rfl) A.b_sorted (by decide +kernel) (pa_cons (pv 7) pa_nil)))))))))), ?_⟩
    refine sq_if (fun H' => H = H') (fun Q' q' => ?_) (fun H' e => ?_)
    · refine ⟨_, rfl, .ref a, rfl, nt, .inr (.inr ⟨a, xs, R.map vRow, rfl, hS, by omega, by omega, row_v hR, fun z => ?_, fun rs _ e => ?_⟩)⟩
      · rw [sR.rows] at z; cases z
      · have e := map_inj (fun _ _ => vRow_inj) e
        subst e
        rw [chain_of sR.inc]
        exact ⟨_, rfl, q' _ rfl⟩
    subst e
    refine sq_if (fun H' => H = H') (fun Q' q' => ?_) (fun H' e => ?_)
    · refine ⟨_, rfl, _, _, _, _, rfl, .int most, _, rfl, ?_⟩
      rw [isFrom_yes hm.1 hm.2]
      exact q' _ rfl
    subst e
    have hat0 : atI xs 0 = some (.ref p0) := atI_nat (xs := xs) (j := 0) (v := .ref p0) hv0
    have hatz : atI xs (-1) = some (.ref pz) := by
      unfold atI ixN
      rw [if_neg (by decide), if_pos (by omega)]
      show xs[_]? = _
      rw [← hvz, ← elen]
      congr 1
      omega
    refine sq_asg (fun v H' => ∃ T, v = .ref T ∧ Same H H' ∧ NoT H' ∧ SqT K H' T [.ref p0, .ref pz]) (fun Q' q' => ?_) (fun v H1 e => ?_)
    · refine ⟨_, rfl, a, xs, 0, _, rfl, rfl, hS, hat0, _, rfl, 1, rfl, a, xs, -1, _, rfl, rfl, hS, hatz, by show 2 ≤ sizeLine; decide, fun T hT => ?_⟩
      exact q' _ _ ⟨T, rfl, same_new hT, nt.tup, SqT.of upd_same⟩
    obtain ⟨T, rfl, s1, nt1, hT⟩ := e
    refine ⟨T, _, rfl, hT, rfl, _, _, rfl, p0, _, rfl, Same.t s1 hp0, rfl, _, _, rfl, _, _, rfl, rfl, _, _, rfl, pz, _, rfl, Same.t s1 hpz, rfl, _, _, rfl, _, _, rfl, rfl, rfl, ?_⟩
    refine sq_set (fun v H' => v = .int (nearOf R) ∧ H1 = H') (fun Q' q' => ?_) (fun v H' e => ?_)
    · refine ⟨_, rfl, _, rfl, _, _, rfl, rfl, _, rfl, _, rfl, _, _, rfl, rfl, _, _, rfl, rfl, ⟨by show (0 : Int) < yz - ya; omega, by show yz - ya < 1073741824; omega⟩, ?_⟩
      exact q' _ _ ⟨congrArg V.int near.symm, rfl⟩
    obtain ⟨rfl, rfl⟩ := e
    refine sq_set (fun v H' => ∃ fl, v = .ref fl ∧ H1 fl = none ∧ upd H1 fl (.lst []) = H') (fun Q' q' => ⟨Nat.zero_le _, fun fl hfl => q' _ _ ⟨fl, rfl, hfl, rfl⟩⟩) (fun v H' e => ?_)
    obtain ⟨fl, rfl, hfl, rfl⟩ := e
    have sf : Same H (upd H1 fl (.lst [])) := s1.trans (same_new hfl)
    have ntf : NoT (upd H1 fl (.lst [])) := nt1.lst
    have nfl : H fl = none := s1.free hfl
    have hfl0 : upd H1 fl (.lst []) fl = some (.lst []) := upd_same
    generalize upd H1 fl (.lst []) = H2 at sf ntf hfl0 ⊢
    have hS2 := Same.t sf hS
    have hR2 : Paired (RowI K H2) xs R := Paired.mapP hR fun _ _ r => r.same sf
    have ll : landsL R most = daysL R most.toNat (max 1 (nearOf R - 2)) (min 400 (nearOf R + 2) + 1 - max 1 (nearOf R - 2)).toNat := rfl
    rw [ll] at q
    generalize nearOf R = nr at q ⊢
    refine nrm [some (.ref a), some (.int most), some (.int ya), some (.int da), some (.int yz), some (.int dz), some (.int nr), some (.ref fl), none, none, none] rfl ?_
    refine sq_st (fun σ H' => (∃ y8 y9 y10, σ = [some (.ref a), some (.int most), some (.int ya), some (.int da), some (.int yz), some (.int dz), some (.int nr), some (.ref fl), y8, y9, y10]) ∧ Gr fl H2 H' ∧ ∃ vs, H' fl = some (.lst vs) ∧ Paired (TupL H') vs (daysL R most.toNat (max 1 (nr - 2)) (min 400 (nr + 2) + 1 - max 1 (nr - 2)).toNat)) (fun D' d' => ?_) (fun σ' H' e => ?_)
    · refine ⟨_, rfl, _, _, rfl, rfl, _, _, rfl, _, rfl, _, _, rfl, rfl, _, _, rfl, _, _, rfl, rfl, _, _, rfl, ?_⟩
      rw [show (if nr - 2 > 1 then nr - 2 else 1) = max 1 (nr - 2) by split <;> omega, show (if nr + 2 < 400 then nr + 2 else 400) = min 400 (nr + 2) by split <;> omega]
      have hn6 : (min 400 (nr + 2) + 1 - max 1 (nr - 2)).toNat ≤ 5 := by omega
      have hlo : 1 ≤ max 1 (nr - 2) := by omega
      have hhi : max 1 (nr - 2) + ((min 400 (nr + 2) + 1 - max 1 (nr - 2)).toNat : Int) ≤ 401 ∨ (min 400 (nr + 2) + 1 - max 1 (nr - 2)).toNat = 0 := by omega
      generalize (min 400 (nr + 2) + 1 - max 1 (nr - 2)).toNat = N at d' hn6 hhi ⊢
      generalize max 1 (nr - 2) = lo at d' hlo hhi ⊢
      refine for_range (lo := lo) (n := N) (fun i σ H' => (∃ y8 y9 y10, σ = [some (.ref a), some (.int most), some (.int ya), some (.int da), some (.int yz), some (.int dz), some (.int nr), some (.ref fl), y8, y9, y10]) ∧ Gr fl H2 H' ∧ ∃ vs, H' fl = some (.lst vs) ∧ Paired (TupL H') vs (daysL R most.toNat lo i))
        ⟨⟨_, _, _, rfl⟩, Gr.refl hfl0, [], hfl0, .nil⟩ (fun i σ H' hi hW => ?_) (fun σ H' hW => d' _ _ hW)
      obtain ⟨⟨y8, y9, y10, rfl⟩, g3, vs3, hf3, hP3⟩ := hW
      have dl := daysL_len (lo := lo) (most := most.toNat) hne (by omega) (k := i) (by omega)
      have stp : daysL R most.toNat lo (i + 1) = daysL R most.toNat lo i ++ botsL R (lo + i) most.toNat := flat_succ _ _
      rw [stp]
      generalize daysL R most.toNat lo i = dL at dl hP3 ⊢
      show tFor _ _ _ _ _ _
      refine nrm [some (.ref a), some (.int most), some (.int ya), some (.int da), some (.int yz), some (.int dz), some (.int nr), some (.ref fl), some (.int (lo + i)), y9, y10] rfl ?_
      refine ⟨_, rfl, _, _, rfl, rfl, _, _, rfl, ?_⟩
      rw [show (most + 1 - 1).toNat = most.toNat by congr 1; omega]
      refine for_range (lo := 1) (n := most.toNat) (fun j σ H' => (∃ y9 y10, σ = [some (.ref a), some (.int most), some (.int ya), some (.int da), some (.int yz), some (.int dz), some (.int nr), some (.ref fl), some (.int (lo + i)), y9, y10]) ∧ Gr fl H2 H' ∧ ∃ vs, H' fl = some (.lst vs) ∧ Paired (TupL H') vs (dL ++ botsL R (lo + i) j))
        ⟨⟨_, _, rfl⟩, g3, vs3, hf3, by show Paired _ _ (dL ++ []); rw [List.append_nil]; exact hP3⟩ (fun j σ H4 hj hW => ?_) (fun σ H4 hW => ?_)
      · obtain ⟨⟨y9, y10, rfl⟩, g4, vs4, hf4, hP4⟩ := hW
        have bl := botsL_len (d := lo + i) hne (k := j) (by omega)
        have stp : botsL R (lo + i) (j + 1) = botsL R (lo + i) j ++ topsL R (lo + i) (1 + j) (1 + j) := flat_succ _ _
        rw [stp, ← List.append_assoc]
        have bl' : (dL ++ botsL R (lo + i) j).length ≤ 13000 := by rw [List.length_append]; omega
        generalize dL ++ botsL R (lo + i) j = bL at bl' hP4 ⊢
        show tFor _ _ _ _ _ _
        refine nrm [some (.ref a), some (.int most), some (.int ya), some (.int da), some (.int yz), some (.int dz), some (.int nr), some (.ref fl), some (.int (lo + i)), some (.int (1 + (j : Int))), y10] rfl ?_
        refine ⟨_, rfl, _, rfl, ?_⟩
        rw [show (1 + (j : Int)).toNat = 1 + j by omega]
        refine for_range (lo := 0) (n := 1 + j) (fun k σ H' => (∃ y10, σ = [some (.ref a), some (.int most), some (.int ya), some (.int da), some (.int yz), some (.int dz), some (.int nr), some (.ref fl), some (.int (lo + i)), some (.int (1 + (j : Int))), y10]) ∧ Gr fl H2 H' ∧ ∃ vs, H' fl = some (.lst vs) ∧ Paired (TupL H') vs (bL ++ topsL R (lo + i) (1 + j) k))
          ⟨⟨_, rfl⟩, g4, vs4, hf4, by show Paired _ _ (bL ++ []); rw [List.append_nil]; exact hP4⟩ (fun k σ H5 hk hW => ?_) (fun σ H5 hW => ?_)
        · obtain ⟨⟨y10, rfl⟩, g5, vs5, hf5, hP5⟩ := hW
          have tl := topsL_len (d := lo + i) (b := 1 + j) hne (by omega) (by omega) (k := k) (by omega)
          have stp : topsL R (lo + i) (1 + j) (k + 1) = topsL R (lo + i) (1 + j) k ++ (if gcdI (1 + j) k = 1 then byL R (lo + i) k (1 + j) else []) := flat_succ _ _
          rw [stp, ← List.append_assoc]
          have tl' : (bL ++ topsL R (lo + i) (1 + j) k).length ≤ 14000 := by rw [List.length_append]; omega
          generalize bL ++ topsL R (lo + i) (1 + j) k = tL at tl' hP5 ⊢
          have yl : vs5.length = tL.length := Paired.length hP5
          show tIfS _ _ _ _ _ _
          refine nrm [some (.ref a), some (.int most), some (.int ya), some (.int da), some (.int yz), some (.int dz), some (.int nr), some (.ref fl), some (.int (lo + i)), some (.int (1 + (j : Int))), some (.int (k : Int))] (by rw [Int.zero_add]; rfl) ?_
          refine ⟨_, rfl, _, rfl, _, _, rfl, by omega, by omega, rfl, _, rfl, ite2 (fun c => ?_) (fun c => ?_)⟩
          · have c : gcdI (1 + j) k = 1 := V.int.inj (of_decide_eq_true c)
            rw [if_pos c]
            have hb := byL_len (d := lo + i) (t := (k : Int)) (b := 1 + j) hne (by omega)
            refine ⟨_, rfl, _, rfl, _, rfl, _, rfl, _, rfl, a, xs, R, _, _, _, rfl, g5.t hS2, Paired.mapP hR2 (fun _ _ r => r.gr g5), hne, by omega, ⟨by omega, by omega⟩, ⟨by omega, by omega⟩, ⟨by omega, by omega⟩, g5.nt ntf, fun ys p H6 s6 nt6 hp hy6 hP6 => ?_⟩
            have zl : ys.length = (byL R (lo + i) k (1 + j)).length := Paired.length hP6
            refine ⟨fl, p, vs5, ys, rfl, rfl, s6 _ _ hf5, hy6, by rw [sizeLine_eq]; omega, ⟨_, rfl⟩, (g5.same s6 (fun _ => nt6)).put, vs5 ++ ys, upd_same, ?_⟩
            have gl : Gr fl H6 (upd H6 fl (.lst (vs5 ++ ys))) := (Gr.refl (s6 _ _ hf5)).put
            exact paired_app (Paired.mapP hP5 fun _ _ r => (r.same s6).gr gl) (Paired.mapP hP6 fun _ _ r => r.gr gl)
          · have c : ¬ gcdI (1 + j) k = 1 := fun z => c (decide_eq_true (congrArg V.int z))
            rw [if_neg c, List.append_nil]
            exact ⟨⟨_, rfl⟩, g5, vs5, hf5, hP5⟩
        · obtain ⟨⟨y10, rfl⟩, g5, vs5, hf5, hP5⟩ := hW
          exact ⟨⟨_, _, rfl⟩, g5, vs5, hf5, hP5⟩
      · obtain ⟨⟨y9, y10, rfl⟩, g5, vs5, hf5, hP5⟩ := hW
        exact ⟨⟨_, _, _, rfl⟩, g5, vs5, hf5, hP5⟩
    · obtain ⟨⟨y8, y9, y10, rfl⟩, g, vs, hf, hP⟩ := e
      refine ⟨_, rfl, fl, vs, _, rfl, SqL.of hf, hP, fun L hL => ?_, fun ys Ms p hP2 hpm hso _ hp => ?_⟩
      · obtain ⟨d, t, b, s, _, _, _, _, _, _, _, rfl, _⟩ := (mem_daysL hne).mp hL
        show 1 ≤ 4
        decide
      · have s3 : Same H H' := fun b o e => g.keep b o (ne_of_none e nfl) (sf b o e)
        have s4 := same_new (o := .lst ys) hp
        exact q ys Ms p _ (s3.trans s4) (g.nt ntf).lst (s3.free hp) upd_same (Paired.mapP hP2 fun _ _ r => r.same s4) hpm hso

def sp_Realm_init (K : PySem.W.Frag) (C : Addr) : Sp := fun vs H Q _ => ∃ (a q dx : Addr) (L : L4), vs = [.ref a, .ref q] ∧ H a = some (.ins C dx []) ∧ LdL K H q L ∧ OkL L ∧ NoT H ∧
  ∀ l H', (∀ b o, b ≠ a → H b = some o → H' b = some o) → H l = none → NoT H' → RlmAt K C H' a l [(none, L)] → Q .non H'
theorem d_Realm_init (A : All K mg) {C : Addr} (hC : Rm K mg "Realm" C) : Dm P w K mg base CX0 C "__init__" 4 ["self", "land"] (sp_Realm_init K C) := by
  obtain ⟨f, fd, F, hm, hb⟩ := A.t_Realm_init C hC
  refine ⟨f, fd, F.ok sc_Realm_init (fun vs H Q E h => ?_) (fun cdv A' outer s H vs Q E hr h => ?_), hm, hb⟩
  · obtain ⟨a, q, dx, L, rfl, _⟩ := h; rfl
  · obtain ⟨a, q, dx, ⟨d, t, b, s⟩, rfl, ha, hl, hk, nt, k⟩ := h
    refine ⟨_, (pss_cons (ps_expr (pe_callD (d_need_land A) hr (by decide) (by rfl) pass0 (pa_cons (pv 1) pa_nil)))
 (pss_one (ps_fld (pv 0) (pe_lst (pa_cons (pe_tup (pa_cons pe_non (pa_cons (pv 1) pa_nil))) pa_nil)) (by rfl)))), ?_⟩
    refine ⟨_, rfl, q, d, t, b, s, rfl, hl, hk, ?_⟩
    refine ⟨_, rfl, by show 2 ≤ sizeLine; decide, fun p np => ⟨by show 1 ≤ sizeLine; decide, fun l nl => ?_⟩⟩
    have npl : p ≠ l := fun e => by rw [e, upd_same] at nl; cases nl
    have nl0 : H l = none := by rw [upd_ne npl.symm] at nl; exact nl
    have nap : a ≠ p := ne_of_none ha np
    have nal : a ≠ l := ne_of_none ha nl0
    refine ⟨_, rfl, a, C, dx, [], rfl, (by rw [upd_ne nal, upd_ne nap]; exact ha), hC.cl, hC.no, (by show 0 < 1000; decide), ?_⟩
    have keep : ∀ b o, b ≠ a → H b = some o → upd (upd (upd H p (.tup [.non, .ref q])) l (.lst [.ref p])) a (.ins C dx (putF "rows" (.ref l) [])) b = some o := fun b o nb e => by
      rw [upd_ne nb, upd_ne (ne_of_none e nl0), upd_ne (ne_of_none e np)]
      exact e
    have keepT : ∀ c xs, SqT K H c xs → SqT K (upd (upd (upd H p (.tup [.non, .ref q])) l (.lst [.ref p])) a (.ins C dx (putF "rows" (.ref l) []))) c xs := fun c xs h => by
      rcases h with (h | ⟨o, h⟩) | h
      · exact .inl (.inl (keep _ _ (ne_of h ha (by intro z; cases z)) h))
      · exact .inl (.inr ⟨o, keep _ _ (ne_of h ha (by intro z; cases z)) h⟩)
      · exact .inr h
    refine k l _ keep nl0 ((nt.tup.lst).upd rfl) ⟨dx, [.ref p], upd_same, ?_, .cons ⟨p, q, rfl, .inl (.inl ?_), keepT _ _ hl, hk⟩ .nil, Nat.le_refl _, by show 1 ≤ 1000; decide⟩
    · rw [upd_ne nal.symm, upd_same]
    · rw [upd_ne nap.symm, upd_ne npl, upd_same]; rfl

def sp_Realm_change (K : PySem.W.Frag) (C : Addr) : Sp := fun vs H Q _ => ∃ (a l q : Addr) (n : Int) (L : L4) (R : List RwL), vs = [.ref a, .int n, .ref q] ∧ RlmAt K C H a l R ∧ Far n ∧ LdL K H q L ∧ OkL L ∧ NoT H ∧ R.length < 1000 ∧
  (∀ r m, R[R.length - 1]? = some r → r.1 = some m → m < n) ∧ ∀ H', Gr l H H' → NoT H' → RlmAt K C H' a l (R ++ [(some n, L)]) → Q .non H'
theorem d_Realm_change (A : All K mg) {C : Addr} (hC : Rm K mg "Realm" C) : Dm P w K mg base CX0 C "change" 4 ["self", "day", "land"] (sp_Realm_change K C) := by
  obtain ⟨f, fd, F, hm, hb⟩ := A.t_Realm_change C hC
  refine ⟨f, fd, F.ok sc_Realm_change (fun vs H Q E h => ?_) (fun cdv A' outer s H vs Q E hr h => ?_), hm, hb⟩
  · obtain ⟨a, l, q, n, L, R, rfl, _⟩ := h; rfl
  · obtain ⟨a, l, q, n, ⟨d, t, b, s⟩, R, rfl, ⟨dx, vs, h1, h2, h3, h4, h5⟩, hn, hl, hk, nt, hR, hlast, k⟩ := h
    have elen : vs.length = R.length := Paired.length h3
    obtain ⟨v, hv⟩ : ∃ v, vs[vs.length - 1]? = some v := ⟨_, List.getElem?_eq_getElem (by omega)⟩
    obtain ⟨⟨o, L9⟩, hr2, p, q2, rfl, hp, _, _⟩ := Paired.row h3 hv
    rw [elen] at hr2
    refine ⟨_, (pss_cons (ps_expr (pe_callD (d_need_day A) hr (by decide) (by rfl) pass0 (pa_cons (pv 1) pa_nil)))
 (pss_cons (ps_set (i := 3) sc_Realm_change.nd rfl (Or.inl rfl) (pe_ix ix_seq (pe_ix ix_list (pe_fld (pv 0) (by rfl)) (pe_un un_neg pe_int) (fun _ _ => rfl)) pe_int (fun _ _ => rfl)))
 (pss_cons (ps_if (PW.pt (pw_and (pt_cmpR op_notN (pv 3) pe_non (nomark _)) (pw_and1 (pt_cmpR op_le (pv 1) (pv 3) (nomark _)))))
 (pss_one ps_never)
 pss_nil)
 (pss_cons (ps_expr (pe_callD (d_need_land A) hr (by decide) (by rfl) pass0 (pa_cons (pv 2) pa_nil)))
 (pss_one (ps_expr (pe_bm PySem.F.plainAttrs_list PySem.F.slot_list_append PySem.F.type_list_append mt_append (pe_fld (pv 0) (by rfl)) (pa_cons (pe_tup (pa_cons (pv 1) (pa_cons (pv 2) pa_nil))) pa_nil)))))))), ?_⟩
    refine sq_st0 (fun H' => H = H') (fun D' d' => ⟨_, rfl, n, rfl, hn, d' _ rfl⟩) (fun H' e => ?_)
    subst e
    have nla : l ≠ a := ne_of h2 h1 (by intro z; cases z)
    have hat : atI vs (-1) = some (.ref p) := by
      unfold atI ixN
      rw [if_neg (by decide), if_pos (by omega)]
      show vs[_]? = _
      rw [← hv]
      congr 1
      omega
    refine sq_set (fun v H' => v = oV o ∧ H = H') (fun Q' q' => ⟨_, rfl, a, C, dx, _, _, rfl, h1, hC.cl, hC.no, fld_rows, _, rfl, l, vs, -1, .ref p, rfl, rfl, SqL.of h2, hat, .inr (.inl ⟨p, _, 0, _, rfl, rfl, hp, atI_nat rfl, q' _ _ ⟨rfl, rfl⟩⟩)⟩) (fun v H' e => ?_)
    obtain ⟨rfl, rfl⟩ := e
    refine sq_if (fun H' => H = H') (fun Q' q' => ?_) (fun H' e => ?_)
    · cases o with
      | none => exact ⟨_, rfl, rfl, _, rfl, iteF (q' H rfl)⟩
      | some m =>
        refine ⟨_, rfl, rfl, _, rfl, iteT ⟨_, rfl, _, rfl, _, _, rfl, rfl, _, rfl, ?_⟩⟩
        rw [decide_eq_false (by have := hlast _ m hr2 rfl; omega)]
        exact q' H rfl
    · subst e
      refine ⟨_, rfl, q, d, t, b, s, rfl, hl, hk, ?_⟩
      refine ⟨_, rfl, a, C, dx, _, _, rfl, h1, hC.cl, hC.no, fld_rows, .inl ⟨rfl, vs, SqL.of h2⟩, _, rfl, _, rfl, by show 2 ≤ sizeLine; decide, fun p2 np2 => ?_⟩
      have h2' : upd H p2 (.tup [.int n, .ref q]) l = some (.lst vs) := by rw [upd_ne (ne_of_none h2 np2)]; exact h2
      refine ⟨l, vs, _, rfl, rfl, h2', sz_small (by omega), ?_⟩
      have g : Gr l H (upd (upd H p2 (.tup [.int n, .ref q])) l (.lst (vs ++ [.ref p2]))) := ((Gr.refl h2).new np2 rfl).put
      refine k _ g (g.nt nt) ⟨dx, vs ++ [.ref p2], g.keep _ _ nla.symm h1, upd_same, ?_, by rw [List.length_append]; omega, by rw [List.length_append, List.length_singleton]; omega⟩
      refine Paired.snoc ⟨p2, q, rfl, .inl (.inl ?_), g.t hl, hk⟩ (Paired.mapP h3 fun _ _ r => r.gr g)
      rw [upd_ne (ne_of_none h2 np2).symm, upd_same]
      rfl

def sp_Realm_land_of (K : PySem.W.Frag) (C : Addr) : Sp := fun vs H Q _ => ∃ (a l : Addr) (R : List RwL) (n : Int), vs = [.ref a, .int n] ∧ RlmAt K C H a l R ∧ NoT H ∧ Q (.int (landOf R n)) H
theorem d_Realm_land_of (A : All K mg) {C : Addr} (hC : Rm K mg "Realm" C) : Dm P w K mg base CX0 C "land_of" 1 ["self", "day"] (sp_Realm_land_of K C) := by
  obtain ⟨f, fd, F, hm, hb⟩ := A.t_Realm_land_of C hC
  refine ⟨f, fd, Fun.okF F sc_Realm_land_of (fun vs H Q E h => ?_) (fun cdv A' outer s H vs Q E hr h => ?_), hm, hb⟩
  · obtain ⟨a, l, R, n, rfl, _⟩ := h; rfl
  · obtain ⟨a, l, R, n, rfl, ⟨dx, vs, h1, h2, h3, h4, h5⟩, nt, k⟩ := h
    refine ⟨_, (pss_one (ps_ret (pe_op op_sub (pe_callB call_len_seq (by rfl) A.b_len (by decide +kernel) (pa_cons (pe_lc (own := [("row", 2)]) (g := gName 2) (by rfl) sc_Realm_land_of.nd (pi_list (pe_fld (pv 0) (by rfl))) (blkOk_by (own := [("row", 2)]) (N := ["self", "day", "row"]) (sc := defScope s_Realm_land_of) (by decide +kernel)) (fun _ _ _ _ _ => (pg_name (i := 2) sc_Realm_land_of.nd rfl (Or.inl rfl))) (fun _ _ _ _ _ => (pts_one (PW.pt (pw_or (pt_cmpR op_isN (pe_ix (r := rIx K) ix_seq (pv 2) pe_int (fun _ _ => rfl)) pe_non (nomark _)) (pw_or1 (pt_cmpR op_le (pe_ix (r := rIx K) ix_seq (pv 2) pe_int (fun _ _ => rfl)) (pv 1) (nomark _))))))) (fun _ _ _ _ _ => (pv 2))) pa_nil)) pe_int))), ?_⟩
    refine ⟨_, rfl, a, C, dx, _, _, rfl, h1, hC.cl, hC.no, fld_rows, l, rfl, ⟨vs, SqL.of h2⟩, fun D nD => ?_⟩
    refine lc_rows (R := R) (pr := inR n) (SqL.of h2) h3 nD h5 (fun _ => rfl) (fun _ => rfl) (fun v r H' hr Q' q' => ?_) (fun acc ea => ?_)
    · obtain ⟨o, L⟩ := r
      obtain ⟨p, q, rfl, hp, hq, _⟩ := hr
      cases o with
      | none =>
        refine ⟨_, rfl, .inr (.inl ⟨p, _, 0, _, rfl, rfl, hp, atI_nat rfl, rfl, _, rfl, ?_⟩)⟩
        exact iteT q'
      | some m =>
        refine ⟨_, rfl, .inr (.inl ⟨p, _, 0, _, rfl, rfl, hp, atI_nat rfl, rfl, _, rfl, ?_⟩)⟩
        refine iteF ?_
        refine ⟨_, rfl, .inr (.inl ⟨p, _, 0, _, rfl, rfl, hp, atI_nat rfl, _, rfl, _, _, rfl, rfl, _, rfl, ?_⟩)⟩
        exact q'
    · refine ⟨_, acc, rfl, .inl (SqL.of upd_same), ?_⟩
      walk_at "g"
      rw [ea]
      exact fg_same nt (same_new nD) k

def sp_Realm_date (K : PySem.W.Frag) (C : Addr) : Sp := fun vs H Q _ => ∃ (a l : Addr) (R : List RwL) (r : RwL) (n : Int) (j : Nat), vs = [.ref a, .int n] ∧ RlmAt K C H a l R ∧ Far n ∧ NoT H ∧ landOf R n = (j : Int) ∧ R[j]? = some r ∧
  ∀ p, H p = none → Q (.ref p) (upd H p (.tup [.int (yoL r.2 n), .int (n - fdL r.2 (yoL r.2 n))]))
theorem d_Realm_date (A : All K mg) {C : Addr} (hC : Rm K mg "Realm" C) : Dm P w K mg base CX0 C "date" 4 ["self", "day"] (sp_Realm_date K C) := by
  obtain ⟨f, fd, F, hm, hb⟩ := A.t_Realm_date C hC
  refine ⟨f, fd, F.ok sc_Realm_date (fun vs H Q E h => ?_) (fun cdv A' outer s H vs Q E hr h => ?_), hm, hb⟩
  · obtain ⟨a, l, R, r, n, j, rfl, _⟩ := h; rfl
  · obtain ⟨a, l, R, ⟨o, d, t, b, s⟩, n, j, rfl, hR, hn, nt, ej, hj, k⟩ := h
    obtain ⟨dx, vs, h1, h2, h3, h4, h5⟩ := id hR
    obtain ⟨v, hv, p, q, rfl, hp, hq, hk⟩ := Paired.wor h3 hj
    refine ⟨_, (pss_cons (ps_expr (pe_callD (d_need_day A) hr (by decide) (by rfl) pass0 (pa_cons (pv 1) pa_nil)))
 (pss_one (ps_ret (pe_callD (d_dated A) hr (by decide) (by rfl) pass0 (pa_cons (pe_ix ix_seq (pe_ix ix_list (pe_fld (pv 0) (by rfl)) (pe_methD (d_Realm_land_of A hC) hC.cl hr (by decide) pass0 (pv 0) (pa_cons (pv 1) pa_nil)) (fun _ _ => rfl)) pe_int (fun _ _ => rfl)) (pa_cons (pv 1) pa_nil)))))), ?_⟩
    refine ⟨_, rfl, n, rfl, hn, ?_⟩
    refine ⟨_, rfl, a, C, dx, _, _, rfl, h1, hC.cl, hC.no, fld_rows, _, rfl, a, dx, _, rfl, h1, fld_none (by decide +kernel), _, rfl, a, l, R, n, rfl, hR, nt, ?_⟩
    rw [ej]
    refine ⟨l, vs, _, .ref p, rfl, rfl, SqL.of h2, atI_nat hv, .inr (.inl ⟨p, _, 1, .ref q, rfl, rfl, hp, atI_nat rfl, ?_⟩)⟩
    exact ⟨_, rfl, q, d, t, b, s, n, rfl, hq, hk, k⟩

def sp_Realm_days_of (K : PySem.W.Frag) (C : Addr) : Sp := fun vs H Q _ => ∃ (a l : Addr) (R : List RwL) (y pl : Int), vs = [.ref a, .int y, .int pl] ∧ RlmAt K C H a l R ∧ Far y ∧ (0 ≤ pl ∧ pl ≤ 400) ∧ NoT H ∧
  ∀ (ns : List Int) p H', ns.Perm (dayR R y pl R.length) → ns.Pairwise (· ≤ ·) → Same H H' → NoT H' → H p = none → H' p = some (.lst (ns.map V.int)) → Q (.ref p) H'
theorem d_Realm_days_of (A : All K mg) {C : Addr} (hC : Rm K mg "Realm" C) : Dm P w K mg base CX0 C "days_of" 4 ["self", "year", "place"] (sp_Realm_days_of K C) := by
  obtain ⟨f, fd, F, hm, hb⟩ := A.t_Realm_days_of C hC
  refine ⟨f, fd, F.ok sc_Realm_days_of (fun vs H Q E h => ?_) (fun cdv A' outer s H vs Q E hr h => ?_), hm, hb⟩
  · obtain ⟨a, l, R, y, pl, rfl, _⟩ := h; rfl
  · obtain ⟨a, l, R, y, pl, rfl, hR, hy, hp, nt, k⟩ := h
    obtain ⟨dx, vs, h1, h2, h3, h4, h5⟩ := id hR
    have elen : vs.length = R.length := Paired.length h3
    refine ⟨_, (pss_cons (ps_expr (pe_callD (d_need_year A) hr (by decide) (by rfl) pass0 (pa_cons (pv 1) pa_nil)))
 (pss_cons (ps_if (pt_not (pt_val (pe_callD (d_is_from A) hr (by decide) (by rfl) pass0 (pa_cons (pv 2) (pa_cons pe_int (pa_cons (pe_glob (v := .int 400) (by rfl) A.c_MOST_DAYS.choose_spec ⟨_, rfl⟩) pa_nil))))))
 (pss_one ps_never)
 pss_nil)
 (pss_cons (ps_set (i := 3) sc_Realm_days_of.nd rfl (Or.inl rfl) (pe_lst pa_nil))
 (pss_cons (ps_for PassesOwn.never (by rfl) (pi_enum (by rfl) A.b_enumerate (pa_cons (pe_fld (pv 0) (by rfl)) pa_nil)) (pg_tup (by rfl) (pgs_cons (pg_name (i := 4) sc_Realm_days_of.nd rfl (Or.inl rfl)) (pgs_cons (pg_tup (by rfl) (pgs_cons (pg_name (i := 5) sc_Realm_days_of.nd rfl (Or.inl rfl)) (pgs_cons (pg_name (i := 6) sc_Realm_days_of.nd rfl (Or.inl rfl)) pgs_nil))) pgs_nil)))
 (pss_cons (ps_set (i := 7) sc_Realm_days_of.nd rfl (Or.inl rfl) (pe_op op_add (pe_callD (d_first_day A) hr (by decide) (by rfl) pass0 (pa_cons (pv 6) (pa_cons (pv 1) pa_nil))) (pv 2)))
 (pss_one (ps_if (PW.pt (pw_and (pt_cmpR (op_eqD hr.units) (pe_callD (d_dated A) hr (by decide) (by rfl) pass0 (pa_cons (pv 6) (pa_cons (pv 7) pa_nil))) (pe_tup (pa_cons (pv 1) (pa_cons (pv 2) pa_nil))) (nomark _)) (pw_and1 (pt_cmpR op_eq (pe_methD (d_Realm_land_of A hC) hC.cl hr (by decide) pass0 (pv 0) (pa_cons (pv 7) pa_nil)) (pv 4) (nomark _)))))
 (pss_one (ps_expr (pe_bm PySem.F.plainAttrs_list PySem.F.slot_list_append PySem.F.type_list_append mt_append (pv 3) (pa_cons (pv 7) pa_nil))))
 pss_nil))))
 (pss_one (ps_ret (pe_callB cr_sortedI (by rfl) A.b_sorted (by decide +kernel) (pa_cons (pv 3) pa_nil)))))))), ?_⟩
    refine sq_st0 (fun H' => H = H') (fun D' d' => ⟨_, rfl, y, rfl, hy, d' _ rfl⟩) (fun H' e => ?_)
    subst e
    refine sq_if (fun H' => H = H') (fun Q' q' => ?_) (fun H' e => ?_)
    · refine ⟨_, rfl, _, _, _, _, rfl, .int pl, _, rfl, ?_⟩
      rw [isFrom_yes hp.1 hp.2]
      exact q' H rfl
    subst e
    refine sq_set (fun v H' => ∃ fl, v = .ref fl ∧ H fl = none ∧ upd H fl (.lst []) = H') (fun Q' q' => ⟨Nat.zero_le _, fun fl hfl => q' _ _ ⟨fl, rfl, hfl, rfl⟩⟩) (fun v H' e => ?_)
    obtain ⟨fl, rfl, hfl, rfl⟩ := e
    refine sq_st (fun σ H' => (∃ y4 y5 y6 y7, σ = [some (.ref a), some (.int y), some (.int pl), some (.ref fl), y4, y5, y6, y7]) ∧ Gr fl (upd H fl (.lst [])) H' ∧ H' fl = some (.lst ((dayR R y pl R.length).map V.int))) (fun D' d' => ?_) (fun σ' H' e => ?_)
    · have nlf : l ≠ fl := ne_of_none h2 hfl
      have naf : a ≠ fl := ne_of_none h1 hfl
      have sf : Same H (upd H fl (.lst [])) := same_new hfl
      refine ⟨_, rfl, a, C, dx, _, _, rfl, sf _ _ h1, hC.cl, hC.no, fld_rows, l, vs, rfl, SqL.of (sf _ _ h2), ?_⟩
      refine for_enum (xs := vs) (fun i σ H' => (∃ y4 y5 y6 y7, σ = [some (.ref a), some (.int y), some (.int pl), some (.ref fl), y4, y5, y6, y7]) ∧ Gr fl (upd H fl (.lst [])) H' ∧ H' fl = some (.lst ((dayR R y pl i).map V.int)))
        ⟨⟨_, _, _, _, rfl⟩, Gr.refl upd_same, upd_same⟩ (fun i σ H' _ hW => SqL.of (hW.2.1.keep _ _ nlf (sf _ _ h2))) (fun i x T σ H' hx hT hW => ?_) (fun σ H' hW => ?_)
      · obtain ⟨⟨y4, y5, y6, y7, rfl⟩, g, hf⟩ := hW
        obtain ⟨⟨o, d, t, b, s⟩, hr, p, q, rfl, hp2, hq, hk⟩ := Paired.row h3 hx
        have gT : Gr fl (upd H fl (.lst [])) (upd H' T (.tup [.int (i : Nat), .ref p])) := g.new hT rfl
        have hf2 : upd H' T (.tup [.int (i : Nat), .ref p]) fl = some (.lst ((dayR R y pl i).map V.int)) := by rw [upd_ne (ne_of_none hf hT)]; exact hf
        have hp3 := gT.t (Same.t sf hp2)
        have hq3 : Ld K _ q d t b s := gT.t (Same.t sf hq)
        refine ⟨T, _, rfl, .inl (.inl upd_same), rfl, ?_⟩
        refine ⟨_, _, rfl, _, _, rfl, p, _, rfl, hp3, rfl, _, _, rfl, _, _, rfl, rfl, rfl, ?_⟩
        show tSeq _ _ _ _ _
        refine sq_set (fun v H4 => v = .int (fday d t b s y + pl) ∧ upd H' T (.tup [.int (i : Nat), .ref p]) = H4) (fun Q' q' => ⟨_, rfl, _, rfl, q, d, t, b, s, y, rfl, hq3, hk, _, rfl, _, _, rfl, rfl, q' _ _ ⟨rfl, rfl⟩⟩) (fun v H4 e => ?_)
        obtain ⟨rfl, rfl⟩ := e
        refine ⟨_, rfl, _, rfl, q, d, t, b, s, fday d t b s y + pl, rfl, hq3, hk, fun p1 np1 => ⟨_, rfl, _, rfl, by show 2 ≤ sizeLine; decide, fun p2 np2 => ?_⟩⟩
        have G1 := gT.new np1 (o := .tup [.int (yof d t b s (fday d t b s y + pl)), .int (fday d t b s y + pl - fday d t b s (yof d t b s (fday d t b s y + pl)))]) rfl
        have G2 := G1.new np2 (o := .tup [.int y, .int pl]) rfl
        have hf3 := (same_new (o := .tup [.int (yof d t b s (fday d t b s y + pl)), .int (fday d t b s y + pl - fday d t b s (yof d t b s (fday d t b s y + pl)))]) np1) _ _ hf2
        have hf4 := (same_new (o := .tup [.int y, .int pl]) np2) _ _ hf3
        have nt2 := G2.nt nt.lst
        have hh : hitR R y pl i (o, d, t, b, s) = (decide ([yof d t b s (fday d t b s y + pl), fday d t b s y + pl - fday d t b s (yof d t b s (fday d t b s y + pl))] = [y, pl]) && decide (landOf R (fday d t b s y + pl) = (i : Int))) := by rw [two_eq]; rfl
        have stp : dayR R y pl (i + 1) = if hitR R y pl i (o, d, t, b, s) = true then dayR R y pl i ++ [fday d t b s y + pl] else dayR R y pl i := by
          show (match R[i]? with | none => dayR R y pl i | some r => if hitR R y pl i r = true then dayR R y pl i ++ [fdL r.2 y + pl] else dayR R y pl i) = _
          rw [hr]
          rfl
        have no : hitR R y pl i (o, d, t, b, s) = false → dayR R y pl (i + 1) = dayR R y pl i := fun z => by rw [stp, z]; rfl
        refine eq_tints (ns := [yof d t b s (fday d t b s y + pl), fday d t b s y + pl - fday d t b s (yof d t b s (fday d t b s y + pl))]) (ms := [y, pl]) (SqT.of (same_new np2 _ _ upd_same)) (SqT.of upd_same) ⟨_, rfl, ite2 (fun c => ?_) (fun c => ?_)⟩
        · refine ⟨_, rfl, a, dx, _, rfl, G2.keep _ _ naf (sf _ _ h1), fld_none (by decide +kernel), _, rfl, a, l, R, _, rfl, (hR.same sf).gr G2 nlf, nt2, _, rfl, rfl, _, rfl, ite2 (fun c2 => ?_) (fun c2 => ?_)⟩
          · have c3 : landOf R (fday d t b s y + pl) = (i : Int) := V.int.inj (of_decide_eq_true c2)
            have hy2 : hitR R y pl i (o, d, t, b, s) = true := by rw [hh, c, decide_eq_true c3]; rfl
            have dl := dayR_len R y pl i
            have ilt : i < vs.length := (List.getElem?_eq_some_iff.mp hx).1
            refine ⟨_, rfl, .inl ⟨rfl, _, SqL.of hf4⟩, _, rfl, fl, _, _, rfl, rfl, hf4, sz_small (by rw [List.length_map]; omega), ⟨_, _, _, _, rfl⟩, G2.put, ?_⟩
            rw [upd_same, stp, if_pos hy2, List.map_append]
            rfl
          · refine ⟨⟨_, _, _, _, rfl⟩, G2, ?_⟩
            rw [hf4, no]
            rw [hh, decide_eq_false (fun z => c2 (decide_eq_true (congrArg V.int z))), Bool.and_false]
        · refine ⟨⟨_, _, _, _, rfl⟩, G2, ?_⟩
          rw [hf4, no]
          rw [hh, Bool.eq_false_iff.mpr c]
          rfl
      · refine d' _ _ ⟨hW.1, hW.2.1, ?_⟩
        rw [← elen]
        exact hW.2.2
    · obtain ⟨⟨y4, y5, y6, y7, rfl⟩, g, hf⟩ := e
      refine ⟨_, rfl, fl, _, rfl, SqL.of hf, fun ns' p h1' h2' hp' => ?_⟩
      have s1 : Same H H' := fun b o e => g.keep b o (ne_of_none e hfl) (same_new hfl b o e)
      have s2 : Same H (upd H' p (.lst (ns'.map V.int))) := s1.trans (same_new hp')
      exact k ns' p _ h1' h2' s2 (g.nt nt.lst).lst (s1.free hp') upd_same

def sp_law_deck : Sp := fun vs H Q _ => ∃ (c t : Int) (n : Nat), vs = [.int c, .int t] ∧ NoT H ∧ 0 ≤ t ∧ t ≤ (n : Int) ∧ ∀ p H', H p = none → Same H H' → Dk n H' p → Q (.ref p) H'
theorem d_law_deck (A : All K mg) : Df P w K mg base CX0 "_law_deck" 1 ["cell", "turn"] sp_law_deck := by
  obtain ⟨f, fd, F, hm, hb⟩ := A.t_law_deck
  refine ⟨f, fd, F.ok sc_law_deck (fun vs H Q E h => ?_) (fun cdv A' outer s H vs Q E hr h => ?_), hm, F.kp, hb⟩
  · obtain ⟨c, t, n, rfl, _⟩ := h; rfl
  · obtain ⟨c, t, n, rfl, nt, t0, t1, q⟩ := h
    refine ⟨_, (pss_cons (ps_if (pt_cmpR op_ge (pv 0) (pe_op op_pow pe_int pe_int) (nomark _))
 (pss_one (ps_ret (pe_lst (pa_cons (pe_op op_sub (pv 0) (pe_op op_pow pe_int pe_int)) (pa_cons (pe_op op_mod (pv 0) pe_int) (pa_cons (pv 1) pa_nil))))))
 pss_nil)
 (pss_one (ps_ret (pe_lst (pa_cons pe_int (pa_cons (pe_op op_mod (pv 0) pe_int) (pa_cons (pv 1) pa_nil))))))), ?_⟩
    refine ⟨_, rfl, _, _, rfl, rfl, ⟨by decide, by decide, by decide⟩, ?_⟩
    walk_at "g"
    refine ite2 (fun e => ?_) (fun e => ?_)
    · refine ⟨_, rfl, _, _, rfl, rfl, ⟨by decide, by decide, by decide⟩, ?_⟩
      walk_at "g"
      refine ⟨by show 3 ≤ sizeLine; decide, fun p hp => q p _ hp (same_new hp) ⟨nt.lst, _, _, _, upd_same, ?_, ?_, t0, t1⟩⟩ <;> omega
    · walk_at "g"
      refine ⟨by show 3 ≤ sizeLine; decide, fun p hp => q p _ hp (same_new hp) ⟨nt.lst, _, _, _, upd_same, ?_, ?_, t0, t1⟩⟩ <;> omega

def sp_law_pick : Sp := fun vs H Q _ => ∃ (d : Addr) (n : Nat) (z : Int), vs = [.ref d, .int z] ∧ Dk n H d ∧ n ≤ 100000000 ∧ 0 < z ∧ z < 1000000000000000000000000000000 ∧ ∀ r H', 0 ≤ r → r < z → Dk (n + 1) H' d → Gr d H H' → Q (.int r) H'
theorem d_law_pick (A : All K mg) : Df P w K mg base CX0 "_law_pick" 1 ["deck", "size"] sp_law_pick := by
  obtain ⟨f, fd, F, hm, hb⟩ := A.t_law_pick
  refine ⟨f, fd, F.ok sc_law_pick (fun vs H Q E h => ?_) (fun cdv A' outer s H vs Q E hr h => ?_), hm, F.kp, hb⟩
  · obtain ⟨d, n, z, rfl, _⟩ := h; rfl
  · obtain ⟨d, n, z, rfl, ⟨nt, x, y, c, hd, y0, y1, c0, c1⟩, hn, z0, z1, q⟩ := h
    have hS : SqL K H d [.int x, .int y, .int c] := SqL.of hd
    refine ⟨_, (pss_cons (ps_if (pt_cmpR op_gt (pe_ix ix_list (pv 0) pe_int (fun _ _ => rfl)) pe_int (nomark _))
 (pss_cons (ps_set (i := 2) sc_law_pick.nd rfl (Or.inl rfl) (pe_op op_mod (pe_ix ix_list (pv 0) pe_int (fun _ _ => rfl)) (pv 1)))
 (pss_cons (ps_asg (pe_op op_fdivW (pe_ix ix_list (pv 0) pe_int (fun _ _ => rfl)) (pv 1)) (pg_sub (pv 0) pe_int set_list))
 (pss_one (ps_ret (pv 2)))))
 pss_nil)
 (pss_cons (ps_asg (pe_op op_add (pe_ix ix_list (pv 0) pe_int (fun _ _ => rfl)) pe_int) (pg_sub (pv 0) pe_int set_list))
 (pss_cons (ps_set (i := 3) sc_law_pick.nd rfl (Or.inl rfl) (pe_op op_mod (pe_op op_pow (pe_op op_add (pe_ix ix_list (pv 0) pe_int (fun _ _ => rfl)) (pe_op op_mul pe_int (pe_ix ix_list (pv 0) pe_int (fun _ _ => rfl)))) pe_int) pe_int))
 (pss_cons (ps_set (i := 2) sc_law_pick.nd rfl (Or.inl rfl) (pe_op op_fdiv (pe_op op_mod (pe_op op_pow (pe_op op_add (pv 3) (pe_op op_mul pe_int (pe_ix ix_list (pv 0) pe_int (fun _ _ => rfl)))) pe_int) pe_int) pe_int))
 (pss_one (ps_ret (pe_op op_mod (pv 2) (pv 1)))))))), ?_⟩
    walk_at "g"
    refine ite2 (fun e => ?_) (fun e => ?_)
    · walk_at "g"
      refine ⟨wide_div (b := 100) z0 (by omega) (by decide) (by decide), ?_⟩
      refine ⟨_, rfl, d, _, _, 0, rfl, rfl, hd, rfl, ?_⟩
      refine ⟨_, rfl, ?_⟩
      exact q _ _ (Int.emod_nonneg _ (by omega)) (Int.emod_lt_of_pos _ z0) ⟨nt.lst, _, _, _, upd_same, y0, y1, c0, by omega⟩ ((Gr.refl hd).put)
    · refine ⟨_, rfl, _, _, _, _, rfl, rfl, hS, (by rfl), _, _, rfl, rfl, ?_⟩
      refine ⟨_, rfl, d, _, _, 2, rfl, rfl, hd, rfl, ?_⟩
      have hS2 : SqL K (upd H d (.lst [.int x, .int y, .int (c + 1)])) d [.int x, .int y, .int (c + 1)] := SqL.of upd_same
      refine ⟨_, rfl, _, _, _, _, rfl, rfl, hS2, (by rfl), _, rfl, _, _, _, _, rfl, rfl, hS2, (by rfl), _, _, rfl, rfl, Or.inl ⟨by omega, by omega⟩, _, _, rfl, rfl, _, _, rfl, rfl, ⟨by decide, by decide, by omega⟩, ?_⟩
      walk_at "g"
      exact q _ _ (Int.emod_nonneg _ (by omega)) (Int.emod_lt_of_pos _ z0) ⟨nt.lst, _, _, _, upd_same, y0, y1, by omega, by omega⟩ ((Gr.refl hd).put)

theorem not_ne {a b : V} {A B : Prop} (e : a = b) (h : B) : if (!decide (a = b)) = true then A else B := by rw [decide_eq_true e]; exact h
theorem dp_bls {K : PySem.W.Frag} {H : Hp} : ∀ bs : List Bool, DpAll K H (bs.map V.bl) (bs.map PyData.bool)
  | [] => .nil
  | b :: bs => .cons (.bl b) (dp_bls bs)
def sp_law_suns_right (K : PySem.W.Frag) : Sp := fun vs H Q _ => ∃ (a b : Addr), vs = [.ref a, .ref b] ∧ Ld K H a 365 1 4 0 ∧ Ld K H b 354 11 30 0 ∧ NoT H ∧ Q (.bl true) H
theorem d_law_suns_right (A : All K mg) : Df P w K mg base CX0 "_law_suns_right" 6 ["sun", "moon"] (sp_law_suns_right K) := by
  obtain ⟨f, fd, F, hm, hb⟩ := A.t_law_suns_right
  refine ⟨f, fd, Fun.okF F sc_law_suns_right (fun vs H Q E h => ?_) (fun cdv A' outer s H vs Q E hr h => ?_), hm, F.kp, hb⟩
  · obtain ⟨a, b, rfl, _⟩ := h; rfl
  · obtain ⟨a, b, rfl, ha, hb, nt, q⟩ := h
    refine ⟨_, (pss_cons (ps_if (pt_cmpR (op_neD hr.units) (pe_lc (own := [("year", 5)]) (g := gName 5) (tt := tYes) (by rfl) sc_law_suns_right.nd (pi_rgW1 (by rfl) A.b_range (pa_cons pe_int pa_nil)) (blkOk_by (own := [("year", 5)]) (N := ["sun", "moon", "even", "seven", "twice", "year"]) (sc := defScope s_law_suns_right) (by decide +kernel)) (fun _ _ _ _ _ => (pg_name (i := 5) sc_law_suns_right.nd rfl (Or.inl rfl))) (fun _ _ _ _ _ => pts_nil) (fun _ _ _ _ _ => (pe_callD (d_is_long A) hr (by decide) (by rfl) pass0 (pa_cons (pv 0) (pa_cons (pv 5) pa_nil))))) (pe_lst (pa_cons pe_bl (pa_cons pe_bl (pa_cons pe_bl (pa_cons pe_bl (pa_cons pe_bl pa_nil)))))) (nomark _))
 (pss_one (ps_ret pe_bl))
 pss_nil)
 (pss_cons (ps_if (PW.pt (pw_or (pt_cmpR op_ne (pe_callD (d_begin A) hr (by decide) (by rfl) pass0 (pa_cons (pv 1) (pa_cons pe_int pa_nil))) pe_int (nomark _)) (pw_or1 (pt_cmpR (op_neD hr.units) (pe_callD (d_lengths A) hr (by decide) (by rfl) pass0 (pa_cons (pv 0) (pa_cons pe_int (pa_cons pe_int (pa_cons pe_int pa_nil))))) (pe_tup (pa_cons pe_int (pa_cons pe_int (pa_cons pe_int pa_nil)))) (nomark _)))))
 (pss_one (ps_ret pe_bl))
 pss_nil)
 (pss_cons (ps_if (PW.pt (pw_or (pt_cmpR op_ne (pe_callD (d_how_many A) hr (by decide) (by rfl) pass0 (pa_cons (pv 0) (pa_cons pe_int (pa_cons pe_int (pa_cons pe_int (pa_cons pe_int (pa_cons pe_int pa_nil))))))) pe_int (nomark _)) (pw_or1 (pt_cmpR op_ne (pe_callD (d_next_year A) hr (by decide) (by rfl) pass0 (pa_cons (pv 0) (pa_cons pe_int (pa_cons pe_int (pa_cons pe_int (pa_cons pe_int pa_nil)))))) pe_int (nomark _)))))
 (pss_one (ps_ret pe_bl))
 pss_nil)
 (pss_cons (ps_set (i := 2) sc_law_suns_right.nd rfl (Or.inl rfl) (pe_tup (pa_cons pe_int (pa_cons pe_int (pa_cons pe_int (pa_cons pe_int pa_nil))))))
 (pss_cons (ps_if (PW.pt (pw_or (pt_cmpR (op_neD hr.units) (pe_callD (d_lengths A) hr (by decide) (by rfl) pass0 (pa_cons (pv 2) (pa_cons pe_int (pa_cons pe_int (pa_cons pe_int pa_nil))))) (pe_tup (pa_cons pe_int pa_nil)) (nomark _)) (pw_or1 (pt_cmpR (op_neD hr.units) (pe_callD (d_lengths A) hr (by decide) (by rfl) pass0 (pa_cons (pv 2) (pa_cons pe_int (pa_cons pe_int (pa_cons pe_int pa_nil))))) (pe_tup pa_nil) (nomark _)))))
 (pss_one (ps_ret pe_bl))
 pss_nil)
 (pss_cons (ps_if (PW.pt (pw_or (pt_cmpR op_ne (pe_callD (d_barring A) hr (by decide) (by rfl) pass0 (pa_cons (pv 2) (pa_cons pe_int (pa_cons pe_int (pa_cons pe_int pa_nil))))) pe_int (nomark _)) (pw_or1 (pt_cmpR op_notBl (pe_callD (d_bars A) hr (by decide) (by rfl) pass0 (pa_cons (pv 2) (pa_cons pe_int (pa_cons pe_int (pa_cons pe_int (pa_cons pe_int pa_nil)))))) pe_bl (nomark _)))))
 (pss_one (ps_ret pe_bl))
 pss_nil)
 (pss_cons (ps_if (PW.pt (pw_or (pt_cmpR op_isN (pe_callD (d_next_day A) hr (by decide) (by rfl) pass0 (pa_cons (pv 0) (pa_cons pe_int (pa_cons (pv 1) (pa_cons pe_int (pa_cons pe_int pa_nil)))))) pe_non (nomark _)) (pw_or1 (pt_cmpR op_ne (pe_callD (d_next_day A) hr (by decide) (by rfl) pass0 (pa_cons (pv 0) (pa_cons pe_int (pa_cons (pv 1) (pa_cons pe_int (pa_cons pe_int pa_nil)))))) pe_int (nomark _)))))
 (pss_one (ps_ret pe_bl))
 pss_nil)
 (pss_cons (ps_if (PW.pt (pw_or (pt_cmpR op_ne (pe_callD (d_days A) hr (by decide) (by rfl) pass0 (pa_cons (pv 0) (pa_cons pe_int (pa_cons (pv 0) (pa_cons pe_int (pa_cons pe_int (pa_cons pe_int pa_nil))))))) pe_int (nomark _)) (pw_or1 (pt_cmpR op_ne (pe_callD (d_first_parting A) hr (by decide) (by rfl) pass0 (pa_cons (pv 0) (pa_cons (pe_tup (pa_cons pe_int (pa_cons pe_int (pa_cons pe_int (pa_cons pe_int pa_nil))))) pa_nil))) pe_int (nomark _)))))
 (pss_one (ps_ret pe_bl))
 pss_nil)
 (pss_cons (ps_asg (pe_tup (pa_cons (pe_tup (pa_cons pe_int (pa_cons pe_int (pa_cons pe_int (pa_cons pe_int pa_nil))))) (pa_cons (pe_tup (pa_cons pe_int (pa_cons pe_int (pa_cons pe_int (pa_cons pe_int pa_nil))))) pa_nil))) (pg_tup (by rfl) (pgs_cons (pg_name (i := 3) sc_law_suns_right.nd rfl (Or.inl rfl)) (pgs_cons (pg_name (i := 4) sc_law_suns_right.nd rfl (Or.inl rfl)) pgs_nil))))
 (pss_cons (ps_if (PW.pt (pw_or (pt_cmpR op_ne (pe_callD (d_parting A) hr (by decide) (by rfl) pass0 (pa_cons (pv 3) (pa_cons pe_int (pa_cons (pv 4) (pa_cons pe_int pa_nil))))) pe_int (nomark _)) (pw_or1 (pt_cmpR op_notN (pe_callD (d_parting A) hr (by decide) (by rfl) pass0 (pa_cons (pv 3) (pa_cons pe_int (pa_cons (pv 4) (pa_cons pe_int pa_nil))))) pe_non (nomark _)))))
 (pss_one (ps_ret pe_bl))
 pss_nil)
 (pss_one (ps_ret (pe_cmpR op_eq (pe_callD (d_next_day A) hr (by decide) (by rfl) pass0 (pa_cons (pv 3) (pa_cons pe_int (pa_cons (pv 4) (pa_cons pe_int (pa_cons pe_int pa_nil)))))) pe_int (nomark _)))))))))))))), ?_⟩
    refine sq_if (Sn H) (fun Q' k => ?_) ?_
    · refine ⟨5, rfl, fun D hD => ?_⟩
      refine lc_rgV (f := fun k => .bl (decide (365 < fday 365 1 4 0 (k + 1) - fday 365 1 4 0 k))) hD (by decide) (fun _ => rfl) (fun i H' hi sH _ Q'' q'' => ?_) ?_
      · have hi' : i < 5 := hi
        refine ⟨_, rfl, _, rfl, a, 365, 1, 4, 0, _, rfl, Same.t sH ha, sun_ok, ⟨by omega, by omega⟩, ?_⟩
        rw [show (0 : Int) + (i : Int) = i by omega]
        exact q''
      · refine ⟨by show 5 ≤ sizeLine; decide, fun p hp => ?_⟩
        refine ⟨.list ([false, false, false, true, false].map PyData.bool), .list ([false, false, false, true, false].map PyData.bool), .lst (SqL.of (same_new hp _ _ upd_same)) ?_, .lst (SqL.of upd_same) (dp_bls [false, false, false, true, false]), by decide +kernel, by decide +kernel, ?_⟩
        · have e : (List.range (5 : Int).toNat).map (fun k : Nat => V.bl (decide (365 < fday 365 1 4 0 ((k : Int) + 1) - fday 365 1 4 0 k))) = [false, false, false, true, false].map V.bl := by decide +kernel
          rw [e]
          exact dp_bls _
        · rw [show PyData.eqv (.list ([false, false, false, true, false].map PyData.bool)) (.list ([false, false, false, true, false].map PyData.bool)) = true by decide +kernel]
          exact ⟨_, rfl, k _ ⟨(same_new hD).trans (same_new hp), nt.lst.lst⟩⟩
    rintro H1 ⟨s1, nt1⟩
    have ha1 := Same.t s1 ha
    have hb1 := Same.t s1 hb
    refine sq_if (Sn H1) (fun Q' k => ?_) ?_
    · refine ⟨_, rfl, b, 354, 11, 30, 0, 30, rfl, hb1, moon_ok, ⟨by decide, by decide⟩, rfl, _, rfl, not_ne (congrArg V.int (show fday 354 11 30 0 30 = 10631 by decide)) ?_⟩
      refine ⟨_, rfl, a, 365, 1, 4, 0, 0, 7, 0, rfl, ha1, sun_ok, by decide, by decide, by decide, nt1, fun L p H2 hi hg hp s2 nt2 e2 => ⟨by show 3 ≤ sizeLine; decide, fun p2 h2 => ?_⟩⟩
      refine ne_tints (ns := L) (ms := [5, 6, 11]) (SqT.of (same_new h2 _ _ e2)) (SqT.of upd_same) ⟨_, rfl, ?_⟩
      rw [decide_eq_true (gap_uniq hi (by decide) hg sun_gaps)]
      exact k _ ⟨s2.trans (same_new h2), nt2.tup⟩
    rintro H2 ⟨s2, nt2⟩
    have ha2 := Same.t s2 ha1
    have hb2 := Same.t s2 hb1
    refine sq_if (Sn H2) (fun Q' k => ?_) ?_
    · refine ⟨_, rfl, a, 365, 1, 4, 0, 0, 7, 0, 0, 28, rfl, ha2, sun_ok, by decide, by decide, by decide, ⟨by decide, by decide⟩, ⟨by decide, by decide⟩, by decide, nt2, rfl, _, rfl, not_ne (congrArg V.int sun_many) ?_⟩
      refine ⟨_, rfl, a, 365, 1, 4, 0, 0, 7, 1, 0, rfl, ha2, sun_ok, by decide, by decide, by decide, ⟨by decide, by decide⟩, nt2, fun o no => ?_⟩
      obtain rfl := no.uniq (.inr ⟨1, rfl, sun_next⟩)
      exact ⟨rfl, _, rfl, k _ (Sn.refl nt2)⟩
    rintro H3 ⟨s3, nt3⟩
    have ha3 := Same.t s3 ha2
    have hb3 := Same.t s3 hb2
    refine sq_set (fun v H' => ∃ e, v = .ref e ∧ Same H3 H' ∧ NoT H' ∧ Ld K H' e 364 0 1 3) (fun Q' k => ⟨by show 4 ≤ sizeLine; decide, fun p hp => k _ _ ⟨p, rfl, same_new hp, nt3.tup, SqT.of upd_same⟩⟩) ?_
    rintro _ H4 ⟨e, rfl, s4, nt4, he4⟩
    have ha4 := Same.t s4 ha3
    have hb4 := Same.t s4 hb3
    refine sq_if (Sn H4) (fun Q' k => ?_) ?_
    · refine ⟨_, rfl, e, 364, 0, 1, 3, 0, 7, 3, rfl, he4, even_ok, by decide, by decide, by decide, nt4, fun L p H2 hi hg hp s2 nt2 e2 => ⟨by show 1 ≤ sizeLine; decide, fun p2 h2 => ?_⟩⟩
      refine ne_tints (ns := L) (ms := [1]) (SqT.of (same_new h2 _ _ e2)) (SqT.of upd_same) ⟨_, rfl, ?_⟩
      rw [decide_eq_true (gap_uniq hi (by decide) hg even_gaps)]
      refine iteF ?_
      have s5 := s2.trans (same_new (o := .tup [.int 1]) h2)
      have nt5 : NoT (upd H2 p2 (.tup [.int 1])) := nt2.tup
      refine ⟨_, rfl, e, 364, 0, 1, 3, 0, 7, 4, rfl, Same.t s5 he4, even_ok, by decide, by decide, by decide, nt5, fun L p H3 hi hg hp s3 nt3 e3 => ⟨Nat.zero_le _, fun p3 h3 => ?_⟩⟩
      refine ne_tints (ns := L) (ms := []) (SqT.of (same_new h3 _ _ e3)) (SqT.of upd_same) ⟨_, rfl, ?_⟩
      rw [decide_eq_true (gap_uniq hi (by decide) hg even_none)]
      exact k _ ⟨(s5.trans s3).trans (same_new h3), nt3.tup⟩
    rintro H5 ⟨s5, nt5⟩
    have ha5 := Same.t s5 ha4
    have hb5 := Same.t s5 hb4
    have he5 : Ld K H5 e 364 0 1 3 := Same.t s5 he4
    refine sq_if (Sn H5) (fun Q' k => ?_) ?_
    · refine ⟨_, rfl, e, 364, 0, 1, 3, 0, 7, 4, rfl, he5, even_ok, by decide, by decide, by decide, nt5, fun o ho => ?_⟩
      have eo : o = .int 7 := by
        rcases ho with ⟨_, z, hz⟩ | ⟨rfl, _⟩
        · exact absurd hz (even_not z)
        · exact congrArg V.int (by decide +kernel)
      subst eo
      refine ⟨rfl, _, rfl, not_ne rfl ?_⟩
      refine ⟨_, rfl, e, 364, 0, 1, 3, 0, 7, 4, .int 7, _, rfl, he5, even_ok, by decide, by decide, by decide, .int 7, nt5, fun r hr => ?_⟩
      obtain rfl := hr.mpr ⟨7, rfl, even_bar⟩
      exact ⟨true, true, rfl, rfl, _, rfl, k _ (Sn.refl nt5)⟩
    rintro H6 ⟨s6, nt6⟩
    have ha6 := Same.t s6 ha5
    have hb6 := Same.t s6 hb5
    refine sq_if (Sn H6) (fun Q' k => ?_) ?_
    · refine ⟨_, rfl, _, rfl, a, b, 365, 1, 4, 0, 0, 354, 11, 30, 0, 0, 1, rfl, ha6, sun_ok, by decide, hb6, moon_ok, by decide, ⟨by decide, by decide⟩, nt6, fun o no => ?_⟩
      obtain ⟨m, rfl⟩ : ∃ m, o = .int m := by
        rcases no with ⟨_, h0⟩ | ⟨m, e, _⟩
        · exact absurd sm_zero (h0 0)
        · exact ⟨m, e⟩
      refine ⟨rfl, _, rfl, iteF ?_⟩
      refine ⟨_, rfl, _, rfl, a, b, 365, 1, 4, 0, 0, 354, 11, 30, 0, 0, 0, rfl, ha6, sun_ok, by decide, hb6, moon_ok, by decide, ⟨by decide, by decide⟩, nt6, fun o no => ?_⟩
      obtain rfl := no.uniq (.inr ⟨0, rfl, sm_fst⟩)
      exact ⟨rfl, _, rfl, k _ (Sn.refl nt6)⟩
    rintro H7 ⟨s7, nt7⟩
    have ha7 := Same.t s7 ha6
    have hb7 := Same.t s7 hb6
    refine sq_if (Sn H7) (fun Q' k => ?_) ?_
    · refine ⟨_, rfl, _, rfl, a, a, 365, 1, 4, 0, 0, 365, 1, 4, 0, 0, 0, 1461, rfl, ha7, sun_ok, by decide, ha7, sun_ok, by decide, ⟨by decide, by decide⟩, ⟨by decide, by decide⟩, by decide, nt7, rfl, _, rfl, not_ne (congrArg V.int sun_days) ?_⟩
      refine ⟨_, rfl, by show 4 ≤ sizeLine; decide, fun p hp => ?_⟩
      refine ⟨a, p, 365, 1, 4, 0, 365, 0, 1, 0, rfl, Same.t (same_new hp) ha7, sun_ok, SqT.of upd_same, by unfold LandOk; omega, nt7.tup, fun o no => ?_⟩
      obtain rfl := no.uniq (.inr ⟨4, rfl, by decide, by decide, sun_part⟩)
      exact ⟨rfl, _, rfl, k _ ⟨same_new hp, nt7.tup⟩⟩
    rintro H8 ⟨s8, nt8⟩
    refine sq_asg (fun v H' => ∃ u c g, v = .ref u ∧ SqT K H' u [.ref c, .ref g] ∧ Same H8 H' ∧ NoT H' ∧ Ld K H' c 7 0 1 0 ∧ Ld K H' g 14 0 1 0) (fun Q' k => ⟨by show 4 ≤ sizeLine; decide, fun p hp => ⟨by show 4 ≤ sizeLine; decide, fun p2 hp2 => ⟨by show 2 ≤ sizeLine; decide, fun p3 hp3 => k _ _ ⟨p3, p, p2, rfl, SqT.of upd_same, ((same_new hp).trans (same_new hp2)).trans (same_new hp3), nt8.tup.tup.tup, SqT.of (same_new hp3 _ _ (same_new hp2 _ _ upd_same)), SqT.of (same_new hp3 _ _ upd_same)⟩⟩⟩⟩) ?_
    rintro _ H9 ⟨u, c, g, rfl, hu, s9, nt9, hc9, hg9⟩
    refine ⟨u, _, rfl, hu, rfl, _, _, rfl, _, _, rfl, rfl, ?_⟩
    have k7 : LandOk 7 0 1 0 := by unfold LandOk; omega
    have k14 : LandOk 14 0 1 0 := by unfold LandOk; omega
    refine sq_if (Sn H9) (fun Q' k => ?_) ?_
    · refine ⟨_, rfl, _, rfl, c, g, 7, 0, 1, 0, 0, 14, 0, 1, 0, 3, rfl, hc9, k7, by decide, hg9, k14, by decide, nt9, fun o ho => ?_⟩
      have eo : o = .int 7 := by
        rcases ho with ⟨_, z, hz⟩ | ⟨rfl, _⟩
        · exact absurd hz (seven_no z)
        · exact congrArg V.int (by decide +kernel)
      subst eo
      refine ⟨rfl, _, rfl, not_ne rfl ?_⟩
      refine ⟨_, rfl, _, rfl, c, g, 7, 0, 1, 0, 0, 14, 0, 1, 0, 7, rfl, hc9, k7, by decide, hg9, k14, by decide, nt9, fun o ho => ?_⟩
      have eo : o = .non := by
        rcases ho with ⟨rfl, _⟩ | ⟨_, hno⟩
        · rfl
        · exact absurd seven_yes (hno 7)
      subst eo
      exact ⟨rfl, _, rfl, k _ (Sn.refl nt9)⟩
    rintro H10 ⟨s10, nt10⟩
    have hc10 := Same.t s10 hc9
    have hg10 := Same.t s10 hg9
    refine ⟨_, rfl, _, rfl, c, g, 7, 0, 1, 0, 0, 14, 0, 1, 0, 7, 8, rfl, hc10, k7, by decide, hg10, k14, by decide, ⟨by decide, by decide⟩, nt10, fun o no => ?_⟩
    obtain rfl := no.uniq (.inr ⟨21, rfl, seven_next⟩)
    refine ⟨rfl, ?_⟩
    exact fg_same nt (((((((((s1.trans s2).trans s3).trans s4).trans s5).trans s6).trans s7).trans s8).trans s9).trans s10) q

def rr1 : List RwL := [(none, (10, 0, 1, 0)), (some 25, (10, 0, 1, 3))]
def rr2 : List RwL := [(none, (10, 0, 1, 0)), (some 25, (10, 0, 1, 3)), (some 45, (10, 0, 1, 0))]
def sp_law (K : PySem.W.Frag) : Sp := fun vs H Q _ => ∃ (a : Addr) (ns : List Int), vs = [.ref a] ∧ SqL K H a (ns.map V.int) ∧ ns.length ≤ 63 ∧ NoT H ∧ ∀ H', Q (.bl true) H'
theorem ok_law (A : All K mg) {f : Addr} {fd : FuncData} (F : Fun K "law" "law" s_law f fd) : FnOk P w K mg base CX0 7 f fd ["script"] (sp_law K) := by
  obtain ⟨C, hC⟩ := A.r_Realm
  refine F.ok sc_law (fun vs H Q E h => ?_) (fun cdv A' outer s H vs Q E hr h => ?_)
  · obtain ⟨a, ns, rfl, _⟩ := h; rfl
  · obtain ⟨a, ns, rfl, hS, hlen, nt, q⟩ := h
    refine ⟨_, (pss_cons (ps_asg (pe_tup (pa_cons (pe_tup (pa_cons pe_int (pa_cons pe_int (pa_cons pe_int (pa_cons pe_int pa_nil))))) (pa_cons (pe_tup (pa_cons pe_int (pa_cons pe_int (pa_cons pe_int (pa_cons pe_int pa_nil))))) pa_nil))) (pg_tup (by rfl) (pgs_cons (pg_name (i := 1) sc_law.nd rfl (Or.inl rfl)) (pgs_cons (pg_name (i := 2) sc_law.nd rfl (Or.inl rfl)) pgs_nil))))
 (pss_cons (ps_for PassesOwn.never (by rfl) (pi_list (pe_slice sl_list (pe_op op_catS (pe_lst (pa_cons pe_int pa_nil)) (pv 0)) po_none (po_some pe_int))) (pg_name (i := 3) sc_law.nd rfl (Or.inl rfl))
 (pss_cons (ps_set (i := 4) sc_law.nd rfl (Or.inl rfl) (pe_callD (d_law_deck A) hr (by decide) (by rfl) pass0 (pa_cons (pv 3) (pa_cons pe_int pa_nil))))
 (pss_cons (ps_set (i := 5) sc_law.nd rfl (Or.inl rfl) (pe_op op_add pe_int (pe_callD (d_law_pick A) hr (by decide) (by rfl) pass0 (pa_cons (pv 4) (pa_cons pe_int pa_nil)))))
 (pss_cons (ps_set (i := 6) sc_law.nd rfl (Or.inr rfl) (pe_tup (pa_cons (pv 5) (pa_cons pe_int (pa_cons pe_int (pa_cons pe_int pa_nil))))))
 (pss_cons (ps_if (pt_cmpR (op_neD hr.units) (pe_lc (own := [("year", 8)]) (g := gName 8) (tt := tYes) (by rfl) sc_law.nd (pi_tup (pe_tup (pa_cons (pe_un un_neg pe_int) (pa_cons pe_int (pa_cons pe_int pa_nil))))) (blkOk_by (own := [("year", 8)]) (N := ["script", "sun", "moon", "cell", "deck", "days_so_", "plain", "realm", "year", "day"]) (sc := defScope s_law) (by decide +kernel)) (fun _ _ _ _ _ => (pg_name (i := 8) sc_law.nd rfl (Or.inl rfl))) (fun _ _ _ _ _ => pts_nil) (fun _ _ _ _ _ => (pe_callD (d_begin A) hr (by decide) (by rfl) pass0 (pa_cons (pv 6) (pa_cons (pv 8) pa_nil))))) (pe_lst (pa_cons (pe_op op_sub pe_int (pv 5)) (pa_cons pe_int (pa_cons (pe_op op_add pe_int (pv 5)) pa_nil)))) (nomark _))
 (pss_one (ps_ret pe_bl))
 pss_nil)
 (pss_cons (ps_if (PW.pt (pw_or (pt_cmpR op_notN (pe_callD (d_next_long A) hr (by decide) (by rfl) pass0 (pa_cons (pv 6) (pa_cons pe_int pa_nil))) pe_non (nomark _)) (pw_or1 (pt_cmpR (op_neD hr.units) (pe_callD (d_date A) hr (by decide) (by rfl) pass0 (pa_cons (pv 6) (pa_cons pe_int pa_nil))) (pe_tup (pa_cons (pe_un un_neg pe_int) (pa_cons (pe_op op_sub (pv 5) pe_int) pa_nil))) (nomark _)))))
 (pss_one (ps_ret pe_bl))
 pss_nil)
 (pss_cons (ps_if (PW.pt (pw_and (pt_cmpR (op_eqD hr.units) (pe_callD (d_lengths A) hr (by decide) (by rfl) pass0 (pa_cons (pv 6) (pa_cons pe_int (pa_cons (pe_op op_add (pe_op op_mod (pv 5) pe_int) pe_int) (pa_cons pe_int pa_nil))))) (pe_tup pa_nil) (nomark _)) (pw_and1 (pt_cmpR op_isN (pe_callD (d_barring A) hr (by decide) (by rfl) pass0 (pa_cons (pv 6) (pa_cons pe_int (pa_cons (pe_op op_add (pe_op op_mod (pv 5) pe_int) pe_int) (pa_cons pe_int pa_nil))))) pe_non (nomark _)))))
 (pss_one (ps_ret pe_bl))
 pss_nil)
 (pss_cons (ps_if (pt_not (pt_val (pe_callD (d_law_suns_right A) hr (by decide) (by rfl) pass0 (pa_cons (pv 1) (pa_cons (pv 2) pa_nil)))))
 (pss_one (ps_ret pe_bl))
 pss_nil)
 (pss_cons (ps_set (i := 7) sc_law.nd rfl (Or.inr rfl) (pe_newD (d_Realm_init A hC) hC hr (by decide) (by rfl) pass0 (pa_cons (pe_tup (pa_cons pe_int (pa_cons pe_int (pa_cons pe_int (pa_cons pe_int pa_nil))))) pa_nil)))
 (pss_cons (ps_expr (pe_methD (d_Realm_change A hC) hC.cl hr (by decide) pass0 (pv 7) (pa_cons pe_int (pa_cons (pe_tup (pa_cons pe_int (pa_cons pe_int (pa_cons pe_int (pa_cons pe_int pa_nil))))) pa_nil))))
 (pss_cons (ps_if (PW.pt (pw_or (pt_cmpR (op_neD hr.units) (pe_lc (own := [("day", 9)]) (g := gName 9) (tt := tYes) (by rfl) sc_law.nd (pi_tup (pe_tup (pa_cons pe_int (pa_cons pe_int pa_nil)))) (blkOk_by (own := [("day", 9)]) (N := ["script", "sun", "moon", "cell", "deck", "days_so_", "plain", "realm", "year", "day"]) (sc := defScope s_law) (by decide +kernel)) (fun _ _ _ _ _ => (pg_name (i := 9) sc_law.nd rfl (Or.inl rfl))) (fun _ _ _ _ _ => pts_nil) (fun _ _ _ _ _ => (pe_methD (d_Realm_date A hC) hC.cl hr (by decide) pass0 (pv 7) (pa_cons (pv 9) pa_nil)))) (pe_lst (pa_cons (pe_tup (pa_cons pe_int (pa_cons pe_int pa_nil))) (pa_cons (pe_tup (pa_cons pe_int (pa_cons pe_int pa_nil))) pa_nil))) (nomark _)) (pw_or1 (pt_cmpR (op_neD hr.units) (pe_methD (d_Realm_days_of A hC) hC.cl hr (by decide) pass0 (pv 7) (pa_cons pe_int (pa_cons pe_int pa_nil))) (pe_lst (pa_cons pe_int (pa_cons pe_int pa_nil))) (nomark _)))))
 (pss_one (ps_ret pe_bl))
 pss_nil)
 (pss_cons (ps_if (PW.pt (pw_or (pt_cmpR (op_neD hr.units) (pe_methD (d_Realm_days_of A hC) hC.cl hr (by decide) pass0 (pv 7) (pa_cons pe_int (pa_cons pe_int pa_nil))) (pe_lst (pa_cons pe_int pa_nil)) (nomark _)) (pw_or (pt_cmpR (op_neD hr.units) (pe_methD (d_Realm_days_of A hC) hC.cl hr (by decide) pass0 (pv 7) (pa_cons pe_int (pa_cons pe_int pa_nil))) (pe_lst (pa_cons pe_int pa_nil)) (nomark _)) (pw_or1 (pt_cmpR (op_neD hr.units) (pe_methD (d_Realm_days_of A hC) hC.cl hr (by decide) pass0 (pv 7) (pa_cons pe_int (pa_cons pe_int pa_nil))) (pe_lst (pa_cons pe_int pa_nil)) (nomark _))))))
 (pss_one (ps_ret pe_bl))
 pss_nil)
 (pss_cons (ps_expr (pe_methD (d_Realm_change A hC) hC.cl hr (by decide) pass0 (pv 7) (pa_cons pe_int (pa_cons (pe_tup (pa_cons pe_int (pa_cons pe_int (pa_cons pe_int (pa_cons pe_int pa_nil))))) pa_nil))))
 (pss_cons (ps_if (PW.pt (pw_or (pt_cmpR (op_neD hr.units) (pe_methD (d_Realm_days_of A hC) hC.cl hr (by decide) pass0 (pv 7) (pa_cons pe_int (pa_cons pe_int pa_nil))) (pe_lst (pa_cons pe_int (pa_cons pe_int pa_nil))) (nomark _)) (pw_or (pt_cmpR (op_neD hr.units) (pe_methD (d_Realm_days_of A hC) hC.cl hr (by decide) pass0 (pv 7) (pa_cons pe_int (pa_cons pe_int pa_nil))) (pe_lst (pa_cons pe_int pa_nil)) (nomark _)) (pw_or1 (pt_cmpR (op_neD hr.units) (pe_methD (d_Realm_days_of A hC) hC.cl hr (by decide) pass0 (pv 7) (pa_cons pe_int (pa_cons pe_int pa_nil))) (pe_lst pa_nil) (nomark _))))))
 (pss_one (ps_ret pe_bl))
 pss_nil)
 (pss_one (ps_if (pt_cmpR (op_neD hr.units) (pe_callD (d_lands_of A) hr (by decide) (by rfl) pass0 (pa_cons (pe_tup (pa_cons (pe_tup (pa_cons pe_int (pa_cons (pe_un un_neg (pe_op op_pow pe_int pe_int)) pa_nil))) (pa_cons (pe_tup (pa_cons pe_int (pa_cons (pe_un un_neg pe_int) pa_nil))) pa_nil))) (pa_cons pe_int pa_nil))) (pe_lst (pa_cons (pe_tup (pa_cons pe_int (pa_cons pe_int (pa_cons pe_int (pa_cons (pe_un un_neg pe_int) pa_nil))))) pa_nil)) (nomark _))
 (pss_one (ps_ret pe_bl))
 pss_nil))))))))))))))))
 (pss_one (ps_ret pe_bl)))), ?_⟩
    refine sq_asg (fun v H' => ∃ u c g, v = .ref u ∧ SqT K H' u [.ref c, .ref g] ∧ Same H H' ∧ NoT H' ∧ Ld K H' c 365 1 4 0 ∧ Ld K H' g 354 11 30 0) (fun Q' k => ⟨by show 4 ≤ sizeLine; decide, fun p hp => ⟨by show 4 ≤ sizeLine; decide, fun p2 hp2 => ⟨by show 2 ≤ sizeLine; decide, fun p3 hp3 => k _ _ ⟨p3, p, p2, rfl, SqT.of upd_same, ((same_new hp).trans (same_new hp2)).trans (same_new hp3), nt.tup.tup.tup, SqT.of (same_new hp3 _ _ (same_new hp2 _ _ upd_same)), SqT.of (same_new hp3 _ _ upd_same)⟩⟩⟩⟩) ?_
    rintro _ Ha ⟨u, sn, mn, rfl, hu, sa, nta, hsn, hmn⟩
    refine ⟨u, _, rfl, hu, rfl, _, _, rfl, _, _, rfl, rfl, ?_⟩
    have hSa := Same.l sa hS
    refine nrm [some (.ref a), some (.ref sn), some (.ref mn), none, none, none, none, none, none, none] rfl ?_
    refine sq_st (fun _ H' => True) (fun D0 k0 => ?_) (fun _ H' _ => q _)
    refine ⟨by show 1 ≤ sizeLine; decide, fun p1 h1 => ?_⟩
    refine ⟨_, rfl, p1, a, _, _, rfl, rfl, SqL.of upd_same, Same.l (same_new h1) hSa, by rw [List.length_map]; exact sz63 hlen, fun p2 h2 => ?_⟩
    refine ⟨4, rfl, p2, _, rfl, SqL.of upd_same, fun p3 h3 => ?_⟩
    have nt3 : NoT (upd (upd (upd Ha p1 (.lst [.int 0])) p2 (.lst ([.int 0] ++ ns.map V.int))) p3 (.lst (cutV ([.int 0] ++ ns.map V.int) none (some 4)))) := nta.lst.lst.lst
    have s03 : Same Ha (upd (upd (upd Ha p1 (.lst [.int 0])) p2 (.lst ([.int 0] ++ ns.map V.int))) p3 (.lst (cutV ([.int 0] ++ ns.map V.int) none (some 4)))) := ((same_new h1).trans (same_new h2)).trans (same_new h3)
    refine ⟨p3, rfl, ⟨_, SqL.of upd_same⟩, for_list (xs := cutV ([.int 0] ++ ns.map V.int) none (some 4)) (fun i σ H' => (∃ y3 y4 y5 y6 y7 y8 y9, σ = [some (.ref a), some (.ref sn), some (.ref mn), y3, y4, y5, y6, y7, y8, y9]) ∧ H' p3 = some (.lst (cutV ([.int 0] ++ ns.map V.int) none (some 4))) ∧ NoT H' ∧ Ld K H' sn 365 1 4 0 ∧ Ld K H' mn 354 11 30 0)
      ⟨⟨none, none, none, none, none, none, none, rfl⟩, upd_same, nt3, Same.t s03 hsn, Same.t s03 hmn⟩ (fun i σ H' _ p => SqL.of p.2.1) (fun i x σ H' hx hW => ?_) (fun σ H' hW => k0 _ _ trivial)⟩
    obtain ⟨⟨y3, y4, y5, y6, y7, y8, y9, rfl⟩, hc, ntc, hs0, hm0⟩ := hW
    obtain ⟨c, rfl⟩ := cells_int hx
    generalize hcl : cutV ([V.int 0] ++ ns.map V.int) none (some 4) = cl at hc hx ⊢
    show tSeq _ _ _ _ _
    refine sq_set (fun v H1 => ∃ dk, v = .ref dk ∧ H' dk = none ∧ Same H' H1 ∧ Dk 13 H1 dk) (fun Q' k => ?_) ?_
    · exact ⟨_, rfl, c, 13, 13, rfl, ntc, by decide, by decide, fun dk H1 hdk s1 D1 => k _ _ ⟨dk, rfl, hdk, s1, D1⟩⟩
    rintro _ H1 ⟨dk, rfl, hdk, s1, D1⟩
    have hc1 := s1 _ _ hc
    have hne : p3 ≠ dk := ne_of_none hc hdk
    refine sq_set (fun v H2 => ∃ d, v = .int d ∧ (1 ≤ d ∧ d ≤ 400) ∧ Dk 14 H2 dk ∧ Gr dk H1 H2) (fun Q' k => ⟨_, rfl, dk, 13, 400, rfl, D1, by decide, by decide, by decide, fun r H2 r0 r1 D2 g2 => ⟨_, _, rfl, rfl, k _ _ ⟨_, rfl, ⟨by omega, by omega⟩, D2, g2⟩⟩⟩) ?_
    rintro _ H2 ⟨d, rfl, hd, D2, g2⟩
    have hc2 := g2.keep _ _ hne hc1
    have hs2 := g2.t (Same.t s1 hs0)
    have hm2 := g2.t (Same.t s1 hm0)
    have nt2 := D2.nt
    clear D1 D2 hne
    refine sq_set (fun v H3 => ∃ p, v = .ref p ∧ Same H2 H3 ∧ NoT H3 ∧ Ld K H3 p d 0 1 5) (fun Q' k => ⟨_, rfl, by show 4 ≤ sizeLine; decide, fun p hp => k _ _ ⟨p, rfl, same_new hp, nt2.tup, SqT.of upd_same⟩⟩) ?_
    rintro _ H3 ⟨p, rfl, s3, nt3', hp3⟩
    have hk : LandOk d 0 1 5 := ⟨hd, by decide, by decide, by decide, by decide⟩
    refine nrm [some (.ref a), some (.ref sn), some (.ref mn), some (.int c), some (.ref dk), some (.int d), some (.ref p), y7, y8, y9] rfl ?_
    -- begins
    refine sq_if (Sn H3) (fun Q' k => ?_) ?_
    · refine ⟨_, rfl, by show 3 ≤ sizeLine; decide, fun u1 hu1 => ⟨u1, rfl, ⟨_, SqT.of upd_same⟩, fun D hD => ?_⟩⟩
      have su := same_new (o := .tup [.int (-1), .int 0, .int 1]) hu1
      refine lc_mapT (ns := [-1, 0, 1]) (f := fun y => d * y + 5) (SqT.of upd_same) hD (by decide) (fun _ => rfl) (fun i n H4 hn s4 Q'' q'' => ?_) ?_
      · have hn' : n = -1 ∨ n = 0 ∨ n = 1 := by
          have := List.mem_of_getElem? hn
          simpa using this
        refine ⟨_, rfl, _, rfl, p, d, 0, 1, 5, n, rfl, Same.t s4 (Same.t su hp3), hk, ⟨by omega, by omega⟩, ?_⟩
        rw [plain_fday]
        exact q''
      · refine ⟨_, rfl, _, _, rfl, rfl, _, rfl, _, _, rfl, rfl, by show 3 ≤ sizeLine; decide, fun l hl => ?_⟩
        refine ne_ints (ns := [d * -1 + 5, d * 0 + 5, d * 1 + 5]) (ms := [5 - d, 5, 5 + d]) (SqL.of (same_new hl _ _ upd_same)) (SqL.of upd_same) ⟨_, rfl, ?_⟩
        rw [decide_eq_true (by simp only [List.cons.injEq, and_true]; omega)]
        exact k _ ⟨(su.trans (same_new hD)).trans (same_new hl), nt3'.tup.lst.lst⟩
    rintro H4 ⟨s4, nt4⟩
    have hp4 := Same.t s4 hp3
    refine sq_if (Sn H4) (fun Q' k => ?_) ?_
    · refine ⟨_, rfl, p, d, 0, 1, 5, 0, rfl, hp4, hk, ⟨by decide, by decide⟩, fun o no => ?_⟩
      have eo : o = .non := by
        rcases no with ⟨rfl, _⟩ | ⟨m, rfl, F⟩
        · rfl
        · exact absurd F.2.1 (no_long hk rfl m)
      subst eo
      refine ⟨rfl, _, rfl, iteF ?_⟩
      refine ⟨_, rfl, p, d, 0, 1, 5, 4, H4, rfl, hp4, hk, ⟨by decide, by decide⟩, nt4, Same.refl _, fun u1 H5 _ s5 nt5 e5 => ?_⟩
      rw [plain_yof hd.1, plain_fday] at e5
      refine ⟨_, rfl, _, rfl, _, _, rfl, rfl, by show 2 ≤ sizeLine; decide, fun u2 h2 => ?_⟩
      refine ne_tints (ns := [-1, 4 - (d * -1 + 5)]) (ms := [-1, d - 1]) (SqT.of (same_new h2 _ _ e5)) (SqT.of upd_same) ⟨_, rfl, ?_⟩
      rw [decide_eq_true (by simp only [List.cons.injEq, and_true, true_and]; omega)]
      exact k _ ⟨s5.trans (same_new h2), nt5.tup⟩
    rintro H5 ⟨s5, nt5⟩
    have hp5 := Same.t s5 hp4
    refine sq_if (Sn H5) (fun Q' k => ?_) ?_
    · have hw : 1 ≤ d % 20 + 1 ∧ d % 20 + 1 ≤ 20 := by omega
      refine ⟨_, rfl, _, rfl, _, _, rfl, rfl, by show (0 : Int) < 20; decide, _, _, rfl, rfl, p, d, 0, 1, 5, 0, d % 20 + 1, 0, rfl, hp5, hk, ⟨by omega, by omega⟩, hw, ⟨by omega, by omega⟩, nt5, fun L u1 H6 hi hg hu s6 nt6 e6 => ⟨Nat.zero_le _, fun u2 h2 => ?_⟩⟩
      refine eq_tints (ns := L) (ms := []) (SqT.of (same_new h2 _ _ e6)) (SqT.of upd_same) ⟨_, rfl, ite2 (fun c' => ?_) (fun c' => ?_)⟩
      · have s7 := s6.trans (same_new (o := .tup []) h2)
        have nt7 : NoT (upd H6 u2 (.tup [])) := nt6.tup
        have eL : L = [] := of_decide_eq_true c'
        have hno := gap_some (pl := 0) (nm := 0) hk hw fun g hgg => by
          have := (hg g).mpr hgg
          rw [eL] at this
          exact absurd this (by simp)
        refine ⟨_, rfl, _, rfl, _, _, rfl, rfl, by show (0 : Int) < 20; decide, _, _, rfl, rfl, p, d, 0, 1, 5, 0, d % 20 + 1, 0, rfl, Same.t s7 hp5, hk, ⟨by omega, by omega⟩, hw, ⟨by omega, by omega⟩, nt7, fun o ho => ?_⟩
        rcases ho with ⟨_, z, hz⟩ | ⟨rfl, _⟩
        · exact absurd hz (hno z)
        · exact ⟨rfl, _, rfl, k _ ⟨s7, nt7⟩⟩
      · exact k _ ⟨s6.trans (same_new h2), nt6.tup⟩
    rintro H6 ⟨s6, nt6⟩
    have s36 := ((s3.trans s4).trans s5).trans s6
    have hs6 := Same.t s36 hs2
    have hm6 := Same.t s36 hm2
    refine sq_if (fun H' => H6 = H') (fun Q' k => ⟨_, rfl, _, rfl, sn, mn, rfl, hs6, hm6, nt6, _, rfl, k _ rfl⟩) ?_
    rintro _ rfl
    -- the realm
    have k10 : ∀ s : Int, (s = 0 ∨ s = 3) → OkL (10, 0, 1, s) := fun s h => ⟨⟨by show (1 : Int) ≤ 10; decide, by show (10 : Int) ≤ 400; decide⟩, ⟨by show (0 : Int) ≤ 0; decide, by show (0 : Int) < 1; decide⟩, ⟨by show (1 : Int) ≤ 1; decide, by show (1 : Int) ≤ 60; decide⟩, by show -1000000 ≤ s; omega, by show s ≤ 1000000; omega⟩
    refine sq_set (fun v H7 => ∃ rl l, v = .ref rl ∧ H6 l = none ∧ Same H6 H7 ∧ NoT H7 ∧ RlmAt K C H7 rl l [(none, (10, 0, 1, 0))]) (fun Q' k => ?_) ?_
    · refine ⟨by show 4 ≤ sizeLine; decide, fun u1 h1 x dx hx hdx hxd => ?_⟩
      have su := same_new (o := .tup [.int 10, .int 0, .int 1, .int 0]) h1
      have hx6 := su.free hx
      have hdx6 := su.free hdx
      have nt7 : NoT (upd (upd (upd H6 u1 (.tup [.int 10, .int 0, .int 1, .int 0])) dx (.own x)) x (.ins C dx [])) := (nt6.tup.upd rfl).upd rfl
      have k7 : ∀ b o, upd H6 u1 (.tup [.int 10, .int 0, .int 1, .int 0]) b = some o → upd (upd (upd H6 u1 (.tup [.int 10, .int 0, .int 1, .int 0])) dx (.own x)) x (.ins C dx []) b = some o := fun b o e => by
        rw [upd_ne (ne_of_none e hx), upd_ne (ne_of_none e hdx)]
        exact e
      refine ⟨x, u1, dx, (10, 0, 1, 0), rfl, upd_same, SqT.of (k7 _ _ upd_same), k10 0 (.inl rfl), nt7, fun l H8 keep hl nt8 hR => ⟨rfl, k _ _ ⟨x, l, rfl, ?_, fun b o e => ?_, nt8, hR⟩⟩⟩
      · cases z : H6 l with
        | none => rfl
        | some o => rw [k7 _ _ (su _ _ z)] at hl; cases hl
      · have e' := su b o e
        exact keep b o (ne_of_none e' hx) (k7 b o e')
    rintro _ H7 ⟨rl, l, rfl, nl6, s7, nt7, hR7⟩
    have hc7 := (s36.trans s7) _ _ hc2
    have hs7 := Same.t s7 hs6
    have hm7 := Same.t s7 hm6
    have nl3 : p3 ≠ l := ne_of_none (s36 _ _ hc2) nl6
    refine nrm [some (.ref a), some (.ref sn), some (.ref mn), some (.int c), some (.ref dk), some (.int d), some (.ref p), some (.ref rl), y8, y9] rfl ?_
    refine sq_st0 (fun H8 => (∀ b o, b ≠ l → H7 b = some o → H8 b = some o) ∧ (∀ b xs, SqT K H7 b xs → SqT K H8 b xs) ∧ NoT H8 ∧ RlmAt K C H8 rl l rr1) (fun D' d' => ?_) ?_
    · obtain ⟨dx, vs, h1, h2', h3', h4, h5⟩ := id hR7
      refine ⟨_, rfl, rl, dx, _, rfl, h1, fld_none (by decide +kernel), by show 4 ≤ sizeLine; decide, fun u1 hu1 => ?_⟩
      have su := same_new (o := .tup [.int 10, .int 0, .int 1, .int 3]) hu1
      refine ⟨rl, l, u1, 25, (10, 0, 1, 3), [(none, (10, 0, 1, 0))], rfl, hR7.same su, ⟨by decide, by decide⟩, SqT.of upd_same, k10 3 (.inr rfl), nt7.tup, by decide, fun r m e1 e2 => ?_, fun H8 g8 nt8 hR8 => d' _ ⟨fun b o nb e => g8.keep b o nb (su b o e), fun b xs e => g8.t (Same.t su e), nt8, hR8⟩⟩
      obtain rfl : _ = r := Option.some.inj e1
      cases e2
    rintro H8 ⟨kp8, kt8, nt8, hR8⟩
    have hc8 := kp8 _ _ nl3 hc7
    have hs8 : Ld K H8 sn 365 1 4 0 := kt8 _ _ hs7
    have hm8 : Ld K H8 mn 354 11 30 0 := kt8 _ _ hm7
    refine sq_if (Sn H8) (fun Q' k => ?_) ?_
    · obtain ⟨dx, vs, h1, _⟩ := id hR8
      refine ⟨by show 2 ≤ sizeLine; decide, fun u1 hu1 => ⟨u1, rfl, ⟨_, SqT.of upd_same⟩, fun D hD => ?_⟩⟩
      have su := same_new (o := .tup [.int 24, .int 25]) hu1
      refine lc_tup (xs := [.int 24, .int 25]) (fun i H' => Same H8 H' ∧ NoT H' ∧ SqT K H' u1 [.int 24, .int 25] ∧ ∃ ws, H' D = some (.lst ws) ∧ Paired (TupL H') ws (([[2, 4], [2, 2]] : List (List Int)).take i)) ⟨su.trans (same_new hD), nt8.tup.lst, SqT.of (same_new hD _ _ upd_same), [], upd_same, .nil⟩ (fun i H' _ p => p.2.2.1) (fun i x H' hx hW => ?_) (fun H' hW => ?_)
      · obtain ⟨s9, nt9, hu9, ws, hw9, hP9⟩ := hW
        have go : ∀ (n : Int) (j : Nat) (r : RwL) (L : List Int), x = .int n → Far n → landOf rr1 n = (j : Int) → rr1[j]? = some r → [yoL r.2 n, n - fdL r.2 (yoL r.2 n)] = L → ([[2, 4], [2, 2]] : List (List Int))[i]? = some L →
            gName 9 x (wipe [some (.ref a), some (.ref sn), some (.ref mn), some (.int c), some (.ref dk), some (.int d), some (.ref p), some (.ref rl), y8, y9] [9]) H' fun σ2 H2 => wipe σ2 [9] = wipe [some (.ref a), some (.ref sn), some (.ref mn), some (.int c), some (.ref dk), some (.int d), some (.ref p), some (.ref rl), y8, y9] [9] ∧ tYes σ2 H2 fun b H3 =>
              if b = true then tMeth C "date" (sp_Realm_date K C) [] E0 (tVar 7) (tCons (tVar 9) tNil) σ2 H3 fun y H4 => ∃ acc, H4 D = some (.lst acc) ∧ acc.length < sizeLine ∧
                (Same H8 (upd H4 D (.lst (acc ++ [y]))) ∧ NoT (upd H4 D (.lst (acc ++ [y]))) ∧ SqT K (upd H4 D (.lst (acc ++ [y]))) u1 [.int 24, .int 25] ∧ ∃ ws, (upd H4 D (.lst (acc ++ [y]))) D = some (.lst ws) ∧ Paired (TupL (upd H4 D (.lst (acc ++ [y])))) ws (([[2, 4], [2, 2]] : List (List Int)).take (i + 1)))
              else (Same H8 H3 ∧ NoT H3 ∧ SqT K H3 u1 [.int 24, .int 25] ∧ ∃ ws, H3 D = some (.lst ws) ∧ Paired (TupL H3) ws (([[2, 4], [2, 2]] : List (List Int)).take (i + 1))) := by
          rintro n j r L rfl fn hj hr eL hi
          refine ⟨rfl, yesT ⟨_, rfl, rl, dx, _, rfl, s9 _ _ h1, fld_none (by decide +kernel), _, rfl, rl, l, rr1, r, n, j, rfl, hR8.same s9, fn, nt9, hj, hr, fun p4 hp4 => ?_⟩⟩
          have sp := same_new (o := .tup [.int (yoL r.2 n), .int (n - fdL r.2 (yoL r.2 n))]) hp4
          have wl : ws.length ≤ 2 := by
            have := Paired.length hP9
            rw [List.length_take] at this
            have e2 : ([[2, 4], [2, 2]] : List (List Int)).length = 2 := rfl
            omega
          have gD : Gr D H' (upd (upd H' p4 (.tup [.int (yoL r.2 n), .int (n - fdL r.2 (yoL r.2 n))])) D (.lst (ws ++ [.ref p4]))) := ((Gr.refl hw9).new hp4 rfl).put
          have nD8 : H8 D = none := su.free hD
          refine ⟨ws, sp _ _ hw9, sz_small (by omega), fun b o e => gD.keep b o (ne_of_none e nD8) (s9 b o e), nt9.tup.lst, gD.t hu9, ws ++ [.ref p4], upd_same, ?_⟩
          rw [List.take_succ, hi]
          refine Paired.snoc ⟨p4, rfl, ?_⟩ (Paired.mapP hP9 fun _ _ r => r.gr gD)
          rw [upd_ne (ne_of_none hw9 hp4).symm, upd_same, ← eL]
          rfl
        match i, hx with
        | 0, hx => exact go 24 0 _ _ (Option.some.inj hx).symm ⟨by decide, by decide⟩ (by decide +kernel) rfl (by decide +kernel) rfl
        | 1, hx => exact go 25 1 _ _ (Option.some.inj hx).symm ⟨by decide, by decide⟩ (by decide +kernel) rfl (by decide +kernel) rfl
        | i + 2, hx => simp at hx
      · obtain ⟨s9, nt9, hu9, ws, hw9, hP9⟩ := hW
        refine ⟨by show 2 ≤ sizeLine; decide, fun u2 hu2 => ⟨by show 2 ≤ sizeLine; decide, fun u3 hu3 => ⟨by show 2 ≤ sizeLine; decide, fun u4 hu4 => ?_⟩⟩⟩
        have t2 := same_new (o := .tup [.int 2, .int 4]) hu2
        have t3 := same_new (o := .tup [.int 2, .int 2]) hu3
        have t4 := same_new (o := .lst [.ref u2, .ref u3]) hu4
        have t24 := (t2.trans t3).trans t4
        refine ne_tups (Ls := [[2, 4], [2, 2]]) (Ms := [[2, 4], [2, 2]]) (SqL.of (t24 _ _ hw9)) (Paired.mapP hP9 fun _ _ r => r.same t24) (SqL.of upd_same) (.cons ⟨u2, rfl, t4 _ _ (t3 _ _ upd_same)⟩ (.cons ⟨u3, rfl, t4 _ _ upd_same⟩ .nil)) ⟨_, rfl, ?_⟩
        rw [decide_eq_true rfl]
        refine iteF ?_
        have s10 := s9.trans t24
        refine ⟨_, rfl, rl, dx, _, rfl, s10 _ _ h1, fld_none (by decide +kernel), rl, l, rr1, 2, 4, rfl, hR8.same s10, ⟨by decide, by decide⟩, by decide, nt9.tup.tup.lst, fun ms p5 H11 pm so s11 nt11 _ e11 => ⟨by show 2 ≤ sizeLine; decide, fun u5 hu5 => ?_⟩⟩
        refine ne_ints (ns := ms) (ms := [24, 27]) (SqL.of (same_new hu5 _ _ e11)) (SqL.of upd_same) ⟨_, rfl, ?_⟩
        rw [decide_eq_true (perm_srt (pm.trans (List.Perm.of_eq (by decide +kernel))) so (by decide))]
        exact k _ ⟨(s10.trans s11).trans (same_new hu5), nt11.lst⟩
    have dd : ∀ (H9 : Hp) (R : List RwL) (y pl : Int) (ms : List Int) (Q' : Hp → Prop), RlmAt K C H9 rl l R → NoT H9 → Far y → (0 ≤ pl ∧ pl ≤ 400) → dayR R y pl R.length = ms → ms.Pairwise (· ≤ ·) → ms.length ≤ 2 → (∀ H10, Same H9 H10 → NoT H10 → Q' H10) → ∀ (ta : TA), (∀ (H : Hp) (K' : List V → Hp → Prop), K' (ms.map V.int) H → ta [some (.ref a), some (.ref sn), some (.ref mn), some (.int c), some (.ref dk), some (.int d), some (.ref p), some (.ref rl), y8, y9] H K') → ∀ {Z : V → Hp → Prop}, (∀ H, Q' H → Z (.bl false) H) →
        tOp (rNeD K) (tMeth C "days_of" (sp_Realm_days_of K C) [] E0 (tVar 7) (tCons (tC (.int y)) (tCons (tC (.int pl)) tNil))) (tLst ta) [some (.ref a), some (.ref sn), some (.ref mn), some (.int c), some (.ref dk), some (.int d), some (.ref p), some (.ref rl), y8, y9] H9 Z := by
      intro H9 R y pl ms Q' hR nt9 fy hpl ed hso hml hq ta hta Z hZ
      obtain ⟨dx, vs, h1, _⟩ := id hR
      refine ⟨_, rfl, rl, dx, _, rfl, h1, fld_none (by decide +kernel), rl, l, R, y, pl, rfl, hR, fy, hpl, nt9, fun ns' p5 H11 pm so s11 nt11 _ e11 => ?_⟩
      refine hta _ _ ⟨by rw [List.length_map, sizeLine_eq]; omega, fun u5 hu5 => ?_⟩
      refine ne_ints (ns := ns') (ms := ms) (SqL.of (same_new hu5 _ _ e11)) (SqL.of upd_same) ?_
      rw [decide_eq_true (perm_srt (pm.trans (List.Perm.of_eq ed)) so hso)]
      exact hZ _ (hq _ (s11.trans (same_new hu5)) nt11.lst)
    rintro H9 ⟨s9, nt9⟩
    have hR9 := hR8.same s9
    have hs9 := Same.t s9 hs8
    have hm9 := Same.t s9 hm8
    have hc9 := s9 _ _ hc8
    refine sq_if (Sn H9) (fun Q' k => ?_) ?_
    · refine dd H9 rr1 2 5 [28] (Sn H9) hR9 nt9 ⟨by decide, by decide⟩ (by decide) (by decide +kernel) (by decide) (by decide) (fun H10 s n => ⟨s, n⟩) _ (fun _ _ h => h) (fun H10 h10 => ⟨_, rfl, iteF ?_⟩)
      refine dd H10 rr1 2 0 [20] (Sn H9) (hR9.same h10.1) h10.2 ⟨by decide, by decide⟩ (by decide) (by decide +kernel) (by decide) (by decide) (fun H11 s n => ⟨h10.1.trans s, n⟩) _ (fun _ _ h => h) (fun H11 h11 => ⟨_, rfl, iteF ?_⟩)
      exact dd H11 rr1 3 0 [33] (Sn H9) (hR9.same h11.1) h11.2 ⟨by decide, by decide⟩ (by decide) (by decide +kernel) (by decide) (by decide) (fun H12 s n => ⟨h11.1.trans s, n⟩) _ (fun _ _ h => h) (fun H12 h12 => ⟨_, rfl, k _ h12⟩)
    rintro H10 ⟨s10, nt10⟩
    have hR10 := hR9.same s10
    have hs10 := Same.t s10 hs9
    have hm10 := Same.t s10 hm9
    have hc10 := s10 _ _ hc9
    refine sq_st0 (fun H11 => (∀ b o, b ≠ l → H10 b = some o → H11 b = some o) ∧ (∀ b xs, SqT K H10 b xs → SqT K H11 b xs) ∧ NoT H11 ∧ RlmAt K C H11 rl l rr2) (fun D' d' => ?_) ?_
    · obtain ⟨dx, vs, h1, h2', h3', h4, h5⟩ := id hR10
      refine ⟨_, rfl, rl, dx, _, rfl, h1, fld_none (by decide +kernel), by show 4 ≤ sizeLine; decide, fun u1 hu1 => ?_⟩
      have su := same_new (o := .tup [.int 10, .int 0, .int 1, .int 0]) hu1
      refine ⟨rl, l, u1, 45, (10, 0, 1, 0), rr1, rfl, hR10.same su, ⟨by decide, by decide⟩, SqT.of upd_same, k10 0 (.inl rfl), nt10.tup, by decide, fun r m e1 e2 => ?_, fun H8 g8 nt8 hR8 => d' _ ⟨fun b o nb e => g8.keep b o nb (su b o e), fun b xs e => g8.t (Same.t su e), nt8, hR8⟩⟩
      obtain rfl : _ = r := Option.some.inj e1
      obtain rfl : _ = m := Option.some.inj e2
      decide
    rintro H11 ⟨kp11, kt11, nt11, hR11⟩
    have hc11 := kp11 _ _ nl3 hc10
    have hs11 : Ld K H11 sn 365 1 4 0 := kt11 _ _ hs10
    have hm11 : Ld K H11 mn 354 11 30 0 := kt11 _ _ hm10
    refine sq_if (Sn H11) (fun Q' k => ?_) ?_
    · refine dd H11 rr2 2 4 [24, 27] (Sn H11) hR11 nt11 ⟨by decide, by decide⟩ (by decide) (by decide +kernel) (by decide) (by decide) (fun H10 s n => ⟨s, n⟩) _ (fun _ _ h => h) (fun H10 h10 => ⟨_, rfl, iteF ?_⟩)
      refine dd H10 rr2 5 0 [50] (Sn H11) (hR11.same h10.1) h10.2 ⟨by decide, by decide⟩ (by decide) (by decide +kernel) (by decide) (by decide) (fun H11 s n => ⟨h10.1.trans s, n⟩) _ (fun _ _ h => h) (fun H12 h11 => ⟨_, rfl, iteF ?_⟩)
      exact dd H12 rr2 4 2 [] (Sn H11) (hR11.same h11.1) h11.2 ⟨by decide, by decide⟩ (by decide) (by decide +kernel) (by decide) (by decide) (fun H12 s n => ⟨h11.1.trans s, n⟩) _ (fun _ _ h => h) (fun H12 h12 => ⟨_, rfl, k _ h12⟩)
    rintro H12 ⟨s12, nt12⟩
    have hc12 := s12 _ _ hc11
    have hs12 := Same.t s12 hs11
    have hm12 := Same.t s12 hm11
    have p6 : (10 : Int) ^ (6 : Int).toNat = 1000000 := by decide
    refine sq_ifL (Sn H12) (fun Q' k => ?_) ?_
    · refine ⟨_, _, rfl, rfl, ⟨by decide, by decide, by decide⟩, _, rfl, by show 2 ≤ sizeLine; decide, fun u1 hu1 => ⟨_, rfl, by show 2 ≤ sizeLine; decide, fun u2 hu2 => ⟨by show 2 ≤ sizeLine; decide, fun u3 hu3 => ?_⟩⟩⟩
      have t1 := same_new (o := .tup [.int 9999, .int (-(10 ^ (6 : Int).toNat))]) hu1
      have t2 := same_new (o := .tup [.int 10000, .int (-999600)]) hu2
      have t3 := same_new (o := .tup [.ref u1, .ref u2]) hu3
      have t13 := (t1.trans t2).trans t3
      refine ⟨u3, [.ref u1, .ref u2], [(9999, -1000000), (10000, -999600)], 1, rfl, SqT.of upd_same, .cons ⟨u1, rfl, SqT.of (t3 _ _ (t2 _ _ ?_))⟩ (.cons ⟨u2, rfl, SqT.of (t3 _ _ upd_same)⟩ .nil), ⟨by decide, by decide, by decide, by decide⟩, by decide, nt12.tup.tup.tup, fun ys Ms p5 H13 s13 nt13 _ e13 hP13 pm so => ?_⟩
      · rw [← p6]
        exact upd_same
      · refine ⟨_, rfl, by show 4 ≤ sizeLine; decide, fun u4 hu4 => ⟨by show 1 ≤ sizeLine; decide, fun u5 hu5 => ?_⟩⟩
        have t4 := same_new (o := .tup [.int 400, .int 0, .int 1, .int (-4999600)]) hu4
        have t5 := same_new (o := .lst [.ref u4]) hu5
        have eM : Ms = [[400, 0, 1, -4999600]] := by
          rw [told_one] at pm
          exact List.perm_singleton.mp pm
        subst eM
        refine ne_tups (Ls := [[400, 0, 1, -4999600]]) (Ms := [[400, 0, 1, -4999600]]) (SqL.of (t5 _ _ (t4 _ _ e13))) (Paired.mapP hP13 fun _ _ r => r.same (t4.trans t5)) (SqL.of upd_same) (.cons ⟨u4, rfl, t5 _ _ upd_same⟩ .nil) ⟨_, rfl, ?_⟩
        rw [decide_eq_true rfl]
        exact k _ ⟨((t13.trans s13).trans t4).trans t5, nt13.tup.lst⟩
    rintro H13 ⟨s13, nt13⟩
    exact ⟨⟨_, _, _, _, _, _, _, rfl⟩, s13 _ _ hc12, nt13, Same.t s13 hs12, Same.t s13 hm12⟩

end
set_option maxHeartbeats 40000000 in
theorem all_mk {l : PySem.W.OpenLaw} {w : World} {K : PySem.W.Frag} {h : Heap} {mg : Str → Option Value} {fa : Addr} (X : K.In h) (G : h.Ns mainGlobals mg) (hfa : mg "law" = some (.ref fa))
    {C_Realm : Addr}
    {od0 an0 : Option Addr} {sl0 : Array (Option Value)} {oc0 kV0 dc0 pm0 cd0 ct0 : Value} {f0 : Addr}
    {od1 an1 : Option Addr} {sl1 : Array (Option Value)} {oc1 kV1 dc1 pm1 cd1 ct1 : Value} {f1 : Addr}
    {od2 an2 : Option Addr} {sl2 : Array (Option Value)} {oc2 kV2 dc2 pm2 cd2 ct2 : Value} {f2 : Addr}
    {od3 an3 : Option Addr} {sl3 : Array (Option Value)} {oc3 kV3 dc3 pm3 cd3 ct3 : Value} {f3 : Addr}
    {od4 an4 : Option Addr} {sl4 : Array (Option Value)} {oc4 kV4 dc4 pm4 cd4 ct4 : Value} {f4 : Addr}
    {od5 an5 : Option Addr} {sl5 : Array (Option Value)} {oc5 kV5 dc5 pm5 cd5 ct5 : Value} {f5 : Addr}
    {od6 an6 : Option Addr} {sl6 : Array (Option Value)} {oc6 kV6 dc6 pm6 cd6 ct6 : Value} {f6 : Addr}
    {od7 an7 : Option Addr} {sl7 : Array (Option Value)} {oc7 kV7 dc7 pm7 cd7 ct7 : Value} {f7 : Addr}
    {od8 an8 : Option Addr} {sl8 : Array (Option Value)} {oc8 kV8 dc8 pm8 cd8 ct8 : Value} {f8 : Addr}
    {od9 an9 : Option Addr} {sl9 : Array (Option Value)} {oc9 kV9 dc9 pm9 cd9 ct9 : Value} {f9 : Addr}
    {od10 an10 : Option Addr} {sl10 : Array (Option Value)} {oc10 kV10 dc10 pm10 cd10 ct10 : Value} {f10 : Addr}
    {od11 an11 : Option Addr} {sl11 : Array (Option Value)} {oc11 kV11 dc11 pm11 cd11 ct11 : Value} {f11 : Addr}
    {od12 an12 : Option Addr} {sl12 : Array (Option Value)} {oc12 kV12 dc12 pm12 cd12 ct12 : Value} {f12 : Addr}
    {od13 an13 : Option Addr} {sl13 : Array (Option Value)} {oc13 kV13 dc13 pm13 cd13 ct13 : Value} {f13 : Addr}
    {od14 an14 : Option Addr} {sl14 : Array (Option Value)} {oc14 kV14 dc14 pm14 cd14 ct14 : Value} {f14 : Addr}
    {od15 an15 : Option Addr} {sl15 : Array (Option Value)} {oc15 kV15 dc15 pm15 cd15 ct15 : Value} {f15 : Addr}
    {od16 an16 : Option Addr} {sl16 : Array (Option Value)} {oc16 kV16 dc16 pm16 cd16 ct16 : Value} {f16 : Addr}
    {od17 an17 : Option Addr} {sl17 : Array (Option Value)} {oc17 kV17 dc17 pm17 cd17 ct17 : Value} {f17 : Addr}
    {od18 an18 : Option Addr} {sl18 : Array (Option Value)} {oc18 kV18 dc18 pm18 cd18 ct18 : Value} {f18 : Addr}
    {od19 an19 : Option Addr} {sl19 : Array (Option Value)} {oc19 kV19 dc19 pm19 cd19 ct19 : Value} {f19 : Addr}
    {od20 an20 : Option Addr} {sl20 : Array (Option Value)} {oc20 kV20 dc20 pm20 cd20 ct20 : Value} {f20 : Addr}
    {od21 an21 : Option Addr} {sl21 : Array (Option Value)} {oc21 kV21 dc21 pm21 cd21 ct21 : Value} {f21 : Addr}
    {od22 an22 : Option Addr} {sl22 : Array (Option Value)} {oc22 kV22 dc22 pm22 cd22 ct22 : Value} {f22 : Addr}
    {od23 an23 : Option Addr} {sl23 : Array (Option Value)} {oc23 kV23 dc23 pm23 cd23 ct23 : Value} {f23 : Addr}
    {od24 an24 : Option Addr} {sl24 : Array (Option Value)} {oc24 kV24 dc24 pm24 cd24 ct24 : Value} {f24 : Addr}
    {od25 an25 : Option Addr} {sl25 : Array (Option Value)} {oc25 kV25 dc25 pm25 cd25 ct25 : Value} {f25 : Addr}
    {od26 an26 : Option Addr} {sl26 : Array (Option Value)} {oc26 kV26 dc26 pm26 cd26 ct26 : Value} {f26 : Addr}
    {od27 an27 : Option Addr} {sl27 : Array (Option Value)} {oc27 kV27 dc27 pm27 cd27 ct27 : Value} {f27 : Addr}
    {od28 an28 : Option Addr} {sl28 : Array (Option Value)} {oc28 kV28 dc28 pm28 cd28 ct28 : Value} {f28 : Addr}
    {od29 an29 : Option Addr} {sl29 : Array (Option Value)} {oc29 kV29 dc29 pm29 cd29 ct29 : Value} {f29 : Addr}
    {od30 an30 : Option Addr} {sl30 : Array (Option Value)} {oc30 kV30 dc30 pm30 cd30 ct30 : Value} {f30 : Addr}
    {od31 an31 : Option Addr} {sl31 : Array (Option Value)} {oc31 kV31 dc31 pm31 cd31 ct31 : Value} {f31 : Addr}
    {od32 an32 : Option Addr} {sl32 : Array (Option Value)} {oc32 kV32 dc32 pm32 cd32 ct32 : Value} {f32 : Addr}
    {od33 an33 : Option Addr} {sl33 : Array (Option Value)} {oc33 kV33 dc33 pm33 cd33 ct33 : Value} {f33 : Addr}
    {od34 an34 : Option Addr} {sl34 : Array (Option Value)} {oc34 kV34 dc34 pm34 cd34 ct34 : Value} {f34 : Addr}
    {od35 an35 : Option Addr} {sl35 : Array (Option Value)} {oc35 kV35 dc35 pm35 cd35 ct35 : Value} {f35 : Addr}
    {od36 an36 : Option Addr} {sl36 : Array (Option Value)} {oc36 kV36 dc36 pm36 cd36 ct36 : Value} {f36 : Addr}
    {od37 an37 : Option Addr} {sl37 : Array (Option Value)} {oc37 kV37 dc37 pm37 cd37 ct37 : Value} {f37 : Addr}
    {od38 an38 : Option Addr} {sl38 : Array (Option Value)} {oc38 kV38 dc38 pm38 cd38 ct38 : Value} {f38 : Addr}
    {od39 an39 : Option Addr} {sl39 : Array (Option Value)} {oc39 kV39 dc39 pm39 cd39 ct39 : Value} {f39 : Addr}
    {od40 an40 : Option Addr} {sl40 : Array (Option Value)} {oc40 kV40 dc40 pm40 cd40 ct40 : Value} {f40 : Addr}
    {od41 an41 : Option Addr} {sl41 : Array (Option Value)} {oc41 kV41 dc41 pm41 cd41 ct41 : Value} {f41 : Addr}
    {od42 an42 : Option Addr} {sl42 : Array (Option Value)} {oc42 kV42 dc42 pm42 cd42 ct42 : Value} {f42 : Addr}
    {od43 an43 : Option Addr} {sl43 : Array (Option Value)} {oc43 kV43 dc43 pm43 cd43 ct43 : Value} {f43 : Addr}
    {od44 an44 : Option Addr} {sl44 : Array (Option Value)} {oc44 kV44 dc44 pm44 cd44 ct44 : Value} {f44 : Addr}
    {od45 an45 : Option Addr} {sl45 : Array (Option Value)} {oc45 kV45 dc45 pm45 cd45 ct45 : Value} {f45 : Addr}
    {t_MOST_DAYS : Tok}
    {t_MOST_BOTTOM : Tok}
    {t_MOST_SHIFT : Tok}
    {t_FAR : Tok}
    {t_MOST_WEEK : Tok}
    {t_MOST_TOLD : Tok}
    (aC_Realm : PySem.W.nsIn K mainGlobals "Realm" = some (some (.ref C_Realm)))
    (pg_Realm : PySem.W.plainGet K C_Realm Str.empty = true)
    (hd_Realm : PySem.W.hasDictIn K C_Realm = true)
    (po_Realm : PySem.W.plainOver K C_Realm = true)
    (sa_Realm : PySem.W.findIn K (.ref C_Realm) "__setattr__" = some (some (.builtin "object.__setattr__")))
    (mk_Realm : PySem.W.makesIn K C_Realm = true)
    (kc_Realm : PySem.W.keepIn K (.ref C_Realm) = true)
    (nI_Realm : PySem.W.findIn K (.ref C_Realm) "rows" = some none)
    (a0 : PySem.W.nsIn K mainGlobals "is_from" = some (some (.ref f0))) (l0 : K.lookup f0 = some ⟨oc0, od0, .func (PySem.W.fnOf "is_from" "is_from" (defArgs s_is_from) (defBody s_is_from) (defScope s_is_from) .none kV0 dc0 pm0 an0 cd0 ct0), sl0⟩) (c0 : PySem.W.codeIn K cd0 "is_from" = true) (k0 : PySem.W.keepIn K (.ref f0) = true)
    (a1 : PySem.W.nsIn K mainGlobals "is_land" = some (some (.ref f1))) (l1 : K.lookup f1 = some ⟨oc1, od1, .func (PySem.W.fnOf "is_land" "is_land" (defArgs s_is_land) (defBody s_is_land) (defScope s_is_land) .none kV1 dc1 pm1 an1 cd1 ct1), sl1⟩) (c1 : PySem.W.codeIn K cd1 "is_land" = true) (k1 : PySem.W.keepIn K (.ref f1) = true)
    (a2 : PySem.W.nsIn K mainGlobals "need_land" = some (some (.ref f2))) (l2 : K.lookup f2 = some ⟨oc2, od2, .func (PySem.W.fnOf "need_land" "need_land" (defArgs s_need_land) (defBody s_need_land) (defScope s_need_land) .none kV2 dc2 pm2 an2 cd2 ct2), sl2⟩) (c2 : PySem.W.codeIn K cd2 "need_land" = true) (k2 : PySem.W.keepIn K (.ref f2) = true)
    (a3 : PySem.W.nsIn K mainGlobals "need_year" = some (some (.ref f3))) (l3 : K.lookup f3 = some ⟨oc3, od3, .func (PySem.W.fnOf "need_year" "need_year" (defArgs s_need_year) (defBody s_need_year) (defScope s_need_year) .none kV3 dc3 pm3 an3 cd3 ct3), sl3⟩) (c3 : PySem.W.codeIn K cd3 "need_year" = true) (k3 : PySem.W.keepIn K (.ref f3) = true)
    (a4 : PySem.W.nsIn K mainGlobals "need_day" = some (some (.ref f4))) (l4 : K.lookup f4 = some ⟨oc4, od4, .func (PySem.W.fnOf "need_day" "need_day" (defArgs s_need_day) (defBody s_need_day) (defScope s_need_day) .none kV4 dc4 pm4 an4 cd4 ct4), sl4⟩) (c4 : PySem.W.codeIn K cd4 "need_day" = true) (k4 : PySem.W.keepIn K (.ref f4) = true)
    (a5 : PySem.W.nsIn K mainGlobals "step_of" = some (some (.ref f5))) (l5 : K.lookup f5 = some ⟨oc5, od5, .func (PySem.W.fnOf "step_of" "step_of" (defArgs s_step_of) (defBody s_step_of) (defScope s_step_of) .none kV5 dc5 pm5 an5 cd5 ct5), sl5⟩) (c5 : PySem.W.codeIn K cd5 "step_of" = true) (k5 : PySem.W.keepIn K (.ref f5) = true)
    (a6 : PySem.W.nsIn K mainGlobals "first_day" = some (some (.ref f6))) (l6 : K.lookup f6 = some ⟨oc6, od6, .func (PySem.W.fnOf "first_day" "first_day" (defArgs s_first_day) (defBody s_first_day) (defScope s_first_day) .none kV6 dc6 pm6 an6 cd6 ct6), sl6⟩) (c6 : PySem.W.codeIn K cd6 "first_day" = true) (k6 : PySem.W.keepIn K (.ref f6) = true)
    (a7 : PySem.W.nsIn K mainGlobals "year_of" = some (some (.ref f7))) (l7 : K.lookup f7 = some ⟨oc7, od7, .func (PySem.W.fnOf "year_of" "year_of" (defArgs s_year_of) (defBody s_year_of) (defScope s_year_of) .none kV7 dc7 pm7 an7 cd7 ct7), sl7⟩) (c7 : PySem.W.codeIn K cd7 "year_of" = true) (k7 : PySem.W.keepIn K (.ref f7) = true)
    (a8 : PySem.W.nsIn K mainGlobals "dated" = some (some (.ref f8))) (l8 : K.lookup f8 = some ⟨oc8, od8, .func (PySem.W.fnOf "dated" "dated" (defArgs s_dated) (defBody s_dated) (defScope s_dated) .none kV8 dc8 pm8 an8 cd8 ct8), sl8⟩) (c8 : PySem.W.codeIn K cd8 "dated" = true) (k8 : PySem.W.keepIn K (.ref f8) = true)
    (a9 : PySem.W.nsIn K mainGlobals "begin" = some (some (.ref f9))) (l9 : K.lookup f9 = some ⟨oc9, od9, .func (PySem.W.fnOf "begin" "begin" (defArgs s_begin) (defBody s_begin) (defScope s_begin) .none kV9 dc9 pm9 an9 cd9 ct9), sl9⟩) (c9 : PySem.W.codeIn K cd9 "begin" = true) (k9 : PySem.W.keepIn K (.ref f9) = true)
    (a10 : PySem.W.nsIn K mainGlobals "date" = some (some (.ref f10))) (l10 : K.lookup f10 = some ⟨oc10, od10, .func (PySem.W.fnOf "date" "date" (defArgs s_date) (defBody s_date) (defScope s_date) .none kV10 dc10 pm10 an10 cd10 ct10), sl10⟩) (c10 : PySem.W.codeIn K cd10 "date" = true) (k10 : PySem.W.keepIn K (.ref f10) = true)
    (a11 : PySem.W.nsIn K mainGlobals "is_long" = some (some (.ref f11))) (l11 : K.lookup f11 = some ⟨oc11, od11, .func (PySem.W.fnOf "is_long" "is_long" (defArgs s_is_long) (defBody s_is_long) (defScope s_is_long) .none kV11 dc11 pm11 an11 cd11 ct11), sl11⟩) (c11 : PySem.W.codeIn K cd11 "is_long" = true) (k11 : PySem.W.keepIn K (.ref f11) = true)
    (a12 : PySem.W.nsIn K mainGlobals "longs_to" = some (some (.ref f12))) (l12 : K.lookup f12 = some ⟨oc12, od12, .func (PySem.W.fnOf "longs_to" "longs_to" (defArgs s_longs_to) (defBody s_longs_to) (defScope s_longs_to) .none kV12 dc12 pm12 an12 cd12 ct12), sl12⟩) (c12 : PySem.W.codeIn K cd12 "longs_to" = true) (k12 : PySem.W.keepIn K (.ref f12) = true)
    (a13 : PySem.W.nsIn K mainGlobals "next_long" = some (some (.ref f13))) (l13 : K.lookup f13 = some ⟨oc13, od13, .func (PySem.W.fnOf "next_long" "next_long" (defArgs s_next_long) (defBody s_next_long) (defScope s_next_long) .none kV13 dc13 pm13 an13 cd13 ct13), sl13⟩) (c13 : PySem.W.codeIn K cd13 "next_long" = true) (k13 : PySem.W.keepIn K (.ref f13) = true)
    (a14 : PySem.W.nsIn K mainGlobals "need_name" = some (some (.ref f14))) (l14 : K.lookup f14 = some ⟨oc14, od14, .func (PySem.W.fnOf "need_name" "need_name" (defArgs s_need_name) (defBody s_need_name) (defScope s_need_name) .none kV14 dc14 pm14 an14 cd14 ct14), sl14⟩) (c14 : PySem.W.codeIn K cd14 "need_name" = true) (k14 : PySem.W.keepIn K (.ref f14) = true)
    (a15 : PySem.W.nsIn K mainGlobals "measure" = some (some (.ref f15))) (l15 : K.lookup f15 = some ⟨oc15, od15, .func (PySem.W.fnOf "measure" "measure" (defArgs s_measure) (defBody s_measure) (defScope s_measure) .none kV15 dc15 pm15 an15 cd15 ct15), sl15⟩) (c15 : PySem.W.codeIn K cd15 "measure" = true) (k15 : PySem.W.keepIn K (.ref f15) = true)
    (a16 : PySem.W.nsIn K mainGlobals "back_of" = some (some (.ref f16))) (l16 : K.lookup f16 = some ⟨oc16, od16, .func (PySem.W.fnOf "back_of" "back_of" (defArgs s_back_of) (defBody s_back_of) (defScope s_back_of) .none kV16 dc16 pm16 an16 cd16 ct16), sl16⟩) (c16 : PySem.W.codeIn K cd16 "back_of" = true) (k16 : PySem.W.keepIn K (.ref f16) = true)
    (a17 : PySem.W.nsIn K mainGlobals "years_so" = some (some (.ref f17))) (l17 : K.lookup f17 = some ⟨oc17, od17, .func (PySem.W.fnOf "years_so" "years_so" (defArgs s_years_so) (defBody s_years_so) (defScope s_years_so) .none kV17 dc17 pm17 an17 cd17 ct17), sl17⟩) (c17 : PySem.W.codeIn K cd17 "years_so" = true) (k17 : PySem.W.keepIn K (.ref f17) = true)
    (a18 : PySem.W.nsIn K mainGlobals "first_from" = some (some (.ref f18))) (l18 : K.lookup f18 = some ⟨oc18, od18, .func (PySem.W.fnOf "first_from" "first_from" (defArgs s_first_from) (defBody s_first_from) (defScope s_first_from) .none kV18 dc18 pm18 an18 cd18 ct18), sl18⟩) (c18 : PySem.W.codeIn K cd18 "first_from" = true) (k18 : PySem.W.keepIn K (.ref f18) = true)
    (a19 : PySem.W.nsIn K mainGlobals "counted" = some (some (.ref f19))) (l19 : K.lookup f19 = some ⟨oc19, od19, .func (PySem.W.fnOf "counted" "counted" (defArgs s_counted) (defBody s_counted) (defScope s_counted) .none kV19 dc19 pm19 an19 cd19 ct19), sl19⟩) (c19 : PySem.W.codeIn K cd19 "counted" = true) (k19 : PySem.W.keepIn K (.ref f19) = true)
    (a20 : PySem.W.nsIn K mainGlobals "next_year" = some (some (.ref f20))) (l20 : K.lookup f20 = some ⟨oc20, od20, .func (PySem.W.fnOf "next_year" "next_year" (defArgs s_next_year) (defBody s_next_year) (defScope s_next_year) .none kV20 dc20 pm20 an20 cd20 ct20), sl20⟩) (c20 : PySem.W.codeIn K cd20 "next_year" = true) (k20 : PySem.W.keepIn K (.ref f20) = true)
    (a21 : PySem.W.nsIn K mainGlobals "how_many" = some (some (.ref f21))) (l21 : K.lookup f21 = some ⟨oc21, od21, .func (PySem.W.fnOf "how_many" "how_many" (defArgs s_how_many) (defBody s_how_many) (defScope s_how_many) .none kV21 dc21 pm21 an21 cd21 ct21), sl21⟩) (c21 : PySem.W.codeIn K cd21 "how_many" = true) (k21 : PySem.W.keepIn K (.ref f21) = true)
    (a22 : PySem.W.nsIn K mainGlobals "lengths" = some (some (.ref f22))) (l22 : K.lookup f22 = some ⟨oc22, od22, .func (PySem.W.fnOf "lengths" "lengths" (defArgs s_lengths) (defBody s_lengths) (defScope s_lengths) .none kV22 dc22 pm22 an22 cd22 ct22), sl22⟩) (c22 : PySem.W.codeIn K cd22 "lengths" = true) (k22 : PySem.W.keepIn K (.ref f22) = true)
    (a23 : PySem.W.nsIn K mainGlobals "barring" = some (some (.ref f23))) (l23 : K.lookup f23 = some ⟨oc23, od23, .func (PySem.W.fnOf "barring" "barring" (defArgs s_barring) (defBody s_barring) (defScope s_barring) .none kV23 dc23 pm23 an23 cd23 ct23), sl23⟩) (c23 : PySem.W.codeIn K cd23 "barring" = true) (k23 : PySem.W.keepIn K (.ref f23) = true)
    (a24 : PySem.W.nsIn K mainGlobals "bars" = some (some (.ref f24))) (l24 : K.lookup f24 = some ⟨oc24, od24, .func (PySem.W.fnOf "bars" "bars" (defArgs s_bars) (defBody s_bars) (defScope s_bars) .none kV24 dc24 pm24 an24 cd24 ct24), sl24⟩) (c24 : PySem.W.codeIn K cd24 "bars" = true) (k24 : PySem.W.keepIn K (.ref f24) = true)
    (a25 : PySem.W.nsIn K mainGlobals "need_placed" = some (some (.ref f25))) (l25 : K.lookup f25 = some ⟨oc25, od25, .func (PySem.W.fnOf "need_placed" "need_placed" (defArgs s_need_placed) (defBody s_need_placed) (defScope s_need_placed) .none kV25 dc25 pm25 an25 cd25 ct25), sl25⟩) (c25 : PySem.W.codeIn K cd25 "need_placed" = true) (k25 : PySem.W.keepIn K (.ref f25) = true)
    (a26 : PySem.W.nsIn K mainGlobals "days_so" = some (some (.ref f26))) (l26 : K.lookup f26 = some ⟨oc26, od26, .func (PySem.W.fnOf "days_so" "days_so" (defArgs s_days_so) (defBody s_days_so) (defScope s_days_so) .none kV26 dc26 pm26 an26 cd26 ct26), sl26⟩) (c26 : PySem.W.codeIn K cd26 "days_so" = true) (k26 : PySem.W.keepIn K (.ref f26) = true)
    (a27 : PySem.W.nsIn K mainGlobals "common_days" = some (some (.ref f27))) (l27 : K.lookup f27 = some ⟨oc27, od27, .func (PySem.W.fnOf "common_days" "common_days" (defArgs s_common_days) (defBody s_common_days) (defScope s_common_days) .none kV27 dc27 pm27 an27 cd27 ct27), sl27⟩) (c27 : PySem.W.codeIn K cd27 "common_days" = true) (k27 : PySem.W.keepIn K (.ref f27) = true)
    (a28 : PySem.W.nsIn K mainGlobals "next_day" = some (some (.ref f28))) (l28 : K.lookup f28 = some ⟨oc28, od28, .func (PySem.W.fnOf "next_day" "next_day" (defArgs s_next_day) (defBody s_next_day) (defScope s_next_day) .none kV28 dc28 pm28 an28 cd28 ct28), sl28⟩) (c28 : PySem.W.codeIn K cd28 "next_day" = true) (k28 : PySem.W.keepIn K (.ref f28) = true)
    (a29 : PySem.W.nsIn K mainGlobals "days" = some (some (.ref f29))) (l29 : K.lookup f29 = some ⟨oc29, od29, .func (PySem.W.fnOf "days" "days" (defArgs s_days) (defBody s_days) (defScope s_days) .none kV29 dc29 pm29 an29 cd29 ct29), sl29⟩) (c29 : PySem.W.codeIn K cd29 "days" = true) (k29 : PySem.W.keepIn K (.ref f29) = true)
    (a30 : PySem.W.nsIn K mainGlobals "are_parted" = some (some (.ref f30))) (l30 : K.lookup f30 = some ⟨oc30, od30, .func (PySem.W.fnOf "are_parted" "are_parted" (defArgs s_are_parted) (defBody s_are_parted) (defScope s_are_parted) .none kV30 dc30 pm30 an30 cd30 ct30), sl30⟩) (c30 : PySem.W.codeIn K cd30 "are_parted" = true) (k30 : PySem.W.keepIn K (.ref f30) = true)
    (a31 : PySem.W.nsIn K mainGlobals "parting" = some (some (.ref f31))) (l31 : K.lookup f31 = some ⟨oc31, od31, .func (PySem.W.fnOf "parting" "parting" (defArgs s_parting) (defBody s_parting) (defScope s_parting) .none kV31 dc31 pm31 an31 cd31 ct31), sl31⟩) (c31 : PySem.W.codeIn K cd31 "parting" = true) (k31 : PySem.W.keepIn K (.ref f31) = true)
    (a32 : PySem.W.nsIn K mainGlobals "least_form" = some (some (.ref f32))) (l32 : K.lookup f32 = some ⟨oc32, od32, .func (PySem.W.fnOf "least_form" "least_form" (defArgs s_least_form) (defBody s_least_form) (defScope s_least_form) .none kV32 dc32 pm32 an32 cd32 ct32), sl32⟩) (c32 : PySem.W.codeIn K cd32 "least_form" = true) (k32 : PySem.W.keepIn K (.ref f32) = true)
    (a33 : PySem.W.nsIn K mainGlobals "first_parting" = some (some (.ref f33))) (l33 : K.lookup f33 = some ⟨oc33, od33, .func (PySem.W.fnOf "first_parting" "first_parting" (defArgs s_first_parting) (defBody s_first_parting) (defScope s_first_parting) .none kV33 dc33 pm33 an33 cd33 ct33), sl33⟩) (c33 : PySem.W.codeIn K cd33 "first_parting" = true) (k33 : PySem.W.keepIn K (.ref f33) = true)
    (a34 : PySem.W.nsIn K mainGlobals "are_seen" = some (some (.ref f34))) (l34 : K.lookup f34 = some ⟨oc34, od34, .func (PySem.W.fnOf "are_seen" "are_seen" (defArgs s_are_seen) (defBody s_are_seen) (defScope s_are_seen) .none kV34 dc34 pm34 an34 cd34 ct34), sl34⟩) (c34 : PySem.W.codeIn K cd34 "are_seen" = true) (k34 : PySem.W.keepIn K (.ref f34) = true)
    (a35 : PySem.W.nsIn K mainGlobals "lands_by" = some (some (.ref f35))) (l35 : K.lookup f35 = some ⟨oc35, od35, .func (PySem.W.fnOf "lands_by" "lands_by" (defArgs s_lands_by) (defBody s_lands_by) (defScope s_lands_by) .none kV35 dc35 pm35 an35 cd35 ct35), sl35⟩) (c35 : PySem.W.codeIn K cd35 "lands_by" = true) (k35 : PySem.W.keepIn K (.ref f35) = true)
    (a36 : PySem.W.nsIn K mainGlobals "lands_of" = some (some (.ref f36))) (l36 : K.lookup f36 = some ⟨oc36, od36, .func (PySem.W.fnOf "lands_of" "lands_of" (defArgs s_lands_of) (defBody s_lands_of) (defScope s_lands_of) .none kV36 dc36 pm36 an36 cd36 ct36), sl36⟩) (c36 : PySem.W.codeIn K cd36 "lands_of" = true) (k36 : PySem.W.keepIn K (.ref f36) = true)
    (a37 : PySem.W.findIn K (.ref C_Realm) "__init__" = some (some (.ref f37))) (i37 : PySem.W.isFn K (.ref f37) = true) (l37 : K.lookup f37 = some ⟨oc37, od37, .func (PySem.W.fnOf "__init__" "Realm.__init__" (defArgs s_Realm_init) (defBody s_Realm_init) (defScope s_Realm_init) .none kV37 dc37 pm37 an37 cd37 ct37), sl37⟩) (c37 : PySem.W.codeIn K cd37 "Realm.__init__" = true) (k37 : PySem.W.keepIn K (.ref f37) = true)
    (a38 : PySem.W.findIn K (.ref C_Realm) "change" = some (some (.ref f38))) (i38 : PySem.W.isFn K (.ref f38) = true) (l38 : K.lookup f38 = some ⟨oc38, od38, .func (PySem.W.fnOf "change" "Realm.change" (defArgs s_Realm_change) (defBody s_Realm_change) (defScope s_Realm_change) .none kV38 dc38 pm38 an38 cd38 ct38), sl38⟩) (c38 : PySem.W.codeIn K cd38 "Realm.change" = true) (k38 : PySem.W.keepIn K (.ref f38) = true)
    (a39 : PySem.W.findIn K (.ref C_Realm) "land_of" = some (some (.ref f39))) (i39 : PySem.W.isFn K (.ref f39) = true) (l39 : K.lookup f39 = some ⟨oc39, od39, .func (PySem.W.fnOf "land_of" "Realm.land_of" (defArgs s_Realm_land_of) (defBody s_Realm_land_of) (defScope s_Realm_land_of) .none kV39 dc39 pm39 an39 cd39 ct39), sl39⟩) (c39 : PySem.W.codeIn K cd39 "Realm.land_of" = true) (k39 : PySem.W.keepIn K (.ref f39) = true)
    (a40 : PySem.W.findIn K (.ref C_Realm) "date" = some (some (.ref f40))) (i40 : PySem.W.isFn K (.ref f40) = true) (l40 : K.lookup f40 = some ⟨oc40, od40, .func (PySem.W.fnOf "date" "Realm.date" (defArgs s_Realm_date) (defBody s_Realm_date) (defScope s_Realm_date) .none kV40 dc40 pm40 an40 cd40 ct40), sl40⟩) (c40 : PySem.W.codeIn K cd40 "Realm.date" = true) (k40 : PySem.W.keepIn K (.ref f40) = true)
    (a41 : PySem.W.findIn K (.ref C_Realm) "days_of" = some (some (.ref f41))) (i41 : PySem.W.isFn K (.ref f41) = true) (l41 : K.lookup f41 = some ⟨oc41, od41, .func (PySem.W.fnOf "days_of" "Realm.days_of" (defArgs s_Realm_days_of) (defBody s_Realm_days_of) (defScope s_Realm_days_of) .none kV41 dc41 pm41 an41 cd41 ct41), sl41⟩) (c41 : PySem.W.codeIn K cd41 "Realm.days_of" = true) (k41 : PySem.W.keepIn K (.ref f41) = true)
    (a42 : PySem.W.nsIn K mainGlobals "_law_deck" = some (some (.ref f42))) (l42 : K.lookup f42 = some ⟨oc42, od42, .func (PySem.W.fnOf "_law_deck" "_law_deck" (defArgs s_law_deck) (defBody s_law_deck) (defScope s_law_deck) .none kV42 dc42 pm42 an42 cd42 ct42), sl42⟩) (c42 : PySem.W.codeIn K cd42 "_law_deck" = true) (k42 : PySem.W.keepIn K (.ref f42) = true)
    (a43 : PySem.W.nsIn K mainGlobals "_law_pick" = some (some (.ref f43))) (l43 : K.lookup f43 = some ⟨oc43, od43, .func (PySem.W.fnOf "_law_pick" "_law_pick" (defArgs s_law_pick) (defBody s_law_pick) (defScope s_law_pick) .none kV43 dc43 pm43 an43 cd43 ct43), sl43⟩) (c43 : PySem.W.codeIn K cd43 "_law_pick" = true) (k43 : PySem.W.keepIn K (.ref f43) = true)
    (a44 : PySem.W.nsIn K mainGlobals "_law_suns_right" = some (some (.ref f44))) (l44 : K.lookup f44 = some ⟨oc44, od44, .func (PySem.W.fnOf "_law_suns_right" "_law_suns_right" (defArgs s_law_suns_right) (defBody s_law_suns_right) (defScope s_law_suns_right) .none kV44 dc44 pm44 an44 cd44 ct44), sl44⟩) (c44 : PySem.W.codeIn K cd44 "_law_suns_right" = true) (k44 : PySem.W.keepIn K (.ref f44) = true)
    (a45 : PySem.W.nsIn K mainGlobals "law" = some (some (.ref f45))) (l45 : K.lookup f45 = some ⟨oc45, od45, .func (PySem.W.fnOf "law" "law" (defArgs s_law) (defBody s_law) (defScope s_law) .none kV45 dc45 pm45 an45 cd45 ct45), sl45⟩) (c45 : PySem.W.codeIn K cd45 "law" = true) (k45 : PySem.W.keepIn K (.ref f45) = true)
    (b_all : PySem.W.nsIn K mainGlobals "all" = some none)
    (b_any : PySem.W.nsIn K mainGlobals "any" = some none)
    (b_bool : PySem.W.nsIn K mainGlobals "bool" = some none)
    (b_enumerate : PySem.W.nsIn K mainGlobals "enumerate" = some none)
    (b_int : PySem.W.nsIn K mainGlobals "int" = some none)
    (b_isinstance : PySem.W.nsIn K mainGlobals "isinstance" = some none)
    (b_len : PySem.W.nsIn K mainGlobals "len" = some none)
    (b_max : PySem.W.nsIn K mainGlobals "max" = some none)
    (b_min : PySem.W.nsIn K mainGlobals "min" = some none)
    (b_range : PySem.W.nsIn K mainGlobals "range" = some none)
    (b_set : PySem.W.nsIn K mainGlobals "set" = some none)
    (b_sorted : PySem.W.nsIn K mainGlobals "sorted" = some none)
    (b_sum : PySem.W.nsIn K mainGlobals "sum" = some none)
    (b_tuple : PySem.W.nsIn K mainGlobals "tuple" = some none)
    (b_zip : PySem.W.nsIn K mainGlobals "zip" = some none)
    (c_MOST_DAYS : PySem.W.nsIn K mainGlobals "MOST_DAYS" = some (some (.int 400 t_MOST_DAYS)))
    (c_MOST_BOTTOM : PySem.W.nsIn K mainGlobals "MOST_BOTTOM" = some (some (.int 60 t_MOST_BOTTOM)))
    (c_MOST_SHIFT : PySem.W.nsIn K mainGlobals "MOST_SHIFT" = some (some (.int 1000000 t_MOST_SHIFT)))
    (c_FAR : PySem.W.nsIn K mainGlobals "FAR" = some (some (.int 1000000000000000000000000000000 t_FAR)))
    (c_MOST_WEEK : PySem.W.nsIn K mainGlobals "MOST_WEEK" = some (some (.int 20 t_MOST_WEEK)))
    (c_MOST_TOLD : PySem.W.nsIn K mainGlobals "MOST_TOLD" = some (some (.int 12 t_MOST_TOLD))) :
    ∃ fd : FuncData, (∀ (s : Shared) (v : Value), BindsTo s fd ⟨[v], []⟩ [("script", v)]) ∧ ∀ base : Heap, K.In base → base.Ns mainGlobals mg → FnOk l.prog w K mg base CX0 7 fa fd ["script"] (sp_law K) := by
  have e := hfa.symm.trans (PySem.W.mg_of X G a45)
  cases e
  have R_Realm : Rm K mg "Realm" C_Realm := ⟨PySem.W.mg_of X G aC_Realm, ⟨pg_Realm, hd_Realm, po_Realm, sa_Realm⟩, nI_Realm, mk_Realm, kc_Realm⟩
  have F0 := fun_mk (st := s_is_from) l0 c0 k0
  have B0 := F0.binds (ps := ["thing", "low", "high"]) fun _ _ _ _ _ _ us hl => match us, hl with | [_, _, _], _ => rfl
  have F1 := fun_mk (st := s_is_land) l1 c1 k1
  have B1 := F1.binds (ps := ["thing"]) fun _ _ _ _ _ _ us hl => match us, hl with | [_], _ => rfl
  have F2 := fun_mk (st := s_need_land) l2 c2 k2
  have B2 := F2.binds (ps := ["land"]) fun _ _ _ _ _ _ us hl => match us, hl with | [_], _ => rfl
  have F3 := fun_mk (st := s_need_year) l3 c3 k3
  have B3 := F3.binds (ps := ["year"]) fun _ _ _ _ _ _ us hl => match us, hl with | [_], _ => rfl
  have F4 := fun_mk (st := s_need_day) l4 c4 k4
  have B4 := F4.binds (ps := ["day"]) fun _ _ _ _ _ _ us hl => match us, hl with | [_], _ => rfl
  have F5 := fun_mk (st := s_step_of) l5 c5 k5
  have B5 := F5.binds (ps := ["land"]) fun _ _ _ _ _ _ us hl => match us, hl with | [_], _ => rfl
  have F6 := fun_mk (st := s_first_day) l6 c6 k6
  have B6 := F6.binds (ps := ["land", "year"]) fun _ _ _ _ _ _ us hl => match us, hl with | [_, _], _ => rfl
  have F7 := fun_mk (st := s_year_of) l7 c7 k7
  have B7 := F7.binds (ps := ["land", "day"]) fun _ _ _ _ _ _ us hl => match us, hl with | [_, _], _ => rfl
  have F8 := fun_mk (st := s_dated) l8 c8 k8
  have B8 := F8.binds (ps := ["land", "day"]) fun _ _ _ _ _ _ us hl => match us, hl with | [_, _], _ => rfl
  have F9 := fun_mk (st := s_begin) l9 c9 k9
  have B9 := F9.binds (ps := ["land", "year"]) fun _ _ _ _ _ _ us hl => match us, hl with | [_, _], _ => rfl
  have F10 := fun_mk (st := s_date) l10 c10 k10
  have B10 := F10.binds (ps := ["land", "day"]) fun _ _ _ _ _ _ us hl => match us, hl with | [_, _], _ => rfl
  have F11 := fun_mk (st := s_is_long) l11 c11 k11
  have B11 := F11.binds (ps := ["land", "year"]) fun _ _ _ _ _ _ us hl => match us, hl with | [_, _], _ => rfl
  have F12 := fun_mk (st := s_longs_to) l12 c12 k12
  have B12 := F12.binds (ps := ["land", "year"]) fun _ _ _ _ _ _ us hl => match us, hl with | [_, _], _ => rfl
  have F13 := fun_mk (st := s_next_long) l13 c13 k13
  have B13 := F13.binds (ps := ["land", "year"]) fun _ _ _ _ _ _ us hl => match us, hl with | [_, _], _ => rfl
  have F14 := fun_mk (st := s_need_name) l14 c14 k14
  have B14 := F14.binds (ps := ["land", "place", "week", "name"]) fun _ _ _ _ _ _ us hl => match us, hl with | [_, _, _, _], _ => rfl
  have F15 := fun_mk (st := s_measure) l15 c15 k15
  have B15 := F15.binds (ps := ["one", "other"]) fun _ _ _ _ _ _ us hl => match us, hl with | [_, _], _ => rfl
  have F16 := fun_mk (st := s_back_of) l16 c16 k16
  have B16 := F16.binds (ps := ["number", "turn"]) fun _ _ _ _ _ _ us hl => match us, hl with | [_, _], _ => rfl
  have F17 := fun_mk (st := s_years_so) l17 c17 k17
  have B17 := F17.binds (ps := ["land", "place", "week", "name"]) fun _ _ _ _ _ _ us hl => match us, hl with | [_, _, _, _], _ => rfl
  have F18 := fun_mk (st := s_first_from) l18 c18 k18
  have B18 := F18.binds (ps := ["rests", "turn", "number"]) fun _ _ _ _ _ _ us hl => match us, hl with | [_, _, _], _ => rfl
  have F19 := fun_mk (st := s_counted) l19 c19 k19
  have B19 := F19.binds (ps := ["rests", "turn", "first", "last"]) fun _ _ _ _ _ _ us hl => match us, hl with | [_, _, _, _], _ => rfl
  have F20 := fun_mk (st := s_next_year) l20 c20 k20
  have B20 := F20.binds (ps := ["land", "place", "week", "name", "year"]) fun _ _ _ _ _ _ us hl => match us, hl with | [_, _, _, _, _], _ => rfl
  have F21 := fun_mk (st := s_how_many) l21 c21 k21
  have B21 := F21.binds (ps := ["land", "place", "week", "name", "first", "last"]) fun _ _ _ _ _ _ us hl => match us, hl with | [_, _, _, _, _, _], _ => rfl
  have F22 := fun_mk (st := s_lengths) l22 c22 k22
  have B22 := F22.binds (ps := ["land", "place", "week", "name"]) fun _ _ _ _ _ _ us hl => match us, hl with | [_, _, _, _], _ => rfl
  have F23 := fun_mk (st := s_barring) l23 c23 k23
  have B23 := F23.binds (ps := ["land", "place", "week", "name"]) fun _ _ _ _ _ _ us hl => match us, hl with | [_, _, _, _], _ => rfl
  have F24 := fun_mk (st := s_bars) l24 c24 k24
  have B24 := F24.binds (ps := ["land", "place", "week", "name", "thing"]) fun _ _ _ _ _ _ us hl => match us, hl with | [_, _, _, _, _], _ => rfl
  have F25 := fun_mk (st := s_need_placed) l25 c25 k25
  have B25 := F25.binds (ps := ["one", "place_one", "other", "place_other"]) fun _ _ _ _ _ _ us hl => match us, hl with | [_, _, _, _], _ => rfl
  have F26 := fun_mk (st := s_days_so) l26 c26 k26
  have B26 := F26.binds (ps := ["land", "place"]) fun _ _ _ _ _ _ us hl => match us, hl with | [_, _], _ => rfl
  have F27 := fun_mk (st := s_common_days) l27 c27 k27
  have B27 := F27.binds (ps := ["one", "place_one", "other", "place_other"]) fun _ _ _ _ _ _ us hl => match us, hl with | [_, _, _, _], _ => rfl
  have F28 := fun_mk (st := s_next_day) l28 c28 k28
  have B28 := F28.binds (ps := ["one", "place_one", "other", "place_other", "day"]) fun _ _ _ _ _ _ us hl => match us, hl with | [_, _, _, _, _], _ => rfl
  have F29 := fun_mk (st := s_days) l29 c29 k29
  have B29 := F29.binds (ps := ["one", "place_one", "other", "place_other", "first", "last"]) fun _ _ _ _ _ _ us hl => match us, hl with | [_, _, _, _, _, _], _ => rfl
  have F30 := fun_mk (st := s_are_parted) l30 c30 k30
  have B30 := F30.binds (ps := ["one", "place_one", "other", "place_other", "number"]) fun _ _ _ _ _ _ us hl => match us, hl with | [_, _, _, _, _], _ => rfl
  have F31 := fun_mk (st := s_parting) l31 c31 k31
  have B31 := F31.binds (ps := ["one", "place_one", "other", "place_other"]) fun _ _ _ _ _ _ us hl => match us, hl with | [_, _, _, _], _ => rfl
  have F32 := fun_mk (st := s_least_form) l32 c32 k32
  have B32 := F32.binds (ps := ["land"]) fun _ _ _ _ _ _ us hl => match us, hl with | [_], _ => rfl
  have F33 := fun_mk (st := s_first_parting) l33 c33 k33
  have B33 := F33.binds (ps := ["one", "other"]) fun _ _ _ _ _ _ us hl => match us, hl with | [_, _], _ => rfl
  have F34 := fun_mk (st := s_are_seen) l34 c34 k34
  have B34 := F34.binds (ps := ["thing"]) fun _ _ _ _ _ _ us hl => match us, hl with | [_], _ => rfl
  have F35 := fun_mk (st := s_lands_by) l35 c35 k35
  have B35 := F35.binds (ps := ["seen", "days", "top", "bottom"]) fun _ _ _ _ _ _ us hl => match us, hl with | [_, _, _, _], _ => rfl
  have F36 := fun_mk (st := s_lands_of) l36 c36 k36
  have B36 := F36.binds (ps := ["seen", "most"]) fun _ _ _ _ _ _ us hl => match us, hl with | [_, _], _ => rfl
  have F37 := fun_mk (st := s_Realm_init) l37 c37 k37
  have B37 := F37.binds (ps := ["self", "land"]) fun _ _ _ _ _ _ us hl => match us, hl with | [_, _], _ => rfl
  have F38 := fun_mk (st := s_Realm_change) l38 c38 k38
  have B38 := F38.binds (ps := ["self", "day", "land"]) fun _ _ _ _ _ _ us hl => match us, hl with | [_, _, _], _ => rfl
  have F39 := fun_mk (st := s_Realm_land_of) l39 c39 k39
  have B39 := F39.binds (ps := ["self", "day"]) fun _ _ _ _ _ _ us hl => match us, hl with | [_, _], _ => rfl
  have F40 := fun_mk (st := s_Realm_date) l40 c40 k40
  have B40 := F40.binds (ps := ["self", "day"]) fun _ _ _ _ _ _ us hl => match us, hl with | [_, _], _ => rfl
  have F41 := fun_mk (st := s_Realm_days_of) l41 c41 k41
  have B41 := F41.binds (ps := ["self", "year", "place"]) fun _ _ _ _ _ _ us hl => match us, hl with | [_, _, _], _ => rfl
  have F42 := fun_mk (st := s_law_deck) l42 c42 k42
  have B42 := F42.binds (ps := ["cell", "turn"]) fun _ _ _ _ _ _ us hl => match us, hl with | [_, _], _ => rfl
  have F43 := fun_mk (st := s_law_pick) l43 c43 k43
  have B43 := F43.binds (ps := ["deck", "size"]) fun _ _ _ _ _ _ us hl => match us, hl with | [_, _], _ => rfl
  have F44 := fun_mk (st := s_law_suns_right) l44 c44 k44
  have B44 := F44.binds (ps := ["sun", "moon"]) fun _ _ _ _ _ _ us hl => match us, hl with | [_, _], _ => rfl
  have F45 := fun_mk (st := s_law) l45 c45 k45
  have B45 := F45.binds (ps := ["script"]) fun _ _ _ _ _ _ us hl => match us, hl with | [_], _ => rfl
  have A : All K mg := ⟨⟨_, _, F0, PySem.W.mg_of X G a0, B0⟩, ⟨_, _, F1, PySem.W.mg_of X G a1, B1⟩, ⟨_, _, F2, PySem.W.mg_of X G a2, B2⟩, ⟨_, _, F3, PySem.W.mg_of X G a3, B3⟩, ⟨_, _, F4, PySem.W.mg_of X G a4, B4⟩, ⟨_, _, F5, PySem.W.mg_of X G a5, B5⟩, ⟨_, _, F6, PySem.W.mg_of X G a6, B6⟩, ⟨_, _, F7, PySem.W.mg_of X G a7, B7⟩, ⟨_, _, F8, PySem.W.mg_of X G a8, B8⟩, ⟨_, _, F9, PySem.W.mg_of X G a9, B9⟩, ⟨_, _, F10, PySem.W.mg_of X G a10, B10⟩, ⟨_, _, F11, PySem.W.mg_of X G a11, B11⟩, ⟨_, _, F12, PySem.W.mg_of X G a12, B12⟩, ⟨_, _, F13, PySem.W.mg_of X G a13, B13⟩, ⟨_, _, F14, PySem.W.mg_of X G a14, B14⟩, ⟨_, _, F15, PySem.W.mg_of X G a15, B15⟩, ⟨_, _, F16, PySem.W.mg_of X G a16, B16⟩, ⟨_, _, F17, PySem.W.mg_of X G a17, B17⟩, ⟨_, _, F18, PySem.W.mg_of X G a18, B18⟩, ⟨_, _, F19, PySem.W.mg_of X G a19, B19⟩, ⟨_, _, F20, PySem.W.mg_of X G a20, B20⟩, ⟨_, _, F21, PySem.W.mg_of X G a21, B21⟩, ⟨_, _, F22, PySem.W.mg_of X G a22, B22⟩, ⟨_, _, F23, PySem.W.mg_of X G a23, B23⟩, ⟨_, _, F24, PySem.W.mg_of X G a24, B24⟩, ⟨_, _, F25, PySem.W.mg_of X G a25, B25⟩, ⟨_, _, F26, PySem.W.mg_of X G a26, B26⟩, ⟨_, _, F27, PySem.W.mg_of X G a27, B27⟩, ⟨_, _, F28, PySem.W.mg_of X G a28, B28⟩, ⟨_, _, F29, PySem.W.mg_of X G a29, B29⟩, ⟨_, _, F30, PySem.W.mg_of X G a30, B30⟩, ⟨_, _, F31, PySem.W.mg_of X G a31, B31⟩, ⟨_, _, F32, PySem.W.mg_of X G a32, B32⟩, ⟨_, _, F33, PySem.W.mg_of X G a33, B33⟩, ⟨_, _, F34, PySem.W.mg_of X G a34, B34⟩, ⟨_, _, F35, PySem.W.mg_of X G a35, B35⟩, ⟨_, _, F36, PySem.W.mg_of X G a36, B36⟩, tm_mk R_Realm F37 ⟨a37, i37, k37⟩ B37, tm_mk R_Realm F38 ⟨a38, i38, k38⟩ B38, tm_mk R_Realm F39 ⟨a39, i39, k39⟩ B39, tm_mk R_Realm F40 ⟨a40, i40, k40⟩ B40, tm_mk R_Realm F41 ⟨a41, i41, k41⟩ B41, ⟨_, _, F42, PySem.W.mg_of X G a42, B42⟩, ⟨_, _, F43, PySem.W.mg_of X G a43, B43⟩, ⟨_, _, F44, PySem.W.mg_of X G a44, B44⟩, ⟨_, _, F45, PySem.W.mg_of X G a45, B45⟩, ⟨_, R_Realm⟩, PySem.W.mg_none_of X G b_all, PySem.W.mg_none_of X G b_any, PySem.W.mg_none_of X G b_bool, PySem.W.mg_none_of X G b_enumerate, PySem.W.mg_none_of X G b_int, PySem.W.mg_none_of X G b_isinstance, PySem.W.mg_none_of X G b_len, PySem.W.mg_none_of X G b_max, PySem.W.mg_none_of X G b_min, PySem.W.mg_none_of X G b_range, PySem.W.mg_none_of X G b_set, PySem.W.mg_none_of X G b_sorted, PySem.W.mg_none_of X G b_sum, PySem.W.mg_none_of X G b_tuple, PySem.W.mg_none_of X G b_zip, ⟨_, PySem.W.mg_of X G c_MOST_DAYS⟩, ⟨_, PySem.W.mg_of X G c_MOST_BOTTOM⟩, ⟨_, PySem.W.mg_of X G c_MOST_SHIFT⟩, ⟨_, PySem.W.mg_of X G c_FAR⟩, ⟨_, PySem.W.mg_of X G c_MOST_WEEK⟩, ⟨_, PySem.W.mg_of X G c_MOST_TOLD⟩⟩
  exact ⟨_, fun s v => .of_eq rfl, fun base _ _ => ok_law A F45⟩
end K13
open PySem PySem.W PyProof.Rows
set_option maxHeartbeats 0 in
theorem PySem.Challenge.cw_longyears_k13_whole_lands_by_words_holds : PySem.Challenge.rw_longyears_k13_whole_lands_by_words.Holds := by
  w_on; o_law; k_head; (case hw => w_witness2)
  k_fill
  refine L2.walk_of (l := PySem.Challenge.rw_longyears_k13_whole_lands_by_words) (n := 63) (k := 7) (x := "script") (CX := fun w => L2.CX0) (sp := fun w => K13.sp_law _) rfl (by decide) rfl ⟨rfl, by decide, by decide⟩ (fun w h Y => PySem.W.kIn_of Y) ?F (fun _ _ a ns hl hO hS => ⟨a, ns, rfl, hS, hl, Ly.NoT.of_only hO, fun _ => rfl⟩) (fun _ _ _ _ _ h => h)
  case F =>
    intro w mg fa h KX G hmg
    refine' K13.all_mk KX G hmg ?aC_Realm ?pg_Realm ?hd_Realm ?po_Realm ?sa_Realm ?mk_Realm ?kc_Realm ?nI_Realm ?a0 ?l0 ?c0 ?k0 ?a1 ?l1 ?c1 ?k1 ?a2 ?l2 ?c2 ?k2 ?a3 ?l3 ?c3 ?k3 ?a4 ?l4 ?c4 ?k4 ?a5 ?l5 ?c5 ?k5 ?a6 ?l6 ?c6 ?k6 ?a7 ?l7 ?c7 ?k7 ?a8 ?l8 ?c8 ?k8 ?a9 ?l9 ?c9 ?k9 ?a10 ?l10 ?c10 ?k10 ?a11 ?l11 ?c11 ?k11 ?a12 ?l12 ?c12 ?k12 ?a13 ?l13 ?c13 ?k13 ?a14 ?l14 ?c14 ?k14 ?a15 ?l15 ?c15 ?k15 ?a16 ?l16 ?c16 ?k16 ?a17 ?l17 ?c17 ?k17 ?a18 ?l18 ?c18 ?k18 ?a19 ?l19 ?c19 ?k19 ?a20 ?l20 ?c20 ?k20 ?a21 ?l21 ?c21 ?k21 ?a22 ?l22 ?c22 ?k22 ?a23 ?l23 ?c23 ?k23 ?a24 ?l24 ?c24 ?k24 ?a25 ?l25 ?c25 ?k25 ?a26 ?l26 ?c26 ?k26 ?a27 ?l27 ?c27 ?k27 ?a28 ?l28 ?c28 ?k28 ?a29 ?l29 ?c29 ?k29 ?a30 ?l30 ?c30 ?k30 ?a31 ?l31 ?c31 ?k31 ?a32 ?l32 ?c32 ?k32 ?a33 ?l33 ?c33 ?k33 ?a34 ?l34 ?c34 ?k34 ?a35 ?l35 ?c35 ?k35 ?a36 ?l36 ?c36 ?k36 ?a37 ?i37 ?l37 ?c37 ?k37 ?a38 ?i38 ?l38 ?c38 ?k38 ?a39 ?i39 ?l39 ?c39 ?k39 ?a40 ?i40 ?l40 ?c40 ?k40 ?a41 ?i41 ?l41 ?c41 ?k41 ?a42 ?l42 ?c42 ?k42 ?a43 ?l43 ?c43 ?k43 ?a44 ?l44 ?c44 ?k44 ?a45 ?l45 ?c45 ?k45 ?b_all ?b_any ?b_bool ?b_enumerate ?b_int ?b_isinstance ?b_len ?b_max ?b_min ?b_range ?b_set ?b_sorted ?b_sum ?b_tuple ?b_zip ?c_MOST_DAYS ?c_MOST_BOTTOM ?c_MOST_SHIFT ?c_FAR ?c_MOST_WEEK ?c_MOST_TOLD
    (case aC_Realm => k_is); (case pg_Realm => k_is); (case hd_Realm => k_is); (case po_Realm => k_is); (case sa_Realm => k_is); (case mk_Realm => k_is); (case kc_Realm => k_is); (case nI_Realm => k_is); (case a0 => k_is); (case l0 => k_is); (case c0 => k_is); (case k0 => k_is); (case a1 => k_is); (case l1 => k_is); (case c1 => k_is); (case k1 => k_is); (case a2 => k_is); (case l2 => k_is); (case c2 => k_is); (case k2 => k_is); (case a3 => k_is); (case l3 => k_is); (case c3 => k_is); (case k3 => k_is); (case a4 => k_is); (case l4 => k_is); (case c4 => k_is); (case k4 => k_is); (case a5 => k_is); (case l5 => k_is); (case c5 => k_is); (case k5 => k_is); (case a6 => k_is); (case l6 => k_is); (case c6 => k_is); (case k6 => k_is); (case a7 => k_is); (case l7 => k_is); (case c7 => k_is); (case k7 => k_is); (case a8 => k_is); (case l8 => k_is); (case c8 => k_is); (case k8 => k_is); (case a9 => k_is); (case l9 => k_is); (case c9 => k_is); (case k9 => k_is); (case a10 => k_is); (case l10 => k_is); (case c10 => k_is); (case k10 => k_is); (case a11 => k_is); (case l11 => k_is); (case c11 => k_is); (case k11 => k_is); (case a12 => k_is); (case l12 => k_is); (case c12 => k_is); (case k12 => k_is); (case a13 => k_is); (case l13 => k_is); (case c13 => k_is); (case k13 => k_is); (case a14 => k_is); (case l14 => k_is); (case c14 => k_is); (case k14 => k_is); (case a15 => k_is); (case l15 => k_is); (case c15 => k_is); (case k15 => k_is); (case a16 => k_is); (case l16 => k_is); (case c16 => k_is); (case k16 => k_is); (case a17 => k_is); (case l17 => k_is); (case c17 => k_is); (case k17 => k_is); (case a18 => k_is); (case l18 => k_is); (case c18 => k_is); (case k18 => k_is); (case a19 => k_is); (case l19 => k_is); (case c19 => k_is); (case k19 => k_is); (case a20 => k_is); (case l20 => k_is); (case c20 => k_is); (case k20 => k_is); (case a21 => k_is); (case l21 => k_is); (case c21 => k_is); (case k21 => k_is); (case a22 => k_is); (case l22 => k_is); (case c22 => k_is); (case k22 => k_is); (case a23 => k_is); (case l23 => k_is); (case c23 => k_is); (case k23 => k_is); (case a24 => k_is); (case l24 => k_is); (case c24 => k_is); (case k24 => k_is); (case a25 => k_is); (case l25 => k_is); (case c25 => k_is); (case k25 => k_is); (case a26 => k_is); (case l26 => k_is); (case c26 => k_is); (case k26 => k_is); (case a27 => k_is); (case l27 => k_is); (case c27 => k_is); (case k27 => k_is); (case a28 => k_is); (case l28 => k_is); (case c28 => k_is); (case k28 => k_is); (case a29 => k_is); (case l29 => k_is); (case c29 => k_is); (case k29 => k_is); (case a30 => k_is); (case l30 => k_is); (case c30 => k_is); (case k30 => k_is); (case a31 => k_is); (case l31 => k_is); (case c31 => k_is); (case k31 => k_is); (case a32 => k_is); (case l32 => k_is); (case c32 => k_is); (case k32 => k_is); (case a33 => k_is); (case l33 => k_is); (case c33 => k_is); (case k33 => k_is); (case a34 => k_is); (case l34 => k_is); (case c34 => k_is); (case k34 => k_is); (case a35 => k_is); (case l35 => k_is); (case c35 => k_is); (case k35 => k_is); (case a36 => k_is); (case l36 => k_is); (case c36 => k_is); (case k36 => k_is); (case a37 => k_is); (case i37 => k_is); (case l37 => k_is); (case c37 => k_is); (case k37 => k_is); (case a38 => k_is); (case i38 => k_is); (case l38 => k_is); (case c38 => k_is); (case k38 => k_is); (case a39 => k_is); (case i39 => k_is); (case l39 => k_is); (case c39 => k_is); (case k39 => k_is); (case a40 => k_is); (case i40 => k_is); (case l40 => k_is); (case c40 => k_is); (case k40 => k_is); (case a41 => k_is); (case i41 => k_is); (case l41 => k_is); (case c41 => k_is); (case k41 => k_is); (case a42 => k_is); (case l42 => k_is); (case c42 => k_is); (case k42 => k_is); (case a43 => k_is); (case l43 => k_is); (case c43 => k_is); (case k43 => k_is); (case a44 => k_is); (case l44 => k_is); (case c44 => k_is); (case k44 => k_is); (case a45 => k_is); (case l45 => k_is); (case c45 => k_is); (case k45 => k_is); (case b_all => k_is); (case b_any => k_is); (case b_bool => k_is); (case b_enumerate => k_is); (case b_int => k_is); (case b_isinstance => k_is); (case b_len => k_is); (case b_max => k_is); (case b_min => k_is); (case b_range => k_is); (case b_set => k_is); (case b_sorted => k_is); (case b_sum => k_is); (case b_tuple => k_is); (case b_zip => k_is); (case c_MOST_DAYS => k_is); (case c_MOST_BOTTOM => k_is); (case c_MOST_SHIFT => k_is); (case c_FAR => k_is); (case c_MOST_WEEK => k_is); (case c_MOST_TOLD => k_is)
