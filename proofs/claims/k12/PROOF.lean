import PyProof.Rows.All
import HandS.ForMost
import HandS.ForExc
import HandS.Wide
import HandS.EndBits
import HandS.IsInst
import HandS.Evl
import HandS.Style
import HandS.SortInts
import PyProof.LongRange
import KE.GoesMore
import HandS.SetFor
import HandS.Strs
import KE.KEqSeq
import HandS.Conv
import HandS.DictComp
import PyProof.Rows.IntBool
import KE.KRevSl
import HandS.SortRule
import HandS.Zip
import HandS.HotCalls
import HandS.Text
import HandS.ExcIs
import KE.KLam
import HandS.EndTab
import KE.KNestM
import HandS.TupAny
import HandS.TupMul
import HandS.Deep
import HandS.OwnEq
import OpenK.KOps
import PySem.Challenge.RW_longyears_k12_what_is_refused
set_option Elab.async false
set_option linter.all false
set_option maxHeartbeats 4000000
/-! lands, plainly -/
namespace Ly
/-! ### lands -/
def LandOk (d t b s : Int) : Prop := (1 ≤ d ∧ d ≤ 400) ∧ (0 ≤ t ∧ t < b) ∧ (1 ≤ b ∧ b ≤ 60) ∧ -1000000 ≤ s ∧ s ≤ 1000000
def Far (y : Int) : Prop := -1000000000000000000000000000000 ≤ y ∧ y ≤ 1000000000000000000000000000000
/-- the day on which a year begins -/
def fday (d t b s y : Int) : Int := ((d * b + t) * y + s) / b
/-- the year of a day -/
def yof (d t b s n : Int) : Int := ((n + 1) * b - s - 1) / (d * b + t)
theorem step_pos {d t b s : Int} (h : LandOk d t b s) : 1 ≤ d * b + t ∧ d * b + t ≤ 24060 := by
  obtain ⟨⟨h1, h2⟩, ⟨h3, h4⟩, ⟨h5, h6⟩, _⟩ := h
  have a1 : 1 * 1 ≤ d * b := Int.mul_le_mul h1 h5 (by decide) (by omega)
  have a2 : d * b ≤ 400 * 60 := Int.mul_le_mul h2 h6 (by omega) (by decide)
  omega
end Ly
namespace Ly
theorem fday_begin {d t b s : Int} (h : LandOk d t b s) (y : Int) : fday d t b s y = d * y + (t * y + s) / b := by
  obtain ⟨_, _, ⟨h5, _⟩, _⟩ := h
  unfold fday
  have e : (d * b + t) * y + s = (t * y + s) + b * (d * y) := by
    rw [Int.add_mul, Int.mul_comm d b, Int.mul_assoc]; omega
  rw [e, Int.add_mul_ediv_left _ _ (by omega)]
  omega
end Ly
set_option Elab.async false
set_option linter.all false
/-! the mathematics of lands -/
namespace Ly
theorem LandOk.b {d t b s : Int} (h : LandOk d t b s) : 1 ≤ b ∧ b ≤ 60 := h.2.2.1
theorem LandOk.d {d t b s : Int} (h : LandOk d t b s) : 1 ≤ d ∧ d ≤ 400 := h.1
theorem LandOk.t {d t b s : Int} (h : LandOk d t b s) : 0 ≤ t ∧ t < b := h.2.1
theorem LandOk.s {d t b s : Int} (h : LandOk d t b s) : -1000000 ≤ s ∧ s ≤ 1000000 := h.2.2.2
/-- year y begins by day m just where y is at most the year of m -/
theorem gal {d t b s : Int} (h : LandOk d t b s) (y m : Int) : fday d t b s y ≤ m ↔ y ≤ yof d t b s m := by
  have hb := h.b
  have hs := step_pos h
  unfold fday yof
  rw [Int.le_ediv_iff_mul_le (by omega)]
  have e : ((d * b + t) * y + s) / b ≤ m ↔ ((d * b + t) * y + s) / b < m + 1 := by omega
  rw [e, Int.ediv_lt_iff_lt_mul (by omega), Int.mul_comm (d * b + t) y]
  omega
theorem yof_low {d t b s : Int} (h : LandOk d t b s) (m : Int) : fday d t b s (yof d t b s m) ≤ m := (gal h _ m).mpr (Int.le_refl _)
theorem yof_high {d t b s : Int} (h : LandOk d t b s) (m : Int) : m < fday d t b s (yof d t b s m + 1) := by
  have := mt (gal h (yof d t b s m + 1) m).mp (by omega)
  omega
theorem yof_eq {d t b s : Int} (h : LandOk d t b s) {y m : Int} (h1 : fday d t b s y ≤ m) (h2 : m < fday d t b s (y + 1)) : yof d t b s m = y := by
  have a := (gal h y m).mp h1
  have c := mt (gal h (y + 1) m).mpr (by omega)
  omega
/-- T: the long years told so far -/
def tof (t b s y : Int) : Int := (t * y + s) / b
theorem fday_tof {d t b s : Int} (h : LandOk d t b s) (y : Int) : fday d t b s y = d * y + tof t b s y := fday_begin h y
theorem tof_step {d t b s : Int} (h : LandOk d t b s) (y : Int) : tof t b s (y + 1) = tof t b s y ∨ tof t b s (y + 1) = tof t b s y + 1 := by
  have hb := h.b
  have ht := h.t
  unfold tof
  have e : t * (y + 1) + s = (t * y + s) + t := by rw [Int.mul_add, Int.mul_one]; omega
  rw [e]
  generalize t * y + s = A
  have h1 : A / b ≤ (A + t) / b := Int.ediv_le_ediv (by omega) (by omega)
  have h2 : (A + t) / b ≤ (A + b * 1) / b := Int.ediv_le_ediv (by omega) (by omega)
  rw [Int.add_mul_ediv_left _ _ (by omega)] at h2
  omega
theorem flen {d t b s : Int} (h : LandOk d t b s) (y : Int) : fday d t b s (y + 1) - fday d t b s y = d + (tof t b s (y + 1) - tof t b s y) := by
  rw [fday_tof h, fday_tof h, Int.mul_add, Int.mul_one]; omega
theorem flen2 {d t b s : Int} (h : LandOk d t b s) (y : Int) : fday d t b s (y + 1) - fday d t b s y = d ∨ fday d t b s (y + 1) - fday d t b s y = d + 1 := by
  rw [flen h]
  rcases tof_step h y with e | e <;> omega
theorem fday_lt {d t b s : Int} (h : LandOk d t b s) (y : Int) : fday d t b s y < fday d t b s (y + 1) := by
  have := flen2 h y
  have := h.d
  omega
theorem yof_begin {d t b s : Int} (h : LandOk d t b s) (y : Int) : yof d t b s (fday d t b s y) = y := yof_eq h (Int.le_refl _) (fday_lt h y)
theorem yof_ahead {d t b s : Int} (h : LandOk d t b s) (y : Int) : yof d t b s (fday d t b s y - 1) = y - 1 := by
  have e := fday_lt h (y - 1)
  rw [Int.sub_add_cancel] at e
  exact yof_eq h (by omega) (by rw [Int.sub_add_cancel]; omega)
theorem fday_round {d t b s : Int} (h : LandOk d t b s) (y : Int) : fday d t b s (y + b) = fday d t b s y + (d * b + t) := by
  have hb := h.b
  unfold fday
  have e : (d * b + t) * (y + b) + s = ((d * b + t) * y + s) + b * (d * b + t) := by
    rw [Int.mul_add, Int.mul_comm (d * b + t) b]; omega
  rw [e, Int.add_mul_ediv_left _ _ (by omega)]
/-- the day behind: the same year, or the next one's first -/
theorem yof_succ {d t b s : Int} (h : LandOk d t b s) (m : Int) :
    yof d t b s (m + 1) = if m + 1 - fday d t b s (yof d t b s m) = fday d t b s (yof d t b s m + 1) - fday d t b s (yof d t b s m) then yof d t b s m + 1 else yof d t b s m := by
  have h1 := yof_low h m
  have h2 := yof_high h m
  split
  · rename_i e
    have e2 : m + 1 = fday d t b s (yof d t b s m + 1) := by omega
    rw [e2]
    exact yof_begin h _
  · exact yof_eq h (by omega) (by omega)
theorem ediv_abs {x k : Int} (hk : 1 ≤ k) {B : Int} (hB : 0 ≤ B) (h1 : -B ≤ x) (h2 : x ≤ B) : -B ≤ x / k ∧ x / k ≤ B := by
  constructor
  · rw [Int.le_ediv_iff_mul_le (by omega)]
    have : -B * k ≤ -B * 1 := Int.mul_le_mul_of_nonpos_left (by omega) hk
    omega
  · have h3 : x / k < B + 1 := by
      rw [Int.ediv_lt_iff_lt_mul (by omega)]
      have : (B + 1) * 1 ≤ (B + 1) * k := Int.mul_le_mul_of_nonneg_left hk (by omega)
      omega
    omega
theorem mul_abs {x k : Int} {M B : Int} (hk0 : 0 ≤ k) (hk : k ≤ M) (hB : 0 ≤ B) (h1 : -B ≤ x) (h2 : x ≤ B) : -(B * M) ≤ x * k ∧ x * k ≤ B * M := by
  have a1 : x * k ≤ B * k := Int.mul_le_mul_of_nonneg_right h2 hk0
  have a2 : B * k ≤ B * M := Int.mul_le_mul_of_nonneg_left hk hB
  have a3 : -B * k ≤ x * k := Int.mul_le_mul_of_nonneg_right h1 hk0
  have a4 : -B * k = -(B * k) := Int.neg_mul ..
  omega
theorem yof_abs {d t b s : Int} (h : LandOk d t b s) {m B : Int} (hB : 0 ≤ B) (h1 : -B ≤ m) (h2 : m ≤ B) : -(60 * B + 2000000) ≤ yof d t b s m ∧ yof d t b s m ≤ 60 * B + 2000000 := by
  have hb := h.b
  have hs := h.s
  have hp := step_pos h
  have hm := mul_abs (x := m + 1) (k := b) (M := 60) (B := B + 1) (by omega) (by omega) (by omega) (by omega) (by omega)
  unfold yof
  exact ediv_abs hp.1 (by omega) (by omega) (by omega)
theorem fday_abs {d t b s : Int} (h : LandOk d t b s) {y B : Int} (hB : 0 ≤ B) (h1 : -B ≤ y) (h2 : y ≤ B) : -(24060 * B + 2000000) ≤ fday d t b s y ∧ fday d t b s y ≤ 24060 * B + 2000000 := by
  have hb := h.b
  have hs := h.s
  have hp := step_pos h
  have hm := mul_abs (x := y) (k := d * b + t) (M := 24060) (B := B) (by omega) (by omega) (by omega) (by omega) (by omega)
  unfold fday
  rw [Int.mul_comm (d * b + t) y]
  exact ediv_abs hb.1 (by omega) (by omega) (by omega)
theorem tof_abs {d t b s : Int} (h : LandOk d t b s) {y B : Int} (hB : 0 ≤ B) (h1 : -B ≤ y) (h2 : y ≤ B) : -(B + 1000001) ≤ tof t b s y ∧ tof t b s y ≤ B + 1000001 := by
  have hb := h.b
  have hs := h.s
  have ht := h.t
  have hm := mul_abs (x := y) (k := t) (M := b) (B := B) (by omega) (by omega) (by omega) (by omega) (by omega)
  unfold tof
  rw [Int.mul_comm t y]
  have e1 : (B * b + 1000000 * b) / b = B + 1000000 := by rw [← Int.add_mul, Int.mul_ediv_cancel _ (by omega)]
  have e2 : (-(B * b) - 1000000 * b) / b = -B - 1000000 := by rw [← Int.neg_mul, ← Int.sub_mul, Int.mul_ediv_cancel _ (by omega)]
  have m1 : (y * t + s) / b ≤ (B * b + 1000000 * b) / b := Int.ediv_le_ediv (by omega) (by omega)
  have m2 : (-(B * b) - 1000000 * b) / b ≤ (y * t + s) / b := Int.ediv_le_ediv (by omega) (by omega)
  omega
theorem fday_abs2 {d t b s : Int} (h : LandOk d t b s) {y B : Int} (hB : 0 ≤ B) (h1 : -B ≤ y) (h2 : y ≤ B) : -(401 * B + 1000001) ≤ fday d t b s y ∧ fday d t b s y ≤ 401 * B + 1000001 := by
  have hd := h.d
  have ht := tof_abs h hB h1 h2
  have hm := mul_abs (x := y) (k := d) (M := 400) (B := B) (by omega) (by omega) (by omega) (by omega) (by omega)
  rw [fday_tof h, Int.mul_comm d y]
  omega
/-- of so many years as many are long as their part, below or above -/
theorem tof_part {d t b s : Int} (h : LandOk d t b s) (y : Int) {n : Int} (hn : 0 ≤ n) : n * t / b ≤ tof t b s (y + n) - tof t b s y ∧ tof t b s (y + n) - tof t b s y ≤ (n * t + b - 1) / b := by
  have hb := h.b
  unfold tof
  have e : t * (y + n) + s = (t * y + s) + n * t := by rw [Int.mul_add, Int.mul_comm t n]; omega
  rw [e]
  generalize t * y + s = A
  generalize n * t = N
  have hA := Int.emod_add_mul_ediv A b
  have hN := Int.emod_add_mul_ediv N b
  have a0 := Int.emod_nonneg A (show b ≠ 0 by omega)
  have a1 := Int.emod_lt_of_pos A (show 0 < b by omega)
  have n0 := Int.emod_nonneg N (show b ≠ 0 by omega)
  have n1 := Int.emod_lt_of_pos N (show 0 < b by omega)
  constructor
  · have : A / b + N / b ≤ (A + N) / b := by
      rw [Int.le_ediv_iff_mul_le (by omega), Int.add_mul, Int.mul_comm (A / b), Int.mul_comm (N / b)]
      omega
    omega
  · generalize hC : (N + b - 1) / b = C
    have h2 : N ≤ b * C := by
      have h3 := Int.emod_add_mul_ediv (N + b - 1) b
      have h4 := Int.emod_lt_of_pos (N + b - 1) (show 0 < b by omega)
      rw [hC] at h3
      omega
    have : (A + N) / b < A / b + C + 1 := by
      rw [Int.ediv_lt_iff_lt_mul (by omega), Int.add_mul, Int.add_mul, Int.mul_comm (A / b), Int.mul_comm C]
      omega
    omega
theorem tof_round {d t b s : Int} (h : LandOk d t b s) (y : Int) : tof t b s (y + b) = tof t b s y + t := by
  have hb := h.b
  unfold tof
  have e : t * (y + b) + s = (t * y + s) + b * t := by rw [Int.mul_add, Int.mul_comm t b]; omega
  rw [e, Int.add_mul_ediv_left _ _ (by omega)]
end Ly
set_option Elab.async false
set_option linter.all false
set_option maxHeartbeats 4000000
/-! days of the week: the mathematics -/
namespace Ly
/-- the greatest common measure of two numbers from 0 on -/
def gcdI (a b : Int) : Int := (Nat.gcd a.toNat b.toNat : Nat)
theorem gcdI_zero {a : Int} (h : 0 ≤ a) : gcdI a 0 = a := by
  unfold gcdI
  rw [show (0 : Int).toNat = 0 from rfl, Nat.gcd_zero_right]; omega
theorem gcdI_step {a b : Int} (ha : 0 ≤ a) (hb : 0 < b) : gcdI a b = gcdI b (a % b) := by
  unfold gcdI
  have e : (a % b).toNat = a.toNat % b.toNat := by
    obtain ⟨m, rfl⟩ : ∃ m : Nat, a = m := ⟨a.toNat, by omega⟩
    obtain ⟨n, rfl⟩ : ∃ n : Nat, b = n := ⟨b.toNat, by omega⟩
    show ((m : Int) % (n : Int)).toNat = m % n
    rw [← Int.natCast_emod, Int.toNat_natCast]
  rw [e, Nat.gcd_comm b.toNat, ← Nat.gcd_rec, Nat.gcd_comm]
theorem gcdI_dvd_l {a b : Int} (ha : 0 ≤ a) : gcdI a b ∣ a := by
  unfold gcdI
  have h := Int.natCast_dvd_natCast.mpr (Nat.gcd_dvd_left a.toNat b.toNat)
  rwa [Int.toNat_of_nonneg ha] at h
theorem gcdI_dvd_r {a b : Int} (hb : 0 ≤ b) : gcdI a b ∣ b := by
  unfold gcdI
  have h := Int.natCast_dvd_natCast.mpr (Nat.gcd_dvd_right a.toNat b.toNat)
  rwa [Int.toNat_of_nonneg hb] at h
theorem gcdI_pos {a b : Int} (ha : 0 < a) : 1 ≤ gcdI a b := by
  unfold gcdI
  have := Nat.gcd_pos_of_pos_left b.toNat (show 0 < a.toNat by omega)
  omega
theorem gcdI_pos_r {a b : Int} (hb : 0 < b) : 1 ≤ gcdI a b := by
  unfold gcdI
  have := Nat.gcd_pos_of_pos_right a.toNat (show 0 < b.toNat by omega)
  omega
theorem gcdI_comm (a b : Int) : gcdI a b = gcdI b a := by unfold gcdI; rw [Nat.gcd_comm]
theorem dvd_gcdI {k a b : Int} (hk : 0 ≤ k) (ha : 0 ≤ a) (hb : 0 ≤ b) (h1 : k ∣ a) (h2 : k ∣ b) : k ∣ gcdI a b := by
  obtain ⟨m, rfl⟩ : ∃ m : Nat, k = m := ⟨k.toNat, by omega⟩
  obtain ⟨x, rfl⟩ : ∃ x : Nat, a = x := ⟨a.toNat, by omega⟩
  obtain ⟨y, rfl⟩ : ∃ y : Nat, b = y := ⟨b.toNat, by omega⟩
  unfold gcdI
  exact Int.natCast_dvd_natCast.mpr (Nat.dvd_gcd (by simpa using Int.natCast_dvd_natCast.mp h1) (by simpa using Int.natCast_dvd_natCast.mp h2))
theorem gcdI_div {a b : Int} (ha : 0 < a) (hb : 0 ≤ b) : gcdI (a / gcdI a b) (b / gcdI a b) = 1 := by
  obtain ⟨x, rfl⟩ : ∃ x : Nat, a = x := ⟨a.toNat, by omega⟩
  obtain ⟨y, rfl⟩ : ∃ y : Nat, b = y := ⟨b.toNat, by omega⟩
  unfold gcdI
  have e1 : ((x : Int) / ((Nat.gcd (x : Int).toNat (y : Int).toNat : Nat) : Int)).toNat = x / Nat.gcd x y := by rw [Int.toNat_natCast, Int.toNat_natCast, ← Int.natCast_ediv, Int.toNat_natCast]
  have e2 : ((y : Int) / ((Nat.gcd (x : Int).toNat (y : Int).toNat : Nat) : Int)).toNat = y / Nat.gcd x y := by rw [Int.toNat_natCast, Int.toNat_natCast, ← Int.natCast_ediv, Int.toNat_natCast]
  rw [e1, e2, Nat.gcd_div (Nat.gcd_dvd_left x y) (Nat.gcd_dvd_right x y), Nat.div_self (Nat.gcd_pos_of_pos_left y (by omega))]
  rfl
theorem modeq {T y z : Int} : y % T = z % T ↔ T ∣ y - z := by
  rw [Int.dvd_iff_emod_eq_zero]
  exact Int.emod_eq_emod_iff_emod_sub_eq_zero
/-- S * y leaves aw by W, solved by the inverse -/
theorem solve {S W g T r bk : Int} (hg : 0 < g) (hS : S = g * r) (hW : W = g * T) (hb : T ∣ r * bk - 1) (y aw : Int) : W ∣ S * y - aw ↔ g ∣ aw ∧ y % T = (aw / g * bk) % T := by
  subst hS hW
  constructor
  · intro h
    have hga : g ∣ aw := by
      have h1 : g ∣ g * r * y - aw := Int.dvd_trans ⟨T, rfl⟩ h
      have h2 : g ∣ g * r * y := ⟨r * y, by rw [Int.mul_assoc]⟩
      have h3 := Int.dvd_sub h2 h1
      rwa [Int.sub_sub_self] at h3
    refine ⟨hga, ?_⟩
    obtain ⟨a, rfl⟩ := hga
    rw [Int.mul_ediv_cancel_left _ (by omega), modeq]
    have h2 : T ∣ r * y - a := by
      rw [Int.mul_assoc, ← Int.mul_sub] at h
      exact Int.dvd_of_mul_dvd_mul_left (by omega) h
    have h3 : T ∣ (r * y - a) * bk := Int.dvd_trans h2 ⟨bk, rfl⟩
    have h4 : T ∣ (r * bk - 1) * y := Int.dvd_trans hb ⟨y, rfl⟩
    have h5 := Int.dvd_sub h3 h4
    have e : (r * y - a) * bk - (r * bk - 1) * y = y - a * bk := by
      rw [Int.sub_mul, Int.sub_mul, Int.mul_right_comm r bk y, Int.one_mul]; omega
    rwa [e] at h5
  · rintro ⟨⟨a, rfl⟩, h⟩
    rw [Int.mul_ediv_cancel_left _ (by omega), modeq] at h
    rw [Int.mul_assoc, ← Int.mul_sub]
    refine Int.mul_dvd_mul_left g ?_
    have h3 : T ∣ (y - a * bk) * r := Int.dvd_trans h ⟨r, rfl⟩
    have h4 : T ∣ (r * bk - 1) * a := Int.dvd_trans hb ⟨a, rfl⟩
    have h5 := Int.dvd_add h3 h4
    have e : (y - a * bk) * r + (r * bk - 1) * a = r * y - a := by
      rw [Int.sub_mul, Int.sub_mul, Int.one_mul, Int.mul_comm y r, Int.mul_comm (a * bk) r, ← Int.mul_assoc, Int.mul_right_comm r a bk]; omega
    rwa [e] at h5
/-- a year has the place on the day nm of a week of wk -/
def has (d t b s pl wk nm y : Int) : Prop := (fday d t b s y + pl) % wk = nm
instance (d t b s pl wk nm y : Int) : Decidable (has d t b s pl wk nm y) := inferInstanceAs (Decidable (_ = _))
theorem has_iff {d t b s pl wk nm : Int} (h : LandOk d t b s) (hw : 1 ≤ wk) (h0 : 0 ≤ nm) (h1 : nm < wk) (y : Int) :
    has d t b s pl wk nm y ↔ ∃ j, 0 ≤ j ∧ j < b ∧ wk * b ∣ (d * b + t) * y - (nm * b + j - s - pl * b) := by
  have hb := h.b
  unfold has fday
  generalize hX : (d * b + t) * y = X
  have e : (X + s) / b + pl = (X + s + b * pl) / b := by rw [Int.add_mul_ediv_left _ _ (by omega)]
  rw [e]
  generalize hA : X + s + b * pl = A
  have hc : b * pl = pl * b := Int.mul_comm ..
  constructor
  · intro hh
    refine ⟨A % b, Int.emod_nonneg _ (by omega), Int.emod_lt_of_pos _ (by omega), (A / b) / wk, ?_⟩
    have q1 := Int.emod_add_mul_ediv A b
    have q2 := Int.emod_add_mul_ediv (A / b) wk
    rw [hh] at q2
    have q3 : b * (A / b) = b * (nm + wk * (A / b / wk)) := by rw [q2]
    rw [Int.mul_add, Int.mul_comm b nm, ← Int.mul_assoc, Int.mul_comm b wk] at q3
    omega
  · rintro ⟨j, j0, j1, k, hk⟩
    have hA2 : A = j + b * (nm + wk * k) := by
      rw [Int.mul_add, Int.mul_comm b nm, ← Int.mul_assoc, Int.mul_comm b wk]; omega
    rw [hA2, Int.add_mul_ediv_left _ _ (by omega), Int.ediv_eq_zero_of_lt j0 j1, Int.zero_add, Int.add_mul_emod_self_left]
    exact Int.emod_eq_of_lt h0 h1
/-- what stands in a round of years -/
structure Yso (d t b s pl wk nm : Int) (ys : List Int) (T : Int) : Prop where
  tpos : 1 ≤ T
  teq : T = wk * b / gcdI (d * b + t) (wk * b)
  rng : ∀ y ∈ ys, 0 ≤ y ∧ y < T
  inc : ys.Pairwise (· < ·)
  good : ∀ y, has d t b s pl wk nm y ↔ y % T ∈ ys
  len : ys.length ≤ 60
/-- the years found, ahead of sorting, from the first i rests -/
def fnd (b s pl nm g bk T : Int) : Nat → List Int
  | 0 => []
  | i + 1 => if (nm * b + i - s - pl * b) % g = 0 then fnd b s pl nm g bk T i ++ [(nm * b + i - s - pl * b) / g * bk % T] else fnd b s pl nm g bk T i
theorem fnd_len (b s pl nm g bk T : Int) : ∀ i, (fnd b s pl nm g bk T i).length ≤ i
  | 0 => Nat.le_refl _
  | i + 1 => by
    have ih := fnd_len b s pl nm g bk T i
    unfold fnd
    split
    · rw [List.length_append]; show _ + 1 ≤ _; omega
    · omega
theorem mem_fnd {b s pl nm g bk T z : Int} : ∀ {i : Nat}, z ∈ fnd b s pl nm g bk T i ↔ ∃ j : Nat, j < i ∧ (nm * b + j - s - pl * b) % g = 0 ∧ z = (nm * b + j - s - pl * b) / g * bk % T
  | 0 => by simp [fnd]
  | i + 1 => by
    have ih := mem_fnd (b := b) (s := s) (pl := pl) (nm := nm) (g := g) (bk := bk) (T := T) (z := z) (i := i)
    unfold fnd
    split
    · rename_i hc
      rw [List.mem_append, ih, List.mem_singleton]
      constructor
      · rintro (⟨j, a, r⟩ | e)
        · exact ⟨j, by omega, r⟩
        · exact ⟨i, by omega, hc, e⟩
      · rintro ⟨j, a, r, e⟩
        by_cases hj : j = i
        · subst hj; exact .inr e
        · exact .inl ⟨j, by omega, r, e⟩
    · rename_i hc
      rw [ih]
      constructor
      · rintro ⟨j, a, r⟩
        exact ⟨j, by omega, r⟩
      · rintro ⟨j, a, r, e⟩
        by_cases hj : j = i
        · subst hj; exact absurd r hc
        · exact ⟨j, by omega, r, e⟩
theorem yso_of {d t b s pl wk nm g bk T : Int} (h : LandOk d t b s) (hw : 1 ≤ wk) (h0 : 0 ≤ nm) (h1 : nm < wk) (hg : g = gcdI (d * b + t) (wk * b)) (hT : T = wk * b / g) (hb : T ∣ (d * b + t) / g * bk - 1) {ys : List Int}
    (hp : ys.Perm (fnd b s pl nm g bk T b.toNat)) (hs : ys.Pairwise (· ≤ ·)) : Yso d t b s pl wk nm ys T := by
  have hbb := h.b
  have hst := step_pos h
  have wb : 1 * 1 ≤ wk * b := Int.mul_le_mul hw hbb.1 (by decide) (by omega)
  have g1 : 1 ≤ g := by rw [hg]; exact gcdI_pos (by omega)
  have gS : (d * b + t) = g * ((d * b + t) / g) := by
    have := gcdI_dvd_l (a := d * b + t) (b := wk * b) (by omega)
    rw [← hg] at this
    exact (Int.mul_ediv_cancel' this).symm
  have gW : wk * b = g * T := by
    have := gcdI_dvd_r (a := d * b + t) (b := wk * b) (by omega)
    rw [← hg] at this
    rw [hT]
    exact (Int.mul_ediv_cancel' this).symm
  have T1 : 1 ≤ T := by
    rcases Int.lt_or_le T 1 with z | z
    · have : g * T ≤ g * 0 := Int.mul_le_mul_of_nonneg_left (by omega) (by omega)
      omega
    · exact z
  have sol := fun (y : Int) (j : Int) => solve (S := d * b + t) (W := wk * b) (g := g) (T := T) (by omega) gS gW hb y (nm * b + j - s - pl * b)
  have mem : ∀ z, z ∈ ys ↔ z ∈ fnd b s pl nm g bk T b.toNat := fun z => hp.mem_iff
  have rng : ∀ z ∈ ys, 0 ≤ z ∧ z < T := fun z hz => by
    obtain ⟨j, _, _, rfl⟩ := mem_fnd.mp ((mem z).mp hz)
    exact ⟨Int.emod_nonneg _ (by omega), Int.emod_lt_of_pos _ (by omega)⟩
  have dv : ∀ {x : Int}, x % g = 0 ↔ g ∣ x := fun {x} => (Int.dvd_iff_emod_eq_zero ..).symm
  have nodup : ∀ i : Nat, i ≤ b.toNat → (fnd b s pl nm g bk T i).Nodup := fun i => by
    induction i with
    | zero => intro _; exact List.nodup_nil
    | succ i ih =>
      intro hi
      unfold fnd
      split
      · rename_i hc
        rw [List.nodup_append]
        refine ⟨ih (by omega), by simp, ?_⟩
        intro z hz w hw' e
        rw [List.mem_singleton] at hw'
        subst hw'
        obtain ⟨j, hj, r, e2⟩ := mem_fnd.mp hz
        have zz : z % T = z := by
          rw [e2, Int.emod_emod_of_dvd _ (Int.dvd_refl T)]
        have s1 := (sol z j).mpr ⟨dv.mp r, by rw [zz]; exact e2⟩
        have s2 := (sol z i).mpr ⟨dv.mp hc, by rw [zz]; exact e⟩
        have s3 := Int.dvd_sub s1 s2
        have e3 : (d * b + t) * z - (nm * b + (j : Int) - s - pl * b) - ((d * b + t) * z - (nm * b + (i : Int) - s - pl * b)) = (i : Int) - j := by omega
        rw [e3] at s3
        have hle := Int.le_of_dvd (by omega) s3
        have : 1 * b ≤ wk * b := Int.mul_le_mul_of_nonneg_right hw (by omega)
        omega
      · exact ih (by omega)
  refine ⟨T1, by rw [hT, hg], rng, ?_, fun y => ?_, ?_⟩
  · have nd : ys.Nodup := hp.nodup_iff.mpr (nodup _ (Nat.le_refl _))
    refine (List.Pairwise.and hs nd).imp ?_
    rintro x y ⟨a, c⟩
    omega
  · rw [has_iff h hw h0 h1, mem, mem_fnd]
    constructor
    · rintro ⟨j, j0, j1, hd⟩
      obtain ⟨k, rfl⟩ : ∃ k : Nat, j = k := ⟨j.toNat, by omega⟩
      obtain ⟨a, c⟩ := (sol y k).mp hd
      exact ⟨k, by omega, dv.mpr a, c⟩
    · rintro ⟨j, hj, r, e⟩
      exact ⟨j, by omega, by omega, (sol y j).mpr ⟨dv.mp r, e⟩⟩
  · rw [hp.length_eq]
    have := fnd_len b s pl nm g bk T b.toNat
    omega
end Ly
set_option Elab.async false
set_option linter.all false
set_option maxHeartbeats 4000000
/-! counting, next ones, gaps: plain mathematics -/
namespace Ly
/-- two rising lists with the same members are the same -/
theorem pw_ext : ∀ {xs ys : List Int}, xs.Pairwise (· < ·) → ys.Pairwise (· < ·) → (∀ z, z ∈ xs ↔ z ∈ ys) → xs = ys
  | [], [], _, _, _ => rfl
  | [], y :: ys, _, _, h => absurd ((h y).mpr (List.mem_cons_self ..)) (by simp)
  | x :: xs, [], _, _, h => absurd ((h x).mp (List.mem_cons_self ..)) (by simp)
  | x :: xs, y :: ys, hx, hy, h => by
    rw [List.pairwise_cons] at hx hy
    have e : x = y := by
      rcases List.mem_cons.mp ((h x).mp (List.mem_cons_self ..)) with e | e
      · exact e
      · rcases List.mem_cons.mp ((h y).mpr (List.mem_cons_self ..)) with e' | e'
        · exact e'.symm
        · have := hx.1 y e'
          have := hy.1 x e
          omega
    subst e
    rw [pw_ext hx.2 hy.2 fun z => ?_]
    constructor
    · intro hz
      rcases List.mem_cons.mp ((h z).mp (List.mem_cons_of_mem _ hz)) with e | e
      · have := hx.1 z hz; omega
      · exact e
    · intro hz
      rcases List.mem_cons.mp ((h z).mpr (List.mem_cons_of_mem _ hz)) with e | e
      · have := hy.1 z hz; omega
      · exact e
/-- the numbers from a on, n of them, of which p holds -/
def flt (p : Int → Bool) (a : Int) : Nat → List Int
  | 0 => []
  | n + 1 => if p (a + n) then flt p a n ++ [a + n] else flt p a n
theorem mem_flt {p : Int → Bool} {a z : Int} : ∀ {n : Nat}, z ∈ flt p a n ↔ a ≤ z ∧ z < a + n ∧ p z = true
  | 0 => by simp [flt]; omega
  | n + 1 => by
    have ih := mem_flt (p := p) (a := a) (z := z) (n := n)
    unfold flt
    split
    · rename_i h
      rw [List.mem_append, ih, List.mem_singleton]
      constructor
      · rintro (⟨x, y, q⟩ | rfl)
        · exact ⟨x, by omega, q⟩
        · exact ⟨by omega, by omega, h⟩
      · rintro ⟨x, y, q⟩
        by_cases e : z = a + n
        · exact .inr e
        · exact .inl ⟨x, by omega, q⟩
    · rename_i h
      rw [ih]
      constructor
      · rintro ⟨x, y, q⟩
        exact ⟨x, by omega, q⟩
      · rintro ⟨x, y, q⟩
        refine ⟨x, ?_, q⟩
        by_cases e : z = a + n
        · subst e; exact absurd q h
        · omega
theorem flt_inc {p : Int → Bool} {a : Int} : ∀ {n : Nat}, (flt p a n).Pairwise (· < ·)
  | 0 => List.Pairwise.nil
  | n + 1 => by
    unfold flt
    split
    · rw [List.pairwise_append]
      refine ⟨flt_inc, List.pairwise_singleton .., ?_⟩
      intro x hx y hy
      rw [List.mem_singleton] at hy
      have := mem_flt.mp hx
      omega
    · exact flt_inc
theorem flt_len {p : Int → Bool} {a : Int} : ∀ {n : Nat}, (flt p a n).length ≤ n
  | 0 => Nat.le_refl _
  | n + 1 => by
    have := flt_len (p := p) (a := a) (n := n)
    unfold flt
    split
    · rw [List.length_append]; show _ + 1 ≤ _; omega
    · omega
/-- how many of the n numbers from a on -/
def cnt (p : Int → Bool) (a : Int) : Nat → Int
  | 0 => 0
  | n + 1 => cnt p a n + if p (a + n) then 1 else 0
theorem cnt_flt {p : Int → Bool} {a : Int} : ∀ {n : Nat}, cnt p a n = ((flt p a n).length : Nat)
  | 0 => rfl
  | n + 1 => by
    have ih := cnt_flt (p := p) (a := a) (n := n)
    unfold cnt flt
    split
    · rw [ih, List.length_append]; show _ = ((_ + 1 : Nat) : Int); omega
    · rw [ih]; omega
theorem cnt_nonneg {p : Int → Bool} {a : Int} {n : Nat} : 0 ≤ cnt p a n := by rw [cnt_flt]; omega
theorem cnt_congr {p q : Int → Bool} {a : Int} : ∀ {n : Nat}, (∀ z, a ≤ z → z < a + n → p z = q z) → cnt p a n = cnt q a n
  | 0, _ => rfl
  | n + 1, h => by
    unfold cnt
    rw [cnt_congr (n := n) fun z h1 h2 => h z h1 (by omega), h (a + n) (by omega) (by omega)]
theorem cnt_add {p : Int → Bool} {a : Int} {n : Nat} : ∀ {m : Nat}, cnt p a (n + m) = cnt p a n + cnt p (a + n) m
  | 0 => by simp [cnt]
  | m + 1 => by
    show cnt p a (n + m) + _ = _ + (cnt p (a + n) m + _)
    rw [cnt_add (m := m), show a + ((n.add m : Nat) : Int) = a + n + m by show a + ((n + m : Nat) : Int) = _; omega]
    omega
theorem cnt_shift {p : Int → Bool} {a T : Int} (h : ∀ z, p (z + T) = p z) : ∀ {n : Nat}, cnt p (a + T) n = cnt p a n
  | 0 => rfl
  | n + 1 => by
    unfold cnt
    rw [cnt_shift h (n := n), show a + T + (n : Int) = a + n + T by omega, h]
theorem cnt_zero {p : Int → Bool} {a : Int} {n : Nat} (h : ∀ z, a ≤ z → z < a + n → p z = false) : cnt p a n = 0 := by
  rw [cnt_congr (q := fun _ => false) h]
  induction n with
  | zero => rfl
  | succ n ih =>
    show cnt _ _ _ + 0 = 0
    rw [ih fun z a b => h z a (by omega)]
    rfl
/-- o is the first number from n on of which p holds -/
def Fst (p : Int → Prop) (n m : Int) : Prop := n ≤ m ∧ p m ∧ ∀ z, n ≤ z → p z → m ≤ z
theorem Fst.uniq {p : Int → Prop} {n m k : Int} (a : Fst p n m) (b : Fst p n k) : m = k := by
  have := a.2.2 k b.1 b.2.1
  have := b.2.2 m a.1 a.2.1
  omega
/-- the least of what leaves one of the rests -/
theorem fst_rests {rs : List Int} {T n m : Int} (hT : 1 ≤ T) (hr : ∀ r ∈ rs, 0 ≤ r ∧ r < T) (hm : m ∈ rs.map fun r => n + (r - n) % T) (hl : ∀ y, y ∈ rs.map (fun r => n + (r - n) % T) → m ≤ y) : Fst (fun z => z % T ∈ rs) n m := by
  have key : ∀ r ∈ rs, (n + (r - n) % T) % T = r := fun r h => by
    have h1 := hr r h
    rw [Int.add_emod_emod, show n + (r - n) = r by omega]
    exact Int.emod_eq_of_lt h1.1 h1.2
  obtain ⟨r, hr1, rfl⟩ := List.mem_map.mp hm
  have p0 := Int.emod_nonneg (r - n) (show T ≠ 0 by omega)
  refine ⟨by omega, ?_, ?_⟩
  · show _ % T ∈ rs
    rw [key r hr1]; exact hr1
  · intro z hz hp
    have h2 := hl _ (List.mem_map.mpr ⟨z % T, hp, rfl⟩)
    have : n + (z % T - n) % T ≤ z := by
      have e : (z % T - n) % T = (z - n) % T := by rw [Int.emod_sub_emod]
      rw [e]
      have h3 := Int.emod_add_mul_ediv (z - n) T
      have h4 : 0 ≤ (z - n) / T := Int.ediv_nonneg (by omega) (by omega)
      have h5 : 0 ≤ T * ((z - n) / T) := Int.mul_nonneg (by omega) h4
      omega
    omega
/-- the sum by which numbers that leave rests are counted -/
def csum (rs : List Int) (T a z : Int) : Int := (rs.map fun r => (z - 1 - r) / T - (a - 1 - r) / T).sum
theorem div_step {T x : Int} (hT : 1 ≤ T) : x / T - (x - 1) / T = if x % T = 0 then 1 else 0 := by
  have h1 := Int.emod_add_mul_ediv x T
  have h2 := Int.emod_nonneg x (show T ≠ 0 by omega)
  have h3 := Int.emod_lt_of_pos x (show 0 < T by omega)
  split
  · rename_i e
    have : (x - 1) / T = x / T - 1 := by
      refine (Int.ediv_emod_unique (r := T - 1) (q := x / T - 1) (by omega) |>.mpr ⟨?_, by omega, by omega⟩).1
      rw [Int.mul_sub, Int.mul_one]; omega
    omega
  · rename_i e
    have : (x - 1) / T = x / T := by
      exact (Int.ediv_emod_unique (r := x % T - 1) (q := x / T) (by omega) |>.mpr ⟨by omega, by omega, by omega⟩).1
    omega
theorem sum_ind : ∀ {rs : List Int} {x : Int}, rs.Nodup → (rs.map fun r => if x = r then (1 : Int) else 0).sum = if x ∈ rs then 1 else 0
  | [], x, _ => by simp
  | r :: rs, x, h => by
    rw [List.nodup_cons] at h
    rw [List.map_cons, List.sum_cons, sum_ind h.2]
    by_cases e : x = r
    · subst e
      simp [h.1]
    · simp [e]
theorem csum_cnt {rs : List Int} {T a : Int} (hT : 1 ≤ T) (hr : ∀ r ∈ rs, 0 ≤ r ∧ r < T) (nd : rs.Nodup) : ∀ {n : Nat}, csum rs T a (a + n) = cnt (fun z => decide (z % T ∈ rs)) a n
  | 0 => by
    unfold csum cnt
    rw [show a + ((0 : Nat) : Int) = a by omega]
    induction rs with
    | nil => rfl
    | cons r rs ih =>
      rw [List.map_cons, List.sum_cons, ih (fun x h => hr x (List.mem_cons_of_mem _ h)) (List.nodup_cons.mp nd).2]
      omega
  | n + 1 => by
    have ih := csum_cnt (a := a) hT hr nd (n := n)
    unfold cnt
    rw [← ih]
    unfold csum
    have e : ∀ (ls : List Int) (f g h : Int → Int), (∀ r ∈ ls, f r = g r + h r) → (ls.map f).sum = (ls.map g).sum + (ls.map h).sum := fun ls f g h => by
      induction ls with
      | nil => intro _; rfl
      | cons x ls ih =>
        intro q
        rw [List.map_cons, List.map_cons, List.map_cons, List.sum_cons, List.sum_cons, List.sum_cons, ih fun r m => q r (List.mem_cons_of_mem _ m), q x (List.mem_cons_self ..)]
        omega
    rw [e rs _ (fun r => (a + n - 1 - r) / T - (a - 1 - r) / T) (fun r => if (a + n) % T = r then (1 : Int) else 0) ?_, sum_ind nd]
    · by_cases q : (a + n) % T ∈ rs <;> simp [q]
    · intro r h
      have h1 := hr r h
      have h2 := div_step (x := a + n - r) hT
      rw [show a + ((n + 1 : Nat) : Int) - 1 - r = a + n - r by omega, show a + (n : Int) - 1 - r = a + n - r - 1 by omega]
      have h3 : ((a + n - r) % T = 0) ↔ (a + n) % T = r := by
        rw [← Int.emod_eq_emod_iff_emod_sub_eq_zero, Int.emod_eq_of_lt h1.1 h1.2]
      by_cases q : (a + n) % T = r
      · rw [if_pos q]; rw [if_pos (h3.mpr q)] at h2; omega
      · rw [if_neg q]; rw [if_neg (fun z => q (h3.mp z))] at h2; omega
/-- p comes again behind T -/
def Per (p : Int → Prop) (T : Int) : Prop := ∀ z k, p (z + T * k) ↔ p z
theorem per_mod {T : Int} {rs : List Int} : Per (fun z => z % T ∈ rs) T := fun z k => by
  show (z + T * k) % T ∈ rs ↔ _
  rw [Int.add_mul_emod_self_left]
/-- g lies between one and the next -/
def Gap (p : Int → Prop) (g : Int) : Prop := ∃ y, p y ∧ Fst p (y + 1) (y + g)
theorem Gap.congr {p q : Int → Prop} (h : ∀ z, p z ↔ q z) {g : Int} : Gap p g ↔ Gap q g := by
  have e : p = q := funext fun z => propext (h z)
  rw [e]
def difs (xs : List Int) : List Int := List.zipWith (fun a b => b - a) xs xs.tail
theorem difs_get {xs : List Int} {i : Nat} {x y : Int} (h1 : xs[i]? = some x) (h2 : xs[i + 1]? = some y) : (difs xs)[i]? = some (y - x) := by
  unfold difs
  rw [List.getElem?_zipWith, h1, List.getElem?_tail, h2]
theorem difs_len (xs : List Int) : (difs xs).length = xs.length - 1 := by
  unfold difs
  rw [List.length_zipWith, List.length_tail]; omega
theorem mem_difs {xs : List Int} {g : Int} : g ∈ difs xs ↔ ∃ (i : Nat) (x y : Int), xs[i]? = some x ∧ xs[i + 1]? = some y ∧ g = y - x := by
  constructor
  · intro h
    obtain ⟨i, hi⟩ := List.getElem?_of_mem h
    have hl : i < (difs xs).length := (List.getElem?_eq_some_iff.mp hi).1
    rw [difs_len] at hl
    have h1 : xs[i]? = some xs[i] := List.getElem?_eq_getElem (by omega)
    have h2 : xs[i + 1]? = some xs[i + 1] := List.getElem?_eq_getElem (by omega)
    have h3 := difs_get h1 h2
    rw [hi] at h3
    exact ⟨i, _, _, h1, h2, Option.some.inj h3⟩
  · rintro ⟨i, x, y, h1, h2, rfl⟩
    exact List.mem_of_getElem? (difs_get h1 h2)
theorem pw_lt {xs : List Int} (h : xs.Pairwise (· < ·)) {i j : Nat} {x y : Int} (hi : xs[i]? = some x) (hj : xs[j]? = some y) (hij : i < j) : x < y := by
  obtain ⟨a, rfl⟩ := List.getElem?_eq_some_iff.mp hi
  obtain ⟨b, rfl⟩ := List.getElem?_eq_some_iff.mp hj
  exact List.pairwise_iff_getElem.mp h i j a b hij
/-- a whole round of numbers -/
structure Rnd (p : Int → Prop) (a T : Int) (zs : List Int) : Prop where
  per : Per p T
  pos : 1 ≤ T
  inc : zs.Pairwise (· < ·)
  mem : ∀ z, z ∈ zs ↔ a ≤ z ∧ z < a + T ∧ p z
/-- a round and the first one of the next -/
def rnd (T : Int) (zs : List Int) : List Int := zs ++ (zs.take 1).map (· + T)
theorem Per.add {p : Int → Prop} {T : Int} (h : Per p T) (z : Int) : p (z + T) ↔ p z := by
  have := h z 1
  rwa [Int.mul_one] at this
theorem Rnd.ne {p : Int → Prop} {a T : Int} {zs : List Int} (R : Rnd p a T zs) : zs = [] ↔ ∀ z, ¬ p z := by
  constructor
  · intro e z hz
    have h0 := Int.emod_nonneg (z - a) (show T ≠ 0 by have := R.pos; omega)
    have h1 := Int.emod_lt_of_pos (z - a) (show 0 < T by have := R.pos; omega)
    have h2 := Int.emod_add_mul_ediv (z - a) T
    have := (R.mem (a + (z - a) % T)).mpr ⟨by omega, by omega, by rw [← R.per _ ((z - a) / T), show a + (z - a) % T + T * ((z - a) / T) = z by omega]; exact hz⟩
    rw [e] at this; exact absurd this (by simp)
  · intro h
    cases zs with
    | nil => rfl
    | cons x xs => exact absurd ((R.mem x).mp (List.mem_cons_self ..)).2.2 (h x)
theorem Rnd.inc2 {p : Int → Prop} {a T : Int} {zs : List Int} (R : Rnd p a T zs) : (rnd T zs).Pairwise (· < ·) := by
  unfold rnd
  rw [List.pairwise_append]
  refine ⟨R.inc, ?_, ?_⟩
  · cases zs with
    | nil => exact List.Pairwise.nil
    | cons x xs => exact List.pairwise_singleton ..
  · intro x hx y hy
    obtain ⟨z, hz, rfl⟩ := List.mem_map.mp hy
    have h1 := (R.mem x).mp hx
    have h2 := (R.mem z).mp (List.mem_of_mem_take hz)
    omega
theorem Rnd.next {p : Int → Prop} {a T : Int} {zs : List Int} (R : Rnd p a T zs) {i : Nat} {x y : Int} (h1 : (rnd T zs)[i]? = some x) (h2 : (rnd T zs)[i + 1]? = some y) : p x ∧ Fst p (x + 1) y := by
  have pw := R.inc2
  cases zs with
  | nil => simp [rnd] at h1
  | cons z0 zs =>
  have hp : ∀ z ∈ rnd T (z0 :: zs), p z := fun z hz => by
    rcases List.mem_append.mp hz with h | h
    · exact ((R.mem z).mp h).2.2
    · obtain ⟨w, hw, rfl⟩ := List.mem_map.mp h
      rw [R.per.add]
      exact ((R.mem w).mp (List.mem_of_mem_take hw)).2.2
  have h0 := (R.mem z0).mp (List.mem_cons_self ..)
  have hfirst : ∀ z ∈ z0 :: zs, z0 ≤ z := fun z hz => by
    rcases List.mem_cons.mp hz with e | e
    · omega
    · have := (List.pairwise_cons.mp R.inc).1 z e; omega
  have comp : ∀ z, p z → z0 ≤ z → z ≤ z0 + T → z ∈ rnd T (z0 :: zs) := fun z hz a1 a2 => by
    by_cases c : z < a + T
    · exact List.mem_append_left _ ((R.mem z).mpr ⟨by omega, c, hz⟩)
    · have : z - T ∈ z0 :: zs := (R.mem (z - T)).mpr ⟨by omega, by omega, by rw [← R.per.add, Int.sub_add_cancel]; exact hz⟩
      have := hfirst _ this
      have e : z = z0 + T := by omega
      subst e
      exact List.mem_append_right _ (by simp)
  have mx := List.mem_of_getElem? h1
  have my := List.mem_of_getElem? h2
  have rng : ∀ z ∈ rnd T (z0 :: zs), z0 ≤ z ∧ z ≤ z0 + T := fun z hz => by
    have Tp := R.pos
    rcases List.mem_append.mp hz with h | h
    · have := (R.mem z).mp h
      have := hfirst z h
      have h5 : z ≤ z0 + T := by
        have : z < a + T := ((R.mem z).mp h).2.1
        omega
      exact ⟨by omega, h5⟩
    · simp at h; omega
  refine ⟨hp x mx, by have := pw_lt pw h1 h2 (Nat.lt_succ_self i); omega, hp y my, fun z hz pz => ?_⟩
  by_cases c : y ≤ z
  · exact c
  · have hm := comp z pz (by have := rng x mx; omega) (by have := rng y my; omega)
    obtain ⟨j, hj⟩ := List.getElem?_of_mem hm
    rcases Nat.lt_trichotomy j i with q | q | q
    · have := pw_lt pw hj h1 q; omega
    · subst q; rw [h1] at hj; cases hj; omega
    · by_cases e : j = i + 1
      · subst e; rw [h2] at hj; cases hj; omega
      · have := pw_lt pw h2 hj (by omega); omega
theorem Rnd.gap {p : Int → Prop} {a T : Int} {zs : List Int} (R : Rnd p a T zs) (g : Int) : g ∈ difs (rnd T zs) ↔ Gap p g := by
  rw [mem_difs]
  constructor
  · rintro ⟨i, x, y, h1, h2, rfl⟩
    obtain ⟨a1, a2⟩ := R.next h1 h2
    exact ⟨x, a1, by rw [show x + (y - x) = y by omega]; exact a2⟩
  · rintro ⟨y, hy, hF⟩
    have h0 := Int.emod_nonneg (y - a) (show T ≠ 0 by have := R.pos; omega)
    have h1 := Int.emod_lt_of_pos (y - a) (show 0 < T by have := R.pos; omega)
    have h2 := Int.emod_add_mul_ediv (y - a) T
    generalize hk : (y - a) / T = k at h2
    generalize hr : (y - a) % T = r at h0 h1 h2
    have sh : ∀ z, p (z + T * k) ↔ p z := fun z => R.per z k
    have m : a + r ∈ zs := (R.mem _).mpr ⟨by omega, by omega, by rw [← sh, show a + r + T * k = y by omega]; exact hy⟩
    obtain ⟨i, hi⟩ := List.getElem?_of_mem m
    have hil := (List.getElem?_eq_some_iff.mp hi).1
    have r1 : (rnd T zs)[i]? = some (a + r) := by
      unfold rnd
      rw [List.getElem?_append_left hil]; exact hi
    have hl : i + 1 < (rnd T zs).length := by
      unfold rnd
      cases zs with
      | nil => simp at hil
      | cons x xs => simp at hil ⊢; omega
    have r2 : (rnd T zs)[i + 1]? = some (rnd T zs)[i + 1] := List.getElem?_eq_getElem hl
    have nx := (R.next r1 r2).2
    have F2 : Fst p (a + r + 1) (a + r + g) := by
      refine ⟨by have := hF.1; omega, ?_, fun z hz pz => ?_⟩
      · rw [← sh, show a + r + g + T * k = y + g by omega]; exact hF.2.1
      · have := hF.2.2 (z + T * k) (by omega) ((sh z).mpr pz)
        omega
    have e := nx.uniq F2
    exact ⟨i, _, _, r1, r2, by omega⟩
theorem Rnd.flt {p : Int → Bool} {a T : Int} (h : Per (fun z => p z = true) T) (hT : 1 ≤ T) : Rnd (fun z => p z = true) a T (flt p a T.toNat) :=
  ⟨h, hT, flt_inc, fun z => by rw [mem_flt]; constructor <;> rintro ⟨x, y, q⟩ <;> exact ⟨x, by omega, q⟩⟩
/-! ### at most three lengths -/
theorem least_of {P : Nat → Prop} (h : ∃ n, P n) : ∃ n, P n ∧ ∀ m, P m → n ≤ m := by
  obtain ⟨n, hn⟩ := h
  induction n using Nat.strongRecOn with
  | _ n ih =>
    by_cases c : ∃ m, m < n ∧ P m
    · obtain ⟨m, a, b⟩ := c
      exact ih m a b
    · exact ⟨n, hn, fun m hm => by
        rcases Nat.lt_or_ge m n with q | q
        · exact absurd ⟨m, q, hm⟩ c
        · exact q⟩
theorem small_mul {W k b : Int} (h1 : -W < W * k) (h2 : W * k < W) (hW : 0 < W) : k = 0 := by
  rcases Int.lt_trichotomy k 0 with q | q | q
  · have : W * k ≤ W * (-1) := Int.mul_le_mul_of_nonneg_left (by omega) (by omega)
    omega
  · exact q
  · have : W * 1 ≤ W * k := Int.mul_le_mul_of_nonneg_left (by omega) (by omega)
    omega
theorem three {S W b c : Int} (hb : 1 ≤ b) (hW : b ≤ W) : ∃ α β : Int, 1 ≤ α ∧ 1 ≤ β ∧ ∀ g, Gap (fun y => (S * y + c) % W < b) g → g = α ∨ g = β ∨ g = α + β := by
  obtain ⟨α, ⟨a1, δ, kα, d0, d1, hα⟩, amin⟩ := least_of (P := fun n => 1 ≤ n ∧ ∃ d k : Int, 0 ≤ d ∧ d < b ∧ S * (n : Int) = d + W * k) ⟨W.toNat, by omega, 0, S, by omega, by omega, by rw [Int.toNat_of_nonneg (by omega), Int.zero_add, Int.mul_comm]⟩
  obtain ⟨β, ⟨b1, ε, kβ, e0, e1, hβ⟩, bmin⟩ := least_of (P := fun n => 1 ≤ n ∧ ∃ d k : Int, 0 ≤ d ∧ d < b ∧ S * (n : Int) = -d + W * k) ⟨W.toNat, by omega, 0, S, by omega, by omega, by rw [Int.toNat_of_nonneg (by omega), Int.mul_comm]; omega⟩
  refine ⟨α, β, by omega, by omega, ?_⟩
  rintro g ⟨y, hy, hF⟩
  have pos : ∀ z, (∃ x k, 0 ≤ x ∧ x < b ∧ S * z + c = x + W * k) → (S * z + c) % W < b := by
    rintro z ⟨x, k, x0, x1, e⟩
    rw [e, Int.add_mul_emod_self_left, Int.emod_eq_of_lt x0 (by omega)]; exact x1
  have neg : ∀ z, (S * z + c) % W < b → ∃ x k, 0 ≤ x ∧ x < b ∧ S * z + c = x + W * k := fun z h =>
    ⟨(S * z + c) % W, (S * z + c) / W, Int.emod_nonneg _ (by omega), h, (Int.emod_add_mul_ediv _ _).symm⟩
  obtain ⟨x, k, x0, x1, ex⟩ := neg y hy
  obtain ⟨x', k', x0', x1', ex'⟩ := neg (y + g) hF.2.1
  have g1 : 1 ≤ g := by have := hF.1; omega
  rw [Int.mul_add] at ex'
  have lim : ∀ n : Int, 1 ≤ n → (∃ x k, 0 ≤ x ∧ x < b ∧ S * (y + n) + c = x + W * k) → g ≤ n := fun n hn h => by
    have := hF.2.2 (y + n) (by omega) (pos _ h)
    omega
  obtain ⟨G, rfl⟩ : ∃ G : Nat, g = G := ⟨g.toNat, by omega⟩
  have A : x + δ < b → (G : Int) ≤ α := fun h => lim α (by omega) ⟨x + δ, k + kα, by omega, h, by rw [Int.mul_add, Int.mul_add]; omega⟩
  have B : ε ≤ x → (G : Int) ≤ β := fun h => lim β (by omega) ⟨x - ε, k + kβ, by omega, by omega, by rw [Int.mul_add, Int.mul_add]; omega⟩
  have C : b ≤ x + δ → x < ε → (G : Int) ≤ α + β := fun h1 h2 => lim (α + β) (by omega) ⟨x + δ - ε, k + (kα + kβ), by omega, by omega, by rw [Int.mul_add, Int.mul_add, Int.mul_add, Int.mul_add]; omega⟩
  have sub : ∀ m : Nat, m < G → S * ((G - m : Nat) : Int) = S * (G : Int) - S * (m : Int) := fun m h => by
    rw [← Int.mul_sub]; congr 1; omega
  by_cases c1 : x ≤ x'
  · have h1 := amin G ⟨by omega, x' - x, k' - k, by omega, by omega, by rw [Int.mul_sub]; omega⟩
    by_cases c2 : x + δ < b
    · have := A c2; left; omega
    · by_cases c3 : α = G
      · exfalso
        subst c3
        have e : W * (kα - (k' - k)) = (x' - x) - δ := by rw [Int.mul_sub, Int.mul_sub]; omega
        have := small_mul (W := W) (k := kα - (k' - k)) (b := b) (by omega) (by omega) (by omega)
        rw [this] at e
        omega
      · have h2 := bmin (G - α) ⟨by omega, δ - (x' - x), k' - k - kα, by omega, by omega, by rw [sub α (by omega), Int.mul_sub, Int.mul_sub]; omega⟩
        by_cases c4 : ε ≤ x
        · have := B c4; omega
        · have := C (by omega) (by omega); right; right; omega
  · have h1 := bmin G ⟨by omega, x - x', k' - k, by omega, by omega, by rw [Int.mul_sub]; omega⟩
    by_cases c2 : ε ≤ x
    · have := B c2; right; left; omega
    · by_cases c3 : β = G
      · exfalso
        subst c3
        have e : W * (kβ - (k' - k)) = ε - (x - x') := by rw [Int.mul_sub, Int.mul_sub]; omega
        have := small_mul (W := W) (k := kβ - (k' - k)) (b := b) (by omega) (by omega) (by omega)
        rw [this] at e
        omega
      · have h2 := amin (G - β) ⟨by omega, ε - (x - x'), k' - k - kβ, by omega, by omega, by rw [sub β (by omega), Int.mul_sub, Int.mul_sub]; omega⟩
        by_cases c4 : x + δ < b
        · have := A c4; omega
        · have := C (by omega) (by omega); right; right; omega
/-- a rising list out of three numbers -/
theorem three_list {α β : Int} (ha : 1 ≤ α) (hb : 1 ≤ β) {L : List Int} (hL : L.Pairwise (· < ·)) (hm : ∀ g ∈ L, g = α ∨ g = β ∨ g = α + β) : L.length ≤ 3 ∧ ∀ x y z, L = [x, y, z] → z = x + y := by
  match L, hL, hm with
  | [], _, _ => exact ⟨by simp, by simp⟩
  | [_], _, _ => exact ⟨by simp, by simp⟩
  | [_, _], _, _ => exact ⟨by simp, by simp⟩
  | [x, y, z], h, m =>
    refine ⟨by simp, ?_⟩
    rintro x' y' z' e
    cases e
    simp at h m
    omega
  | x :: y :: z :: w :: r, h, m =>
    exfalso
    simp at h m
    omega
end Ly
set_option Elab.async false
set_option linter.all false
set_option maxHeartbeats 4000000
/-! lands alike, and the first year that parts them -/
namespace Ly
theorem bezout : ∀ (a b : Nat), ∃ x y : Int, (a : Int) * x + (b : Int) * y = (Nat.gcd a b : Nat) := by
  intro a b
  induction a, b using Nat.gcd.induction with
  | H0 n => exact ⟨0, 1, by simp⟩
  | H1 m n hm ih =>
    obtain ⟨x, y, h⟩ := ih
    refine ⟨y - (n / m : Nat) * x, x, ?_⟩
    rw [Nat.gcd_rec m n, ← h]
    have e : (n : Int) = (n % m : Nat) + (m : Int) * (n / m : Nat) := by
      have := Nat.mod_add_div n m
      exact_mod_cast this.symm
    have e2 : (n : Int) * x = (n % m : Nat) * x + (m : Int) * ((n / m : Nat) * x) := by
      rw [← Int.mul_assoc, ← Int.add_mul, ← e]
    rw [Int.mul_sub, e2]
    omega
theorem inv_of {a b : Int} (ha : 0 ≤ a) (hb : 0 ≤ b) (h : gcdI a b = 1) : ∃ x y : Int, a * x + b * y = 1 := by
  obtain ⟨x, y, e⟩ := bezout a.toNat b.toNat
  rw [Int.toNat_of_nonneg ha, Int.toNat_of_nonneg hb] at e
  exact ⟨x, y, by rw [e]; exact h⟩
/-- the least form of a land: its numbers -/
def lfT (t b : Int) : Int := t / gcdI b t
def lfB (t b : Int) : Int := b / gcdI b t
def lfS (t b s : Int) : Int := s / gcdI b t
structure Lf (d t b s t' b' s' : Int) : Prop where
  g : ∃ g, 1 ≤ g ∧ b = g * b' ∧ t = g * t' ∧ s' = s / g
  t0 : 0 ≤ t' ∧ t' < b'
  b0 : 1 ≤ b' ∧ b' ≤ 60
  one : ∃ x y, b' * x + t' * y = 1
theorem lf_of {d t b s : Int} (h : LandOk d t b s) : Lf d t b s (lfT t b) (lfB t b) (lfS t b s) := by
  have hb := h.b
  have ht := h.t
  have g1 : 1 ≤ gcdI b t := gcdI_pos (by omega)
  have db := gcdI_dvd_l (a := b) (b := t) (by omega)
  have dt := gcdI_dvd_r (a := b) (b := t) (by omega)
  have eb : b = gcdI b t * (b / gcdI b t) := (Int.mul_ediv_cancel' db).symm
  have et : t = gcdI b t * (t / gcdI b t) := (Int.mul_ediv_cancel' dt).symm
  have gd := gcdI_div (a := b) (b := t) (by omega) (by omega)
  unfold lfT lfB lfS
  generalize hg : gcdI b t = g at *
  have t0 : 0 ≤ t / g := Int.ediv_nonneg ht.1 (by omega)
  have b0 : 0 ≤ b / g := Int.ediv_nonneg (by omega) (by omega)
  have lt : t / g < b / g := by
    rcases Int.lt_or_le (t / g) (b / g) with q | q
    · exact q
    · have : g * (b / g) ≤ g * (t / g) := Int.mul_le_mul_of_nonneg_left q (by omega)
      omega
  have le : b / g ≤ 60 := by
    have : 1 * (b / g) ≤ g * (b / g) := Int.mul_le_mul_of_nonneg_right g1 b0
    omega
  exact ⟨⟨g, g1, eb, et, rfl⟩, ⟨t0, lt⟩, ⟨by omega, le⟩, inv_of b0 t0 gd⟩
/-- a year's first day by the least form -/
theorem Lf.day {d t b s t' b' s' : Int} (L : Lf d t b s t' b' s') (y : Int) : fday d t b s y = ((d * b' + t') * y + s') / b' := by
  obtain ⟨g, g1, eb, et, es⟩ := L.g
  unfold fday
  subst eb et es
  rw [← Int.ediv_ediv_of_nonneg (by omega)]
  congr 1
  rw [show (d * (g * b') + g * t') * y + s = s + g * ((d * b' + t') * y) by
    rw [← Int.mul_assoc d, Int.mul_comm d g, Int.mul_assoc g d, ← Int.mul_add, Int.mul_assoc]; omega]
  rw [Int.add_mul_ediv_left _ _ (by omega)]
  omega
theorem Lf.step_inv {d t b s t' b' s' : Int} (L : Lf d t b s t' b' s') : ∃ x y, b' * x + (d * b' + t') * y = 1 := by
  obtain ⟨x, y, e⟩ := L.one
  refine ⟨x - d * y, y, ?_⟩
  rw [Int.mul_sub, Int.add_mul, show b' * (d * y) = d * b' * y by rw [← Int.mul_assoc, Int.mul_comm b' d]]
  omega
theorem cross {S1 b1 S2 b2 : Int} (h1 : 1 ≤ b1) (h2 : 1 ≤ b2) (i1 : ∃ x y, b1 * x + S1 * y = 1) (i2 : ∃ x y, b2 * x + S2 * y = 1) (e : S1 * b2 = S2 * b1) : b1 = b2 ∧ S1 = S2 := by
  have d1 : b1 ∣ b2 := by
    obtain ⟨x, y, q⟩ := i1
    refine ⟨b2 * x + S2 * y, ?_⟩
    have : b2 * (b1 * x + S1 * y) = b2 := by rw [q, Int.mul_one]
    refine this.symm.trans ?_
    rw [Int.mul_add, Int.mul_add, ← Int.mul_assoc, ← Int.mul_assoc, ← Int.mul_assoc, ← Int.mul_assoc, Int.mul_comm b2 S1, e, Int.mul_comm b2 b1, Int.mul_comm S2 b1]
  have d2 : b2 ∣ b1 := by
    obtain ⟨x, y, q⟩ := i2
    refine ⟨b1 * x + S1 * y, ?_⟩
    have : b1 * (b2 * x + S2 * y) = b1 := by rw [q, Int.mul_one]
    refine this.symm.trans ?_
    rw [Int.mul_add, Int.mul_add, ← Int.mul_assoc, ← Int.mul_assoc, ← Int.mul_assoc, ← Int.mul_assoc, Int.mul_comm b1 S2, ← e, Int.mul_comm b1 b2, Int.mul_comm S1 b2]
  have l1 := Int.le_of_dvd (by omega) d1
  have l2 := Int.le_of_dvd (by omega) d2
  have eb : b1 = b2 := by omega
  subst eb
  exact ⟨rfl, Int.eq_of_mul_eq_mul_right (by omega) e⟩
/-- slopes that differ part by year 7200 -/
theorem part_slope {S1 b1 s1 S2 b2 s2 : Int} (h1 : 1 ≤ b1 ∧ b1 ≤ 60) (h2 : 1 ≤ b2 ∧ b2 ≤ 60) (lt : S2 * b1 < S1 * b2) (e0 : s1 / b1 = s2 / b2) (eY : (S1 * 7200 + s1) / b1 = (S2 * 7200 + s2) / b2) : False := by
  have bb : b1 * b2 ≤ 60 * 60 := Int.mul_le_mul h1.2 h2.2 (by omega) (by omega)
  generalize hm : s1 / b1 = m at e0
  generalize hn : (S1 * 7200 + s1) / b1 = n at eY
  have a1 := Int.emod_add_mul_ediv s1 b1
  have a2 := Int.emod_add_mul_ediv s2 b2
  have a3 := Int.emod_add_mul_ediv (S1 * 7200 + s1) b1
  have a4 := Int.emod_add_mul_ediv (S2 * 7200 + s2) b2
  have r1 := Int.emod_nonneg s1 (show b1 ≠ 0 by omega)
  have r2 := Int.emod_lt_of_pos s2 (show 0 < b2 by omega)
  have r3 := Int.emod_lt_of_pos (S1 * 7200 + s1) (show 0 < b1 by omega)
  have r4 := Int.emod_nonneg (S2 * 7200 + s2) (show b2 ≠ 0 by omega)
  rw [hm] at a1
  rw [← e0] at a2
  rw [hn] at a3
  rw [← eY] at a4
  -- b2 * s1 ≥ b1 b2 m ; b1 * s2 ≤ b1 b2 m + b1 b2 - b1
  have p1 : b2 * (b1 * m) ≤ b2 * s1 := Int.mul_le_mul_of_nonneg_left (by omega) (by omega)
  have p2 : b1 * s2 ≤ b1 * (b2 * m + b2) := Int.mul_le_mul_of_nonneg_left (by omega) (by omega)
  have p3 : b2 * (S1 * 7200 + s1) ≤ b2 * (b1 * n + b1 - 1) := Int.mul_le_mul_of_nonneg_left (by omega) (by omega)
  have p4 : b1 * (b2 * n) ≤ b1 * (S2 * 7200 + s2) := Int.mul_le_mul_of_nonneg_left (by omega) (by omega)
  have q1 : b2 * (b1 * m) = b1 * (b2 * m) := by rw [← Int.mul_assoc, ← Int.mul_assoc, Int.mul_comm b2 b1]
  have q2 : b2 * (b1 * n) = b1 * (b2 * n) := by rw [← Int.mul_assoc, ← Int.mul_assoc, Int.mul_comm b2 b1]
  have q3 : b2 * b1 = b1 * b2 := Int.mul_comm ..
  have q4 : b2 * (S1 * 7200) = (S1 * b2) * 7200 := by rw [← Int.mul_assoc, Int.mul_comm b2 S1]
  have q5 : b1 * (S2 * 7200) = (S2 * b1) * 7200 := by rw [← Int.mul_assoc, Int.mul_comm b1 S2]
  rw [Int.mul_add] at p2 p4
  rw [Int.mul_add, Int.mul_sub, Int.mul_add, Int.mul_one] at p3
  omega
/-- shifts that differ part by year 59 -/
theorem part_shift {S b s1 s2 : Int} (hb : 1 ≤ b ∧ b ≤ 60) (i : ∃ x y, b * x + S * y = 1) (lt : s1 < s2) : ∃ y, 0 ≤ y ∧ y < b ∧ (S * y + s1) / b ≠ (S * y + s2) / b := by
  obtain ⟨x, u, e⟩ := i
  refine ⟨(-s2 * u) % b, Int.emod_nonneg _ (by omega), Int.emod_lt_of_pos _ (by omega), ?_⟩
  have d : b ∣ S * ((-s2 * u) % b) + s2 := by
    have h := Int.emod_add_mul_ediv (-s2 * u) b
    have h2 : (-s2 * u) % b = -s2 * u - b * ((-s2 * u) / b) := by omega
    rw [h2]
    refine ⟨s2 * x - S * ((-s2 * u) / b), ?_⟩
    have h3 : s2 * (b * x + S * u) = s2 := by rw [e, Int.mul_one]
    rw [Int.mul_sub, Int.mul_sub]
    have h4 : S * (-s2 * u) = -(s2 * (S * u)) := by
      rw [← Int.mul_assoc, Int.mul_neg, Int.neg_mul, ← Int.mul_assoc s2, Int.mul_comm S s2]
    have h5 : S * (b * (-s2 * u / b)) = b * (S * (-s2 * u / b)) := by rw [← Int.mul_assoc, ← Int.mul_assoc, Int.mul_comm S b]
    have h6 : b * (s2 * x) = s2 * (b * x) := by rw [← Int.mul_assoc, ← Int.mul_assoc, Int.mul_comm b s2]
    rw [Int.mul_add] at h3
    omega
  generalize S * ((-s2 * u) % b) = A at d ⊢
  obtain ⟨k, hk⟩ := d
  have e2 : (A + s2) / b = k := by rw [hk, Int.mul_ediv_cancel_left _ (by omega)]
  have e1 : (A + s1) / b < k := by
    rw [Int.ediv_lt_iff_lt_mul (by omega), Int.mul_comm k b]
    omega
  omega
theorem parted {d t b s d2 t2 b2 s2 : Int} (h : LandOk d t b s) (h2 : LandOk d2 t2 b2 s2) (ne : ¬ (d = d2 ∧ lfT t b = lfT t2 b2 ∧ lfB t b = lfB t2 b2 ∧ lfS t b s = lfS t2 b2 s2)) :
    ∃ y, 0 ≤ y ∧ y ≤ 7200 ∧ fday d t b s y ≠ fday d2 t2 b2 s2 y := by
  have L := lf_of h
  have L2 := lf_of h2
  have i1 := L.step_inv
  have i2 := L2.step_inv
  generalize lfT t b = T1 at *
  generalize lfB t b = B1 at *
  generalize lfS t b s = S1 at *
  generalize lfT t2 b2 = T2 at *
  generalize lfB t2 b2 = B2 at *
  generalize lfS t2 b2 s2 = S2 at *
  by_cases c0 : fday d t b s 0 = fday d2 t2 b2 s2 0
  · by_cases cY : fday d t b s 7200 = fday d2 t2 b2 s2 7200
    · rw [L.day, L2.day, Int.mul_zero, Int.mul_zero, Int.zero_add, Int.zero_add] at c0
      rw [L.day, L2.day] at cY
      rcases Int.lt_trichotomy ((d * B1 + T1) * B2) ((d2 * B2 + T2) * B1) with q | q | q
      · exact (part_slope L2.b0 L.b0 q c0.symm cY.symm).elim
      · obtain ⟨eb, es⟩ := cross L.b0.1 L2.b0.1 i1 i2 q
        subst eb
        have t1 := L.t0
        have t2' := L2.t0
        have bp := L.b0
        have ed : d = d2 := by
          have z1 : (d * B1 + T1) / B1 = d := by rw [Int.add_comm, Int.add_mul_ediv_right _ _ (by omega), Int.ediv_eq_zero_of_lt t1.1 t1.2]; omega
          have z2 : (d2 * B1 + T2) / B1 = d2 := by rw [Int.add_comm, Int.add_mul_ediv_right _ _ (by omega), Int.ediv_eq_zero_of_lt t2'.1 t2'.2]; omega
          rw [← z1, ← z2, es]
        subst ed
        have et : T1 = T2 := by omega
        subst et
        have nS : S1 ≠ S2 := fun z => ne ⟨rfl, rfl, rfl, z⟩
        rcases Int.lt_or_lt_of_ne nS with w | w
        · obtain ⟨y, y0, y1, hy⟩ := part_shift L.b0 i1 w
          exact ⟨y, y0, by omega, by rw [L.day, L2.day]; exact hy⟩
        · obtain ⟨y, y0, y1, hy⟩ := part_shift L.b0 i1 w
          exact ⟨y, y0, by omega, by rw [L.day, L2.day]; exact fun z => hy z.symm⟩
      · exact (part_slope L.b0 L2.b0 q c0 cY).elim
    · exact ⟨7200, by decide, by decide, cY⟩
  · exact ⟨0, by decide, by decide, c0⟩
theorem alike_all {d t b s d2 t2 b2 s2 : Int} (h : LandOk d t b s) (h2 : LandOk d2 t2 b2 s2) (e : d = d2 ∧ lfT t b = lfT t2 b2 ∧ lfB t b = lfB t2 b2 ∧ lfS t b s = lfS t2 b2 s2) (y : Int) : fday d t b s y = fday d2 t2 b2 s2 y := by
  rw [(lf_of h).day, (lf_of h2).day, e.1, e.2.1, e.2.2.1, e.2.2.2]
end Ly
set_option Elab.async false
set_option linter.all false
set_option maxHeartbeats 4000000
/-! rounds of years: plain mathematics -/
namespace Ly
/-- behind how many years all comes again -/
def turnOf (d t b wk : Int) : Int := wk * b / gcdI (d * b + t) (wk * b)
theorem turn_facts {d t b s wk : Int} (h : LandOk d t b s) (hw : 1 ≤ wk ∧ wk ≤ 20) : 1 ≤ turnOf d t b wk ∧ turnOf d t b wk ≤ 1200 ∧ ∃ g r, 1 ≤ g ∧ d * b + t = g * r ∧ wk * b = g * turnOf d t b wk := by
  have hbb := h.b
  have hst := step_pos h
  have wb : 1 * 1 ≤ wk * b := Int.mul_le_mul hw.1 hbb.1 (by decide) (by omega)
  have wb2 : wk * b ≤ 20 * 60 := Int.mul_le_mul hw.2 hbb.2 (by omega) (by omega)
  have g1 : 1 ≤ gcdI (d * b + t) (wk * b) := gcdI_pos (by omega)
  have gS := gcdI_dvd_l (a := d * b + t) (b := wk * b) (by omega)
  have gW := gcdI_dvd_r (a := d * b + t) (b := wk * b) (by omega)
  unfold turnOf
  generalize gcdI (d * b + t) (wk * b) = g at g1 gS gW ⊢
  have e := (Int.mul_ediv_cancel' gW).symm
  refine ⟨?_, (ediv_abs g1 (B := 1200) (by omega) (by omega) (by omega)).2, g, (d * b + t) / g, g1, (Int.mul_ediv_cancel' gS).symm, e⟩
  rcases Int.lt_or_le (wk * b / g) 1 with z | z
  · have : g * (wk * b / g) ≤ g * 0 := Int.mul_le_mul_of_nonneg_left (by omega) (by omega)
    omega
  · exact z
theorem per_has {d t b s pl wk nm : Int} (h : LandOk d t b s) (hw : 1 ≤ wk ∧ wk ≤ 20) : Per (has d t b s pl wk nm) (turnOf d t b wk) := fun z k => by
  obtain ⟨_, _, g, r, g1, eS, eW⟩ := turn_facts h hw
  have hb := h.b
  unfold has fday
  have e : (d * b + t) * (z + turnOf d t b wk * k) + s = (d * b + t) * z + s + b * (wk * (r * k)) := by
    have e1 : (d * b + t) * (turnOf d t b wk * k) = b * (wk * (r * k)) := by
      rw [eS, show g * r * (turnOf d t b wk * k) = (g * turnOf d t b wk) * (r * k) by
        rw [Int.mul_assoc, Int.mul_assoc, ← Int.mul_assoc r, Int.mul_comm r, Int.mul_assoc]]
      rw [← eW, Int.mul_comm wk b, Int.mul_assoc]
    rw [Int.mul_add, e1]; omega
  rw [e, Int.add_mul_ediv_left _ _ (by omega), show ((d * b + t) * z + s) / b + wk * (r * k) + pl = ((d * b + t) * z + s) / b + pl + wk * (r * k) by omega, Int.add_mul_emod_self_left]
abbrev hasB (d t b s pl wk nm : Int) : Int → Bool := fun x => decide (has d t b s pl wk nm x)
theorem per_hasB {d t b s pl wk nm : Int} (h : LandOk d t b s) (hw : 1 ≤ wk ∧ wk ≤ 20) : Per (fun z => hasB d t b s pl wk nm z = true) (turnOf d t b wk) := fun z k => by
  have := per_has (pl := pl) (nm := nm) h hw z k
  simp only [decide_eq_true_iff]
  exact this
theorem rnd_has {d t b s pl wk nm : Int} (h : LandOk d t b s) (hw : 1 ≤ wk ∧ wk ≤ 20) (a : Int) : Rnd (has d t b s pl wk nm) a (turnOf d t b wk) (flt (hasB d t b s pl wk nm) a (turnOf d t b wk).toNat) :=
  ⟨per_has h hw, (turn_facts h hw).1, flt_inc, fun z => by
    have := (turn_facts h hw).1
    rw [mem_flt, decide_eq_true_iff]
    constructor <;> rintro ⟨x, y, q⟩ <;> exact ⟨x, by omega, q⟩⟩
theorem Rnd.fst {p : Int → Prop} {a T m : Int} {zs r : List Int} (R : Rnd p a T zs) (e : zs = m :: r) : Fst p a m := by
  subst e
  have h := (R.mem m).mp (List.mem_cons_self ..)
  refine ⟨h.1, h.2.2, fun z hz pz => ?_⟩
  by_cases c : z < a + T
  · rcases List.mem_cons.mp ((R.mem z).mpr ⟨hz, c, pz⟩) with e | e
    · omega
    · have := (List.pairwise_cons.mp R.inc).1 z e; omega
  · omega
theorem flt_ge {p : Int → Bool} {a k : Int} {n : Nat} (h0 : 0 ≤ k) (h1 : k ≤ n) : (flt p a n).filter (fun z => decide (z ≥ a + k)) = flt p (a + k) ((n : Int) - k).toNat := by
  refine pw_ext (flt_inc.filter _) flt_inc fun z => ?_
  rw [List.mem_filter, mem_flt, mem_flt, decide_eq_true_iff]
  constructor
  · rintro ⟨⟨x, y, q⟩, w⟩
    exact ⟨w, by omega, q⟩
  · rintro ⟨x, y, q⟩
    exact ⟨⟨by omega, by omega, q⟩, x⟩
theorem rnd_later {p : Int → Bool} {a T k m : Int} {r : List Int} (h : Per (fun z => p z = true) T) (hT : 1 ≤ T) (h0 : 0 ≤ k) (h1 : k ≤ T) (e : flt p (a + k) (T - k).toNat = []) (e2 : flt p a T.toNat = m :: r) : Fst (fun z => p z = true) (a + k) (m + T) := by
  have R := Rnd.flt (a := a) h hT
  have F := R.fst e2
  have hm := (R.mem m).mp (by rw [e2]; exact List.mem_cons_self ..)
  refine ⟨by omega, (h.add m).mpr hm.2.2, fun z hz pz => ?_⟩
  by_cases c : z < a + T
  · have : z ∈ flt p (a + k) (T - k).toNat := mem_flt.mpr ⟨hz, by omega, pz⟩
    rw [e] at this; exact absurd this (by simp)
  · have := F.2.2 (z - T) (by omega) ((h.add _).mp (by rw [Int.sub_add_cancel]; exact pz))
    omega
theorem csum_turns {T a k : Int} (hT : 1 ≤ T) : ∀ rs : List Int, csum rs T a (a + T * k) = k * rs.length
  | [] => by simp [csum]
  | r :: rs => by
    have ih := csum_turns (a := a) (k := k) hT rs
    unfold csum at ih ⊢
    rw [List.map_cons, List.sum_cons, ih, show a + T * k - 1 - r = a - 1 - r + T * k by omega, Int.add_mul_ediv_left _ _ (by omega), List.length_cons]
    have : k * ((rs.length + 1 : Nat) : Int) = k * (rs.length : Int) + k := by rw [show ((rs.length + 1 : Nat) : Int) = (rs.length : Int) + 1 by omega, Int.mul_add, Int.mul_one]
    omega
theorem cnt_turns {rs : List Int} {T a k : Int} (hT : 1 ≤ T) (hk : 0 ≤ k) (hr : ∀ r ∈ rs, 0 ≤ r ∧ r < T) (nd : rs.Nodup) : cnt (fun z => decide (z % T ∈ rs)) a (T * k).toNat = k * rs.length := by
  have h0 : 0 ≤ T * k := Int.mul_nonneg (by omega) hk
  rw [← csum_cnt hT hr nd, show ((T * k).toNat : Int) = T * k by omega]
  exact csum_turns hT rs
theorem yso_ex {d t b s pl wk nm : Int} (h : LandOk d t b s) (hw : 1 ≤ wk ∧ wk ≤ 20) (hn : 0 ≤ nm ∧ nm < wk) : ∃ ys, Yso d t b s pl wk nm ys (turnOf d t b wk) := by
  have hbb := h.b
  have hst := step_pos h
  have wb : 1 * 1 ≤ wk * b := Int.mul_le_mul hw.1 hbb.1 (by decide) (by omega)
  have gd := gcdI_div (a := d * b + t) (b := wk * b) (by omega) (by omega)
  have g1 : 1 ≤ gcdI (d * b + t) (wk * b) := gcdI_pos (by omega)
  obtain ⟨x, y, e⟩ := inv_of (Int.ediv_nonneg (by omega) (by omega)) (Int.ediv_nonneg (by omega) (by omega)) gd
  refine ⟨(fnd b s pl nm (gcdI (d * b + t) (wk * b)) x (wk * b / gcdI (d * b + t) (wk * b)) b.toNat).mergeSort (fun a b => decide (a ≤ b)), yso_of h hw.1 hn.1 hn.2 rfl rfl (bk := x) ⟨-y, ?_⟩ (List.mergeSort_perm _ _) ?_⟩
  · rw [Int.mul_neg]; omega
  · refine (List.pairwise_mergeSort (le := fun a b => decide (a ≤ b)) (fun a b c h1 h2 => ?_) (fun a b => ?_) _).imp fun h => of_decide_eq_true h
    · exact decide_eq_true (by have := of_decide_eq_true h1; have := of_decide_eq_true h2; omega)
    · rw [Bool.or_eq_true, decide_eq_true_iff, decide_eq_true_iff]; omega
theorem flt_has_len {d t b s pl wk nm : Int} (h : LandOk d t b s) (hw : 1 ≤ wk ∧ wk ≤ 20) (hn : 0 ≤ nm ∧ nm < wk) (a : Int) : (flt (hasB d t b s pl wk nm) a (turnOf d t b wk).toNat).length ≤ 60 := by
  obtain ⟨ys, Y⟩ := yso_ex (pl := pl) h hw hn
  have tp := Y.tpos
  have e := cnt_flt (p := hasB d t b s pl wk nm) (a := a) (n := (turnOf d t b wk).toNat)
  rw [cnt_congr (q := fun z => decide (z % turnOf d t b wk ∈ ys)) fun x _ _ => decide_eq_decide.mpr (Y.good x)] at e
  have e2 := cnt_turns (a := a) (k := 1) tp (by decide) Y.rng (Y.inc.imp fun h => by omega)
  rw [Int.mul_one] at e2
  have := Y.len
  omega
end Ly
set_option Elab.async false
set_option linter.all false
set_option maxHeartbeats 4000000
/-! measures that bar; all days of the week together; three lengths -/
namespace Ly
theorem sum_add {α : Type} : ∀ (ls : List α) (f g h : α → Int), (∀ r ∈ ls, f r = g r + h r) → (ls.map f).sum = (ls.map g).sum + (ls.map h).sum
  | [], f, g, h, _ => rfl
  | x :: ls, f, g, h, q => by
    rw [List.map_cons, List.map_cons, List.map_cons, List.sum_cons, List.sum_cons, List.sum_cons, sum_add ls f g h fun r m => q r (List.mem_cons_of_mem _ m), q x (List.mem_cons_self ..)]
    omega
theorem sum_one {m : Int} : ∀ {n : Nat}, 0 ≤ m → ((List.range n).map fun k : Nat => if m = (k : Int) then (1 : Int) else 0).sum = if m < n then 1 else 0
  | 0, h => by rw [if_neg (by omega)]; rfl
  | n + 1, h => by
    rw [List.range_succ, List.map_append, List.sum_append, sum_one h]
    simp only [List.map_cons, List.map_nil, List.sum_cons, List.sum_nil]
    by_cases e : m < (n : Int)
    · rw [if_pos e, if_neg (by omega), if_pos (by omega)]; rfl
    · by_cases e2 : m = (n : Int)
      · rw [if_neg e, if_pos e2, if_pos (by omega)]; rfl
      · rw [if_neg e, if_neg e2, if_neg (by omega)]; rfl
/-- all days of the week together have all years -/
theorem cnt_week {d t b s pl wk a : Int} (hw : 1 ≤ wk) : ∀ n : Nat, ((List.range wk.toNat).map fun k : Nat => cnt (hasB d t b s pl wk (k : Int)) a n).sum = n
  | 0 => by
    have : (List.range wk.toNat).map (fun k : Nat => cnt (hasB d t b s pl wk (k : Int)) a 0) = (List.range wk.toNat).map (fun _ => (0 : Int)) := rfl
    rw [this]
    generalize List.range wk.toNat = ls
    induction ls with
    | nil => rfl
    | cons x ls ih => rw [List.map_cons, List.sum_cons, ih]; rfl
  | n + 1 => by
    have m0 := Int.emod_nonneg (fday d t b s (a + n) + pl) (show wk ≠ 0 by omega)
    have m1 := Int.emod_lt_of_pos (fday d t b s (a + n) + pl) (show 0 < wk by omega)
    rw [sum_add _ _ (fun k : Nat => cnt (hasB d t b s pl wk (k : Int)) a n) (fun k : Nat => if (fday d t b s (a + n) + pl) % wk = (k : Int) then (1 : Int) else 0) fun r _ => ?_, cnt_week hw n, sum_one m0, if_pos (by omega)]
    · omega
    · show cnt _ a n + (if hasB d t b s pl wk (r : Int) (a + n) = true then 1 else 0) = _
      congr 1
      by_cases c : (fday d t b s (a + n) + pl) % wk = (r : Int)
      · rw [if_pos c, if_pos (show hasB d t b s pl wk (r : Int) (a + n) = true from decide_eq_true c)]
      · rw [if_neg c, if_neg (show ¬ hasB d t b s pl wk (r : Int) (a + n) = true from fun z => c (of_decide_eq_true z))]
/-- i is a measure that bars -/
def BarI (d t b s pl wk nm i : Int) : Prop := 1 ≤ i ∧ i ∣ d * b + t ∧ i ∣ wk * b ∧ ∀ j, 0 ≤ j → j < b → (nm * b + j) % i ≠ (s + pl * b) % i
theorem bar_none {d t b s pl wk nm i : Int} (h : LandOk d t b s) (hw : 1 ≤ wk ∧ wk ≤ 20) (hn : 0 ≤ nm ∧ nm < wk) (B : BarI d t b s pl wk nm i) (y : Int) : ¬ has d t b s pl wk nm y := by
  intro hy
  obtain ⟨j, j0, j1, hd⟩ := (has_iff h hw.1 hn.1 hn.2 y).mp hy
  refine B.2.2.2 j j0 j1 ?_
  rw [modeq]
  have h1 : i ∣ (d * b + t) * y := Int.dvd_trans B.2.1 ⟨y, rfl⟩
  have h2 := Int.dvd_trans B.2.2.1 hd
  have h3 := Int.dvd_sub h1 h2
  rwa [show (d * b + t) * y - ((d * b + t) * y - (nm * b + j - s - pl * b)) = nm * b + j - (s + pl * b) by omega] at h3
theorem bar_gcd {d t b s pl wk nm : Int} (h : LandOk d t b s) (hw : 1 ≤ wk ∧ wk ≤ 20) (hn : 0 ≤ nm ∧ nm < wk) (hno : ∀ y, ¬ has d t b s pl wk nm y) : BarI d t b s pl wk nm (gcdI (d * b + t) (wk * b)) := by
  have hbb := h.b
  have hst := step_pos h
  have wb : 1 * 1 ≤ wk * b := Int.mul_le_mul hw.1 hbb.1 (by decide) (by omega)
  have g1 : 1 ≤ gcdI (d * b + t) (wk * b) := gcdI_pos (by omega)
  have gS := gcdI_dvd_l (a := d * b + t) (b := wk * b) (by omega)
  have gW := gcdI_dvd_r (a := d * b + t) (b := wk * b) (by omega)
  have gd := gcdI_div (a := d * b + t) (b := wk * b) (by omega) (by omega)
  obtain ⟨x, y, e⟩ := inv_of (Int.ediv_nonneg (by omega) (by omega)) (Int.ediv_nonneg (by omega) (by omega)) gd
  refine ⟨g1, gS, gW, fun j j0 j1 ej => ?_⟩
  rw [modeq] at ej
  generalize gcdI (d * b + t) (wk * b) = g at g1 gS gW gd e ej
  have eS := (Int.mul_ediv_cancel' gS).symm
  have eW := (Int.mul_ediv_cancel' gW).symm
  have ej2 : g ∣ nm * b + j - s - pl * b := by rwa [show nm * b + j - s - pl * b = nm * b + j - (s + pl * b) by omega]
  have T1 : 1 ≤ wk * b / g := by
    rcases Int.lt_or_le (wk * b / g) 1 with z | z
    · have : g * (wk * b / g) ≤ g * 0 := Int.mul_le_mul_of_nonneg_left (by omega) (by omega)
      omega
    · exact z
  have := (solve (S := d * b + t) (W := wk * b) (g := g) (T := wk * b / g) (r := (d * b + t) / g) (bk := x) (by omega) eS eW ⟨-y, by rw [Int.mul_neg]; omega⟩ ((nm * b + j - s - pl * b) / g * x % (wk * b / g)) (nm * b + j - s - pl * b)).mpr ⟨ej2, by rw [Int.emod_emod_of_dvd _ (Int.dvd_refl _)]⟩
  exact hno _ ((has_iff h hw.1 hn.1 hn.2 _).mpr ⟨j, j0, j1, this⟩)
/-- the years with a day on a day of the week are those of an interval -/
theorem has_int {d t b s pl wk nm : Int} (h : LandOk d t b s) (hw : 1 ≤ wk) (hn : 0 ≤ nm ∧ nm < wk) (y : Int) : has d t b s pl wk nm y ↔ ((d * b + t) * y + (s + pl * b - nm * b)) % (wk * b) < b := by
  have hbb := h.b
  have wb : 1 * b ≤ wk * b := Int.mul_le_mul_of_nonneg_right hw (by omega)
  rw [has_iff h hw hn.1 hn.2]
  constructor
  · rintro ⟨j, j0, j1, k, hk⟩
    rw [show (d * b + t) * y + (s + pl * b - nm * b) = j + wk * b * k by omega, Int.add_mul_emod_self_left, Int.emod_eq_of_lt j0 (by omega)]
    exact j1
  · intro hh
    have e := Int.emod_add_mul_ediv ((d * b + t) * y + (s + pl * b - nm * b)) (wk * b)
    exact ⟨_, Int.emod_nonneg _ (by omega), hh, ((d * b + t) * y + (s + pl * b - nm * b)) / (wk * b), by omega⟩
theorem three_has {d t b s pl wk nm : Int} (h : LandOk d t b s) (hw : 1 ≤ wk ∧ wk ≤ 20) (hn : 0 ≤ nm ∧ nm < wk) {L : List Int} (hL : L.Pairwise (· < ·)) (hm : ∀ g, g ∈ L ↔ Gap (has d t b s pl wk nm) g) : L.length ≤ 3 ∧ ∀ x y z, L = [x, y, z] → z = x + y := by
  have hbb := h.b
  have wb : 1 * b ≤ wk * b := Int.mul_le_mul_of_nonneg_right hw.1 (by omega)
  obtain ⟨α, β, a1, b1, ht⟩ := three (S := d * b + t) (W := wk * b) (b := b) (c := s + pl * b - nm * b) hbb.1 (by omega)
  refine three_list a1 b1 hL fun g hg => ht g ?_
  rw [← Gap.congr (fun y => has_int h hw.1 hn y)]
  exact (hm g).mp hg
theorem gaps_nil {d t b s pl wk nm : Int} (h : LandOk d t b s) (hw : 1 ≤ wk ∧ wk ≤ 20) {L : List Int} (hm : ∀ g, g ∈ L ↔ Gap (has d t b s pl wk nm) g) : L = [] ↔ ∀ y, ¬ has d t b s pl wk nm y := by
  have R := rnd_has (pl := pl) (nm := nm) h hw 0
  constructor
  · intro e y hy
    have hne : flt (hasB d t b s pl wk nm) (y + 1) (turnOf d t b wk).toNat ≠ [] := fun z => (rnd_has (pl := pl) (nm := nm) h hw (y + 1)).ne.mp z y hy
    cases hf : flt (hasB d t b s pl wk nm) (y + 1) (turnOf d t b wk).toNat with
    | nil => exact hne hf
    | cons m r =>
      have F := (rnd_has (pl := pl) (nm := nm) h hw (y + 1)).fst hf
      have : m - y ∈ L := (hm _).mpr ⟨y, hy, by rw [show y + (m - y) = m by omega]; exact F⟩
      rw [e] at this; exact absurd this (by simp)
  · intro hno
    cases L with
    | nil => rfl
    | cons g L =>
      obtain ⟨y, hy, _⟩ := (hm g).mp (List.mem_cons_self ..)
      exact absurd hy (hno y)
end Ly
set_option Elab.async false
set_option linter.all false
set_option maxHeartbeats 4000000
/-! two lands: days with two places -/
namespace Ly
/-- the day z has the place pl -/
def At (d t b s pl z : Int) : Prop := ∃ y, z = fday d t b s y + pl
theorem fday_turns {d t b s : Int} (h : LandOk d t b s) (y m : Int) : fday d t b s (y + b * m) = fday d t b s y + (d * b + t) * m := by
  have hb := h.b
  unfold fday
  have e : (d * b + t) * (y + b * m) + s = ((d * b + t) * y + s) + b * ((d * b + t) * m) := by
    rw [Int.mul_add, ← Int.mul_assoc (d * b + t) b m, Int.mul_comm (d * b + t) b, Int.mul_assoc b]; omega
  rw [e, Int.add_mul_ediv_left _ _ (by omega)]
theorem fday_mono {d t b s : Int} (h : LandOk d t b s) (y : Int) : ∀ n : Nat, fday d t b s y + n ≤ fday d t b s (y + n)
  | 0 => by simp
  | n + 1 => by
    have := fday_mono h y n
    have h2 := fday_lt h (y + n)
    rw [show y + ((n + 1 : Nat) : Int) = y + n + 1 by omega]
    omega
theorem fday_le {d t b s : Int} (h : LandOk d t b s) {y z : Int} (hz : y ≤ z) : fday d t b s y + (z - y) ≤ fday d t b s z := by
  have := fday_mono h y (z - y).toNat
  rw [show y + ((z - y).toNat : Int) = z by omega] at this
  omega
/-- what days with a place leave by the step, year by year -/
def dso (d t b s pl : Int) : List Int := (List.range b.toNat).map fun k : Nat => (fday d t b s (k : Int) + pl) % (d * b + t)
theorem dso_len {d t b s pl : Int} : (dso d t b s pl).length = b.toNat := by unfold dso; rw [List.length_map, List.length_range]
theorem mem_dso {d t b s pl u : Int} : u ∈ dso d t b s pl ↔ ∃ k : Int, 0 ≤ k ∧ k < b ∧ u = (fday d t b s k + pl) % (d * b + t) := by
  unfold dso
  rw [List.mem_map]
  constructor
  · rintro ⟨k, hk, rfl⟩
    rw [List.mem_range] at hk
    exact ⟨k, by omega, by omega, rfl⟩
  · rintro ⟨k, k0, k1, rfl⟩
    exact ⟨k.toNat, List.mem_range.mpr (by omega), by rw [show ((k.toNat : Nat) : Int) = k by omega]⟩
theorem at_dso {d t b s pl : Int} (h : LandOk d t b s) (z : Int) : At d t b s pl z ↔ z % (d * b + t) ∈ dso d t b s pl := by
  have hb := h.b
  have hp := step_pos h
  rw [mem_dso]
  constructor
  · rintro ⟨y, rfl⟩
    have h1 := Int.emod_add_mul_ediv y b
    refine ⟨y % b, Int.emod_nonneg _ (by omega), Int.emod_lt_of_pos _ (by omega), ?_⟩
    have e := fday_turns h (y % b) (y / b)
    rw [h1] at e
    rw [e, show fday d t b s (y % b) + (d * b + t) * (y / b) + pl = fday d t b s (y % b) + pl + (d * b + t) * (y / b) by omega, Int.add_mul_emod_self_left]
  · rintro ⟨k, k0, k1, e⟩
    rw [modeq] at e
    obtain ⟨m, hm⟩ := e
    refine ⟨k + b * m, ?_⟩
    rw [fday_turns h]
    omega
theorem dso_rng {d t b s pl : Int} (h : LandOk d t b s) : ∀ u ∈ dso d t b s pl, 0 ≤ u ∧ u < d * b + t := fun u hu => by
  have hp := step_pos h
  obtain ⟨k, _, _, rfl⟩ := mem_dso.mp hu
  exact ⟨Int.emod_nonneg _ (by omega), Int.emod_lt_of_pos _ (by omega)⟩
theorem dso_nodup {d t b s pl : Int} (h : LandOk d t b s) : (dso d t b s pl).Nodup := by
  have hp := step_pos h
  have hb := h.b
  unfold dso
  rw [List.nodup_iff_pairwise_ne, List.pairwise_map]
  refine (List.pairwise_lt_range (n := b.toNat)).imp_of_mem ?_
  intro i j hi hj hij e
  rw [List.mem_range] at hi hj
  rw [modeq] at e
  have h1 := fday_le h (y := (i : Int)) (z := (j : Int)) (by omega)
  have h2 := fday_le h (y := (j : Int)) (z := (i : Int) + b) (by omega)
  rw [fday_round h] at h2
  have h3 : (d * b + t) ∣ (fday d t b s j + pl) - (fday d t b s i + pl) := by
    have := Int.dvd_neg.mpr e
    rwa [Int.neg_sub] at this
  have h4 := Int.le_of_dvd (by omega) h3
  omega
/-- days with both places -/
def Both (d t b s pl d2 t2 b2 s2 pl2 z : Int) : Prop := At d t b s pl z ∧ At d2 t2 b2 s2 pl2 z
/-- no day of the one leaves by i what one of the other does -/
def PrtI (d t b s pl d2 t2 b2 s2 pl2 i : Int) : Prop := ∀ k k2, 0 ≤ k → k < b → 0 ≤ k2 → k2 < b2 → (fday d t b s k + pl) % i ≠ (fday d2 t2 b2 s2 k2 + pl2) % i
theorem prt_dso {d t b s pl d2 t2 b2 s2 pl2 i : Int} (h1 : i ∣ d * b + t) (h2 : i ∣ d2 * b2 + t2) :
    PrtI d t b s pl d2 t2 b2 s2 pl2 i ↔ ∀ u ∈ dso d t b s pl, ∀ v ∈ dso d2 t2 b2 s2 pl2, u % i ≠ v % i := by
  constructor
  · intro h u hu v hv
    obtain ⟨k, k0, k1, rfl⟩ := mem_dso.mp hu
    obtain ⟨k2, k20, k21, rfl⟩ := mem_dso.mp hv
    rw [Int.emod_emod_of_dvd _ h1, Int.emod_emod_of_dvd _ h2]
    exact h k k2 k0 k1 k20 k21
  · intro h k k2 k0 k1 k20 k21
    have := h _ (mem_dso.mpr ⟨k, k0, k1, rfl⟩) _ (mem_dso.mpr ⟨k2, k20, k21, rfl⟩)
    rwa [Int.emod_emod_of_dvd _ h1, Int.emod_emod_of_dvd _ h2] at this
/-- the days found, one for each pair that fits -/
def sol (S g bk turn u v : Int) : Int := u + S * ((v - u) / g * bk % turn)
def cfnd (S g bk turn : Int) (us vs : List Int) : List Int := us.flatMap fun u => (vs.filter fun v => decide (v % g = u % g)).map (sol S g bk turn u)
structure Cmn (d t b s pl d2 t2 b2 s2 pl2 : Int) (rs : List Int) (T : Int) : Prop where
  tpos : 1 ≤ T ∧ T < 1000000000
  teq : T = (d * b + t) * ((d2 * b2 + t2) / gcdI (d * b + t) (d2 * b2 + t2))
  rng : ∀ r ∈ rs, 0 ≤ r ∧ r < T
  nodup : rs.Nodup
  good : ∀ z, Both d t b s pl d2 t2 b2 s2 pl2 z ↔ z % T ∈ rs
  len : rs.length ≤ 3600
theorem flat_len {us : List Int} {f : Int → List Int} {m : Nat} (h : ∀ u ∈ us, (f u).length ≤ m) : (us.flatMap f).length ≤ us.length * m := by
  induction us with
  | nil => simp
  | cons u us ih =>
    rw [List.flatMap_cons, List.length_append, List.length_cons, Nat.add_mul, Nat.one_mul]
    have h1 := ih fun x hx => h x (List.mem_cons_of_mem _ hx)
    have h2 := h u (List.mem_cons_self ..)
    omega
theorem cmn_of {d t b s pl d2 t2 b2 s2 pl2 g bk turn : Int} (h : LandOk d t b s) (h2 : LandOk d2 t2 b2 s2) (hg : g = gcdI (d * b + t) (d2 * b2 + t2)) (hT : turn = (d2 * b2 + t2) / g) (hb : turn ∣ (d * b + t) / g * bk - 1) :
    Cmn d t b s pl d2 t2 b2 s2 pl2 (cfnd (d * b + t) g bk turn (dso d t b s pl) (dso d2 t2 b2 s2 pl2)) ((d * b + t) * turn) := by
  have hp := step_pos h
  have hp2 := step_pos h2
  have g1 : 1 ≤ g := by rw [hg]; exact gcdI_pos (by omega)
  have eS : d * b + t = g * ((d * b + t) / g) := by
    have := gcdI_dvd_l (a := d * b + t) (b := d2 * b2 + t2) (by omega)
    rw [← hg] at this
    exact (Int.mul_ediv_cancel' this).symm
  have eW : d2 * b2 + t2 = g * turn := by
    have := gcdI_dvd_r (a := d * b + t) (b := d2 * b2 + t2) (by omega)
    rw [← hg] at this
    rw [hT]
    exact (Int.mul_ediv_cancel' this).symm
  have rU := dso_rng (pl := pl) h
  have rV := dso_rng (pl := pl2) h2
  have nU := dso_nodup (pl := pl) h
  have nV := dso_nodup (pl := pl2) h2
  have aU := at_dso (pl := pl) h
  have aV := at_dso (pl := pl2) h2
  have lU := dso_len (d := d) (t := t) (b := b) (s := s) (pl := pl)
  have lV := dso_len (d := d2) (t := t2) (b := b2) (s := s2) (pl := pl2)
  have hbb := h.b
  have hbb2 := h2.b
  have teq : turn = (d2 * b2 + t2) / gcdI (d * b + t) (d2 * b2 + t2) := by rw [hT, hg]
  generalize dso d t b s pl = us at rU nU aU lU ⊢
  generalize dso d2 t2 b2 s2 pl2 = vs at rV nV aV lV ⊢
  rw [show (d * b + t) * turn = (d * b + t) * ((d2 * b2 + t2) / gcdI (d * b + t) (d2 * b2 + t2)) by rw [← teq]]
  rw [← teq]
  have T1 : 1 ≤ turn := by
    rcases Int.lt_or_le turn 1 with z | z
    · have : g * turn ≤ g * 0 := Int.mul_le_mul_of_nonneg_left (by omega) (by omega)
      omega
    · exact z
  have T2 : turn ≤ 24060 := by
    have : 1 * turn ≤ g * turn := Int.mul_le_mul_of_nonneg_right g1 (by omega)
    omega
  generalize hS : d * b + t = S at *
  generalize hW : d2 * b2 + t2 = W at *
  have solv := fun (k aw : Int) => solve (S := S) (W := W) (g := g) (T := turn) (by omega) eS eW hb k aw
  have ST1 : 1 * 1 ≤ S * turn := Int.mul_le_mul hp.1 T1 (by decide) (by omega)
  have ST2 : S * turn ≤ 24060 * 24060 := Int.mul_le_mul hp.2 T2 (by omega) (by decide)
  -- what sol leaves
  have s0 : ∀ u v, u ∈ us → 0 ≤ sol S g bk turn u v ∧ sol S g bk turn u v < S * turn := fun u v hu => by
    have r := rU u hu
    unfold sol
    have m0 := Int.emod_nonneg ((v - u) / g * bk) (show turn ≠ 0 by omega)
    have m1 := Int.emod_lt_of_pos ((v - u) / g * bk) (show 0 < turn by omega)
    generalize (v - u) / g * bk % turn = k at m0 m1 ⊢
    have a1 : 0 ≤ S * k := Int.mul_nonneg (by omega) m0
    have a2 : S * k ≤ S * (turn - 1) := Int.mul_le_mul_of_nonneg_left (by omega) (by omega)
    rw [Int.mul_sub, Int.mul_one] at a2
    omega
  have s1 : ∀ u v, u ∈ us → sol S g bk turn u v % S = u := fun u v hu => by
    have r := rU u hu
    unfold sol
    rw [Int.add_mul_emod_self_left, Int.emod_eq_of_lt r.1 r.2]
  have s2' : ∀ u v, v ∈ vs → v % g = u % g → sol S g bk turn u v % W = v := fun u v hv e => by
    have r := rV v hv
    have hd : g ∣ v - u := modeq.mp e
    have h5 := (solv ((v - u) / g * bk % turn) (v - u)).mpr ⟨hd, by rw [Int.emod_emod_of_dvd _ (Int.dvd_refl _)]⟩
    unfold sol
    have : (u + S * ((v - u) / g * bk % turn)) % W = v % W := by
      rw [modeq]
      rwa [show u + S * ((v - u) / g * bk % turn) - v = S * ((v - u) / g * bk % turn) - (v - u) by omega]
    rw [this, Int.emod_eq_of_lt r.1 r.2]
  have mem : ∀ x, x ∈ cfnd S g bk turn us vs ↔ ∃ u v, u ∈ us ∧ v ∈ vs ∧ v % g = u % g ∧ x = sol S g bk turn u v := fun x => by
    unfold cfnd
    rw [List.mem_flatMap]
    constructor
    · rintro ⟨u, hu, hx⟩
      obtain ⟨v, hv, rfl⟩ := List.mem_map.mp hx
      rw [List.mem_filter, decide_eq_true_iff] at hv
      exact ⟨u, v, hu, hv.1, hv.2, rfl⟩
    · rintro ⟨u, v, hu, hv, e, rfl⟩
      exact ⟨u, hu, List.mem_map.mpr ⟨v, List.mem_filter.mpr ⟨hv, decide_eq_true e⟩, rfl⟩⟩
  have dW : W ∣ S * turn := ⟨S / g, by rw [eW]; conv => lhs; rw [eS]
                                       rw [Int.mul_assoc, Int.mul_assoc, Int.mul_comm (S / g) turn]⟩
  refine ⟨⟨by omega, by omega⟩, by rw [hS, hW, ← teq], fun r hr => ?_, ?_, fun z => ?_, ?_⟩
  · obtain ⟨u, v, hu, _, _, rfl⟩ := (mem r).mp hr
    exact s0 u v hu
  · unfold cfnd
    rw [List.nodup_iff_pairwise_ne, List.pairwise_flatMap]
    constructor
    · intro u hu
      rw [List.pairwise_map]
      refine ((nV.filter _).imp_of_mem ?_)
      intro v v' hv hv' hne e
      rw [List.mem_filter, decide_eq_true_iff] at hv hv'
      have e1 := s2' u v hv.1 hv.2
      have e2 := s2' u v' hv'.1 hv'.2
      rw [e, e2] at e1
      exact hne e1.symm
    · refine nU.imp_of_mem ?_
      intro u u' hu hu' hne x hx y hy e
      obtain ⟨v, _, rfl⟩ := List.mem_map.mp hx
      obtain ⟨v', _, rfl⟩ := List.mem_map.mp hy
      have e1 := s1 u v hu
      have e2 := s1 u' v' hu'
      rw [e, e2] at e1
      exact hne e1.symm
  · unfold Both
    rw [aU, aV, mem]
    have dS : S ∣ S * turn := ⟨turn, rfl⟩
    constructor
    · rintro ⟨hu, hv⟩
      refine ⟨z % S, z % W, hu, hv, ?_, ?_⟩
      · rw [Int.emod_emod_of_dvd _ ⟨turn, eW⟩, Int.emod_emod_of_dvd _ ⟨S / g, eS⟩]
      · have eg : z % W % g = z % S % g := by rw [Int.emod_emod_of_dvd _ ⟨turn, eW⟩, Int.emod_emod_of_dvd _ ⟨S / g, eS⟩]
        have x1 := s1 (z % S) (z % W) hu
        have x2 := s2' (z % S) (z % W) hv eg
        have x0 := s0 (z % S) (z % W) hu
        generalize sol S g bk turn (z % S) (z % W) = x at x0 x1 x2
        have h3 : x % S = z % S := x1
        have h4 : x % W = z % W := x2
        rw [modeq] at h3 h4
        obtain ⟨k, hk⟩ := h3
        have h5 := (solv k 0).mp (by rw [← hk, Int.sub_zero]; exact h4)
        rw [Int.zero_ediv, Int.zero_mul, Int.zero_emod] at h5
        obtain ⟨j, hj⟩ := (Int.dvd_iff_emod_eq_zero ..).mpr h5.2
        have : z = x + S * turn * (-j) := by
          rw [Int.mul_neg, Int.mul_assoc, ← hj, ← hk]; omega
        rw [this, Int.add_mul_emod_self_left, Int.emod_eq_of_lt x0.1 x0.2]
    · rintro ⟨u, v, hu, hv, e, ez⟩
      have y1 : z % S = u := by rw [← Int.emod_emod_of_dvd z dS, ez]; exact s1 u v hu
      have y2 : z % W = v := by rw [← Int.emod_emod_of_dvd z dW, ez]; exact s2' u v hv e
      rw [y1, y2]
      exact ⟨hu, hv⟩
  · refine Nat.le_trans (flat_len (m := 60) fun u _ => ?_) (by rw [lU]; omega)
    rw [List.length_map]
    exact Nat.le_trans (List.length_filter_le ..) (by rw [lV]; omega)
/-- the round of two lands -/
def lcmOf (d t b d2 t2 b2 : Int) : Int := (d * b + t) * ((d2 * b2 + t2) / gcdI (d * b + t) (d2 * b2 + t2))
theorem cmn_ex {d t b s pl d2 t2 b2 s2 pl2 : Int} (h : LandOk d t b s) (h2 : LandOk d2 t2 b2 s2) : ∃ rs, Cmn d t b s pl d2 t2 b2 s2 pl2 rs (lcmOf d t b d2 t2 b2) := by
  have hp := step_pos h
  have hp2 := step_pos h2
  have g1 : 1 ≤ gcdI (d * b + t) (d2 * b2 + t2) := gcdI_pos (by omega)
  have gd := gcdI_div (a := d * b + t) (b := d2 * b2 + t2) (by omega) (by omega)
  obtain ⟨x, y, e⟩ := inv_of (Int.ediv_nonneg (by omega) (by omega)) (Int.ediv_nonneg (by omega) (by omega)) gd
  exact ⟨_, cmn_of h h2 rfl rfl (bk := x) ⟨-y, by rw [Int.mul_neg]; omega⟩⟩
theorem both_prt {d t b s pl d2 t2 b2 s2 pl2 : Int} (h : LandOk d t b s) (h2 : LandOk d2 t2 b2 s2) : (∀ z, ¬ Both d t b s pl d2 t2 b2 s2 pl2 z) ↔ PrtI d t b s pl d2 t2 b2 s2 pl2 (gcdI (d * b + t) (d2 * b2 + t2)) := by
  have hp := step_pos h
  have hp2 := step_pos h2
  have gS := gcdI_dvd_l (a := d * b + t) (b := d2 * b2 + t2) (by omega)
  have gW := gcdI_dvd_r (a := d * b + t) (b := d2 * b2 + t2) (by omega)
  rw [prt_dso gS gW]
  constructor
  · intro hno u hu v hv e
    have g1 : 1 ≤ gcdI (d * b + t) (d2 * b2 + t2) := gcdI_pos (by omega)
    have gd := gcdI_div (a := d * b + t) (b := d2 * b2 + t2) (by omega) (by omega)
    obtain ⟨x, y, e2⟩ := inv_of (Int.ediv_nonneg (by omega) (by omega)) (Int.ediv_nonneg (by omega) (by omega)) gd
    have C := cmn_of (pl := pl) (pl2 := pl2) h h2 rfl rfl (bk := x) ⟨-y, by rw [Int.mul_neg]; omega⟩
    have m : sol (d * b + t) (gcdI (d * b + t) (d2 * b2 + t2)) x ((d2 * b2 + t2) / gcdI (d * b + t) (d2 * b2 + t2)) u v ∈ cfnd (d * b + t) (gcdI (d * b + t) (d2 * b2 + t2)) x ((d2 * b2 + t2) / gcdI (d * b + t) (d2 * b2 + t2)) (dso d t b s pl) (dso d2 t2 b2 s2 pl2) := by
      unfold cfnd
      exact List.mem_flatMap.mpr ⟨u, hu, List.mem_map.mpr ⟨v, List.mem_filter.mpr ⟨hv, decide_eq_true e.symm⟩, rfl⟩⟩
    have r := C.rng _ m
    exact hno _ ((C.good _).mpr (by rw [Int.emod_eq_of_lt r.1 r.2]; exact m))
  · rintro hp z ⟨hu, hv⟩
    have a1 := (at_dso h z).mp hu
    have a2 := (at_dso h2 z).mp hv
    refine hp _ a1 _ a2 ?_
    rw [Int.emod_emod_of_dvd _ gS, Int.emod_emod_of_dvd _ gW]
theorem prt_up {d t b s pl d2 t2 b2 s2 pl2 i g : Int} (hi : i ∣ g) (hp : PrtI d t b s pl d2 t2 b2 s2 pl2 i) : PrtI d t b s pl d2 t2 b2 s2 pl2 g := fun k k2 a b c e z => by
  refine hp k k2 a b c e ?_
  rw [← Int.emod_emod_of_dvd _ hi, z, Int.emod_emod_of_dvd _ hi]
theorem at_yof {d t b s pl : Int} (h : LandOk d t b s) (hp : 0 ≤ pl ∧ pl < d) (z : Int) : At d t b s pl z ↔ z - fday d t b s (yof d t b s z) = pl := by
  constructor
  · rintro ⟨y, rfl⟩
    have := flen2 h y
    rw [yof_eq h (y := y) (by omega) (by omega)]
    omega
  · intro e
    exact ⟨yof d t b s z, by omega⟩
theorem per_both {d t b s pl d2 t2 b2 s2 pl2 : Int} (h : LandOk d t b s) (h2 : LandOk d2 t2 b2 s2) : Per (Both d t b s pl d2 t2 b2 s2 pl2) (lcmOf d t b d2 t2 b2) := fun z k => by
  obtain ⟨rs, C⟩ := cmn_ex (pl := pl) (pl2 := pl2) h h2
  rw [C.good, C.good, Int.add_mul_emod_self_left]
theorem both_symm {d t b s pl d2 t2 b2 s2 pl2 : Int} : Both d t b s pl d2 t2 b2 s2 pl2 = Both d2 t2 b2 s2 pl2 d t b s pl := funext fun z => propext ⟨fun h => ⟨h.2, h.1⟩, fun h => ⟨h.2, h.1⟩⟩
theorem lcm_many {d t b s d2 t2 b2 s2 : Int} (h : LandOk d t b s) (h2 : LandOk d2 t2 b2 s2) : (d * b + t) * (d2 * b2 + t2) / gcdI (d * b + t) (d2 * b2 + t2) = lcmOf d t b d2 t2 b2 := by
  have hp2 := step_pos h2
  unfold lcmOf
  rw [Int.mul_ediv_assoc _ (gcdI_dvd_r (by omega))]
open Classical in
noncomputable def bothB (d t b s pl d2 t2 b2 s2 pl2 : Int) : Int → Bool := fun z => decide (Both d t b s pl d2 t2 b2 s2 pl2 z)
theorem bothB_iff {d t b s pl d2 t2 b2 s2 pl2 z : Int} : bothB d t b s pl d2 t2 b2 s2 pl2 z = true ↔ Both d t b s pl d2 t2 b2 s2 pl2 z := by
  unfold bothB
  exact @decide_eq_true_iff _ (Classical.propDecidable _)
theorem rnd_both {d t b s pl d2 t2 b2 s2 pl2 : Int} (h : LandOk d t b s) (h2 : LandOk d2 t2 b2 s2) (a : Int) : Rnd (Both d t b s pl d2 t2 b2 s2 pl2) a (lcmOf d t b d2 t2 b2) (flt (bothB d t b s pl d2 t2 b2 s2 pl2) a (lcmOf d t b d2 t2 b2).toNat) := by
  obtain ⟨rs, C⟩ := cmn_ex (pl := pl) (pl2 := pl2) h h2
  have := C.tpos
  refine ⟨per_both h h2, this.1, flt_inc, fun z => ?_⟩
  rw [mem_flt, bothB_iff]
  constructor <;> rintro ⟨x, y, q⟩ <;> exact ⟨x, by omega, q⟩
end Ly
set_option Elab.async false
set_option linter.all false
set_option maxHeartbeats 4000000
/-! long years; so many days later; weeks named on -/
namespace Ly
/-- the year z is long -/
def Lng (t b s z : Int) : Prop := tof t b s (z + 1) = tof t b s z + 1
theorem tof_le {d t b s : Int} (h : LandOk d t b s) {y z : Int} (hz : y ≤ z) : tof t b s y ≤ tof t b s z := by
  have hb := h.b
  have ht := h.t
  unfold tof
  refine Int.ediv_le_ediv (by omega) ?_
  have := Int.mul_le_mul_of_nonneg_left hz ht.1
  omega
theorem no_long {d t b s : Int} (h : LandOk d t b s) (h0 : t = 0) (z : Int) : ¬ Lng t b s z := by
  subst h0
  unfold Lng tof
  rw [Int.zero_mul, Int.zero_mul]
  omega
theorem fst_long {d t b s : Int} (h : LandOk d t b s) (h0 : t ≠ 0) (y : Int) : Fst (Lng t b s) y (-((s - (tof t b s y + 1) * b) / t) - 1) := by
  have hb := h.b
  have ht := h.t
  have t1 : 1 ≤ t := by omega
  generalize hW : tof t b s y + 1 = W
  -- the least number with t * m + s at least W * b
  have key : ∀ m : Int, W ≤ tof t b s m ↔ -((s - W * b) / t) ≤ m := fun m => by
    unfold tof
    rw [Int.le_ediv_iff_mul_le (by omega)]
    have e : -((s - W * b) / t) ≤ m ↔ -m ≤ (s - W * b) / t := by omega
    rw [e, Int.le_ediv_iff_mul_le (by omega), Int.neg_mul, Int.mul_comm m t]
    omega
  have k1 := (key (-((s - W * b) / t))).mpr (Int.le_refl _)
  have k2 := mt (key (-((s - W * b) / t) - 1)).mp (by omega)
  have k4 : ¬ -((s - W * b) / t) ≤ y := fun z => absurd ((key y).mpr z) (by omega)
  generalize -((s - W * b) / t) = m at key k1 k2 k4
  refine ⟨by omega, ?_, fun z hz hl => ?_⟩
  · unfold Lng
    rw [show m - 1 + 1 = m by omega]
    have := tof_step h (m - 1)
    rw [show m - 1 + 1 = m by omega] at this
    omega
  · unfold Lng at hl
    have := tof_le h hz
    have := (key (z + 1)).mp (by omega)
    omega
/-- so many days later -/
theorem fday_later {d t b s : Int} (h : LandOk d t b s) (by' y : Int) : fday d t b (s + by' * b) y = fday d t b s y + by' := by
  have hb := h.b
  unfold fday
  rw [← Int.add_assoc, Int.add_mul_ediv_right _ _ (by omega)]
theorem yof_later {d t b s : Int} (by' n : Int) : yof d t b (s + by' * b) (n + by') = yof d t b s n := by
  unfold yof
  congr 1
  rw [show n + by' + 1 = n + 1 + by' by omega, Int.add_mul]
  omega
theorem tof_later {d t b s : Int} (h : LandOk d t b s) (by' y : Int) : tof t b (s + by' * b) y = tof t b s y + by' := by
  have hb := h.b
  unfold tof
  rw [← Int.add_assoc, Int.add_mul_ediv_right _ _ (by omega)]
theorem long_later {d t b s : Int} (h : LandOk d t b s) (by' : Int) : Lng t b (s + by' * b) = Lng t b s := funext fun z => propext (by
  unfold Lng
  rw [tof_later h, tof_later h]
  omega)
/-- years counted from another one -/
theorem fday_back {d t b s : Int} (back y : Int) : fday d t b (s + back * (d * b + t)) y = fday d t b s (y + back) := by
  unfold fday
  congr 1
  rw [Int.mul_add (d * b + t) y back, Int.mul_comm back]
  omega
theorem tof_back {d t b s : Int} (h : LandOk d t b s) (back y : Int) : tof t b (s + back * (d * b + t)) y = tof t b s (y + back) + back * d := by
  have hb := h.b
  unfold tof
  rw [← Int.add_mul_ediv_right _ _ (show b ≠ 0 by omega)]
  congr 1
  rw [Int.mul_add t y back, Int.mul_add back, Int.mul_comm t back, Int.mul_assoc back d b]
  omega
theorem mod_named {x wk nm k : Int} (hn : 0 ≤ nm ∧ nm < wk) : (x + k) % wk = (nm + k) % wk ↔ x % wk = nm := by
  rw [modeq, show x + k - (nm + k) = x - nm by omega, ← modeq, Int.emod_eq_of_lt hn.1 hn.2]
theorem has_later {d t b s pl wk nm : Int} (h : LandOk d t b s) (hn : 0 ≤ nm ∧ nm < wk) (by' : Int) : has d t b (s + by' * b) pl wk ((nm + by') % wk) = has d t b s pl wk nm := funext fun z => propext (by
  unfold has
  rw [fday_later h, show fday d t b s z + by' + pl = fday d t b s z + pl + by' by omega, mod_named hn])
theorem has_called {d t b s pl wk nm o : Int} (hn : 0 ≤ nm ∧ nm < wk) : has d t b s o wk ((nm + o - pl) % wk) = has d t b s pl wk nm := funext fun z => propext (by
  unfold has
  rw [show fday d t b s z + o = fday d t b s z + pl + (o - pl) by omega, show nm + o - pl = nm + (o - pl) by omega, mod_named hn])
theorem at_later {d t b s pl : Int} (h : LandOk d t b s) (by' z : Int) : At d t b (s + by' * b) pl (z + by') ↔ At d t b s pl z := by
  unfold At
  constructor
  · rintro ⟨y, e⟩
    exact ⟨y, by rw [fday_later h] at e; omega⟩
  · rintro ⟨y, e⟩
    exact ⟨y, by rw [fday_later h]; omega⟩
theorem both_later {d t b s pl d2 t2 b2 s2 pl2 : Int} (h : LandOk d t b s) (h2 : LandOk d2 t2 b2 s2) (by' z : Int) : Both d t b (s + by' * b) pl d2 t2 b2 (s2 + by' * b2) pl2 (z + by') ↔ Both d t b s pl d2 t2 b2 s2 pl2 z := by
  unfold Both
  rw [at_later h, at_later h2]
end Ly
set_option Elab.async false
set_option linter.all false
set_option maxRecDepth 100000
set_option maxHeartbeats 4000000
/-! lands by words; lands told back: plain mathematics -/
namespace Ly
theorem sun_ok : LandOk 365 1 4 0 := by unfold LandOk; omega
theorem moon_ok : LandOk 354 11 30 0 := by unfold LandOk; omega
theorem even_ok : LandOk 364 0 1 3 := by unfold LandOk; omega
theorem gap_uniq {p : Int → Prop} {L M : List Int} (hL : L.Pairwise (· < ·)) (hM : M.Pairwise (· < ·)) (h : ∀ g, g ∈ L ↔ Gap p g) (k : ∀ g, g ∈ M ↔ Gap p g) : L = M :=
  pw_ext hL hM fun g => (h g).trans (k g).symm
theorem sun_gaps (g : Int) : g ∈ ([5, 6, 11] : List Int) ↔ Gap (has 365 1 4 0 0 7 0) g := by
  have R := rnd_has (pl := 0) (nm := 0) sun_ok (wk := 7) (by decide) 0
  rw [← R.gap]
  have e : difs (rnd (turnOf 365 1 4 7) (flt (hasB 365 1 4 0 0 7 0) 0 (turnOf 365 1 4 7).toNat)) = [6, 11, 6, 5] := by decide +kernel
  rw [e]
  simp only [List.mem_cons, List.not_mem_nil, or_false]
  omega
theorem even_has (z : Int) : has 364 0 1 3 0 7 3 z := by
  show (fday 364 0 1 3 z + 0) % 7 = 3
  unfold fday
  omega
theorem even_gaps (g : Int) : g ∈ ([1] : List Int) ↔ Gap (has 364 0 1 3 0 7 3) g := by
  rw [List.mem_singleton]
  constructor
  · rintro rfl
    exact ⟨0, even_has _, by omega, even_has _, fun z h _ => by omega⟩
  · rintro ⟨y, _, h1, _, h2⟩
    have := h2 (y + 1) (by omega) (even_has _)
    omega
theorem even_not (z : Int) : ¬ has 364 0 1 3 0 7 4 z := by
  show ¬ (fday 364 0 1 3 z + 0) % 7 = 4
  unfold fday
  omega
theorem even_none (g : Int) : g ∈ ([] : List Int) ↔ Gap (has 364 0 1 3 0 7 4) g := by
  constructor
  · intro h; exact absurd h (by simp)
  · rintro ⟨y, h, _⟩
    exact absurd h (even_not y)
theorem even_bar : BarI 364 0 1 3 0 7 4 7 := ⟨by decide, ⟨52, by decide⟩, ⟨1, by decide⟩, fun j h1 h2 => by
  have e : j = 0 := by omega
  subst e
  decide⟩
theorem sun_many : cnt (fun x => decide (has 365 1 4 0 0 7 0 x)) 0 (28 - 0 : Int).toNat = 4 := by
  rw [cnt_congr (q := hasB 365 1 4 0 0 7 0) fun z _ _ => rfl]
  decide +kernel
theorem sun_next : Fst (has 365 1 4 0 0 7 1) 0 1 := ⟨by decide, by show (fday 365 1 4 0 1 + 0) % 7 = 1; decide, fun z h k => by
  by_cases e : z = 0
  · subst e
    exact absurd k (by show ¬ (fday 365 1 4 0 0 + 0) % 7 = 1; decide)
  · omega⟩
theorem sm_zero : Both 365 1 4 0 0 354 11 30 0 0 0 := ⟨⟨0, by decide⟩, ⟨0, by decide⟩⟩
theorem sm_fst : Fst (Both 365 1 4 0 0 354 11 30 0 0) 0 0 := ⟨by decide, sm_zero, fun z h _ => h⟩
theorem sun_days : cnt (bothB 365 1 4 0 0 365 1 4 0 0) 0 (1461 - 0 : Int).toNat = 4 := by
  rw [cnt_congr (q := fun z => decide (z - fday 365 1 4 0 (yof 365 1 4 0 z) = 0)) fun z _ _ => by
    rw [Bool.eq_iff_iff, bothB_iff, decide_eq_true_iff, ← at_yof sun_ok (by decide)]
    exact ⟨fun h => h.1, fun h => ⟨h, h⟩⟩]
  decide +kernel
theorem sun_part (k : Int) (h0 : 0 ≤ k) (h1 : k < 4) : fday 365 1 4 0 k = fday 365 0 1 0 k := by
  unfold fday
  omega
theorem seven_no (z : Int) : ¬ Both 7 0 1 0 0 14 0 1 0 3 z := by
  rintro ⟨⟨y, h⟩, ⟨y', h'⟩⟩
  unfold fday at h h'
  omega
theorem seven_yes : Both 7 0 1 0 0 14 0 1 0 7 7 := ⟨⟨1, by decide⟩, ⟨0, by decide⟩⟩
theorem seven_next : Fst (Both 7 0 1 0 0 14 0 1 0 7) 8 21 := ⟨by decide, ⟨⟨3, by decide⟩, ⟨1, by decide⟩⟩, fun z h k => by
  obtain ⟨⟨y, h1⟩, ⟨y', h2⟩⟩ := k
  unfold fday at h1 h2
  omega⟩
/-- where there is one there is a gap -/
theorem gap_some {d t b s pl wk nm : Int} (h : LandOk d t b s) (hw : 1 ≤ wk ∧ wk ≤ 20) (hno : ∀ g, ¬ Gap (has d t b s pl wk nm) g) (z : Int) : ¬ has d t b s pl wk nm z := by
  have R := rnd_has (pl := pl) (nm := nm) h hw 0
  refine (R.ne.mp ?_) z
  cases e : flt (hasB d t b s pl wk nm) 0 (turnOf d t b wk).toNat with
  | nil => rfl
  | cons x xs =>
    rw [e] at R
    have hg : ∃ g, g ∈ difs (rnd (turnOf d t b wk) (x :: xs)) := by
      cases xs with
      | nil => exact ⟨_, by simp [rnd, difs]; rfl⟩
      | cons y ys => exact ⟨y - x, by simp [rnd, difs]⟩
    obtain ⟨g, hg⟩ := hg
    exact absurd ((R.gap g).mp hg) (hno g)
theorem plain_fday (d y : Int) : fday d 0 1 5 y = d * y + 5 := by unfold fday; simp
theorem plain_yof {d : Int} (h : 1 ≤ d) : yof d 0 1 5 4 = -1 := by
  unfold yof
  rw [show d * 1 + 0 = d by omega, show ((4 + 1) * 1 - 5 - 1 : Int) = -1 by decide]
  refine Int.le_antisymm ?_ ?_
  · have : (-1 : Int) / d < 0 := Int.ediv_neg_of_neg_of_pos (by decide) (by omega)
    omega
  · exact Int.le_ediv_of_mul_le (by omega) (by omega)
end Ly
namespace Ly
/-! ### lands told back -/
def mx : List Int → Int
  | [] => 0
  | [x] => x
  | x :: r => max x (mx r)
def mn : List Int → Int
  | [] => 0
  | [x] => x
  | x :: r => min x (mn r)
theorem mx_is : ∀ {ns : List Int}, ns ≠ [] → mx ns ∈ ns ∧ ∀ y ∈ ns, y ≤ mx ns
  | [], h => absurd rfl h
  | [x], _ => ⟨by simp [mx], by simp [mx]⟩
  | x :: z :: r, _ => by
    have ⟨h1, h2⟩ := mx_is (ns := z :: r) (by simp)
    show max x (mx (z :: r)) ∈ _ ∧ _
    refine ⟨?_, fun y hy => ?_⟩
    · by_cases c : x ≤ mx (z :: r)
      · rw [Int.max_eq_right c]; exact List.mem_cons_of_mem _ h1
      · rw [Int.max_eq_left (by omega)]; exact List.mem_cons_self ..
    · show y ≤ max x (mx (z :: r))
      rcases List.mem_cons.mp hy with e | e
      · omega
      · have := h2 y e; omega
theorem mn_is : ∀ {ns : List Int}, ns ≠ [] → mn ns ∈ ns ∧ ∀ y ∈ ns, mn ns ≤ y
  | [], h => absurd rfl h
  | [x], _ => ⟨by simp [mn], by simp [mn]⟩
  | x :: z :: r, _ => by
    have ⟨h1, h2⟩ := mn_is (ns := z :: r) (by simp)
    show min x (mn (z :: r)) ∈ _ ∧ _
    refine ⟨?_, fun y hy => ?_⟩
    · by_cases c : x ≤ mn (z :: r)
      · rw [Int.min_eq_left c]; exact List.mem_cons_self ..
      · rw [Int.min_eq_right (by omega)]; exact List.mem_cons_of_mem _ h1
    · show min x (mn (z :: r)) ≤ y
      rcases List.mem_cons.mp hy with e | e
      · omega
      · have := h2 y e; omega
theorem mx_eq {ns : List Int} {m : Int} (h : m ∈ ns) (k : ∀ y ∈ ns, y ≤ m) : m = mx ns := by
  have ⟨h1, h2⟩ := mx_is (ns := ns) (by rintro rfl; simp at h)
  have := h2 m h
  have := k _ h1
  omega
theorem mn_eq {ns : List Int} {m : Int} (h : m ∈ ns) (k : ∀ y ∈ ns, m ≤ y) : m = mn ns := by
  have ⟨h1, h2⟩ := mn_is (ns := ns) (by rintro rfl; simp at h)
  have := h2 m h
  have := k _ h1
  omega
abbrev Rw := List (Int × Int)
def lowB (R : Rw) (st b : Int) : List Int := R.map fun r => r.2 * b - st * r.1
def highB (R : Rw) (st b : Int) : List Int := R.map fun r => r.2 * b + b - 1 - st * r.1
def byL (R : Rw) (d t b : Int) : List (List Int) :=
  (List.range (mn (highB R (d * b + t) b) + 1 - mx (lowB R (d * b + t) b)).toNat).map fun i : Nat => [d, t, b, mx (lowB R (d * b + t) b) + i]
def topsL (R : Rw) (d b : Int) (k : Nat) : List (List Int) := (List.range k).flatMap fun t : Nat => if gcdI b t = 1 then byL R d t b else []
def botsL (R : Rw) (d : Int) (k : Nat) : List (List Int) := (List.range k).flatMap fun j : Nat => topsL R d (1 + j) (1 + j)
def daysL (R : Rw) (most : Nat) (lo : Int) (k : Nat) : List (List Int) := (List.range k).flatMap fun j : Nat => botsL R (lo + j) most
def nearOf (R : Rw) : Int := match R.head?, R.getLast? with
  | some a, some z => (z.2 - a.2) / (z.1 - a.1)
  | _, _ => 0
def landsL (R : Rw) (most : Int) : List (List Int) := daysL R most.toNat (max 1 (nearOf R - 2)) (min 400 (nearOf R + 2) + 1 - max 1 (nearOf R - 2)).toNat
theorem flat_succ {α : Type} (f : Nat → List α) (k : Nat) : (List.range (k + 1)).flatMap f = (List.range k).flatMap f ++ f k := by
  rw [List.range_succ, List.flatMap_append]; simp
theorem begins {d t b s y n : Int} (hb : 1 ≤ b) : fday d t b s y = n ↔ n * b - (d * b + t) * y ≤ s ∧ s ≤ n * b + b - 1 - (d * b + t) * y := by
  unfold fday
  generalize (d * b + t) * y = x
  constructor
  · rintro rfl
    have h1 := Int.emod_nonneg (x + s) (show b ≠ 0 by omega)
    have h2 := Int.emod_lt_of_pos (x + s) (show 0 < b by omega)
    have h3 := Int.emod_add_mul_ediv (x + s) b
    have h4 := Int.mul_comm b ((x + s) / b)
    omega
  · rintro ⟨h1, h2⟩
    have e : x + s = (x + s - n * b) + n * b := by omega
    rw [e, Int.add_mul_ediv_right _ _ (by omega), Int.ediv_eq_zero_of_lt (by omega) (by omega)]
    omega
theorem mem_byL {R : Rw} {d t b : Int} (hR : R ≠ []) (hb : 1 ≤ b) {L : List Int} : L ∈ byL R d t b ↔ ∃ s, L = [d, t, b, s] ∧ ∀ r ∈ R, fday d t b s r.1 = r.2 := by
  have l1 : lowB R (d * b + t) b ≠ [] := by unfold lowB; simpa using hR
  have l2 : highB R (d * b + t) b ≠ [] := by unfold highB; simpa using hR
  have ⟨a1, a2⟩ := mx_is l1
  have ⟨b1, b2⟩ := mn_is l2
  unfold byL
  rw [List.mem_map]
  constructor
  · rintro ⟨i, hi, rfl⟩
    refine ⟨_, rfl, fun r hr => (begins hb).mpr ?_⟩
    have h1 := a2 _ (List.mem_map.mpr ⟨r, hr, rfl⟩)
    have h2 := b2 _ (List.mem_map.mpr ⟨r, hr, rfl⟩)
    have h3 := List.mem_range.mp hi
    omega
  · rintro ⟨s, rfl, h⟩
    have h1 : mx (lowB R (d * b + t) b) ≤ s := by
      obtain ⟨r, hr, e⟩ := List.mem_map.mp a1
      have := (begins hb).mp (h r hr)
      omega
    have h2 : s ≤ mn (highB R (d * b + t) b) := by
      obtain ⟨r, hr, e⟩ := List.mem_map.mp b1
      have := (begins hb).mp (h r hr)
      omega
    refine ⟨(s - mx (lowB R (d * b + t) b)).toNat, List.mem_range.mpr (by omega), ?_⟩
    congr 3
    simp only [List.cons.injEq, and_true]
    omega
theorem byL_len {R : Rw} {d t b : Int} (hR : R ≠ []) (hb : 1 ≤ b) : (byL R d t b).length ≤ b.toNat := by
  have l1 : lowB R (d * b + t) b ≠ [] := by unfold lowB; simpa using hR
  have l2 : highB R (d * b + t) b ≠ [] := by unfold highB; simpa using hR
  have ⟨_, a2⟩ := mx_is l1
  have ⟨_, b2⟩ := mn_is l2
  unfold byL
  rw [List.length_map, List.length_range]
  obtain ⟨r, hr⟩ := List.exists_mem_of_ne_nil R hR
  have h1 := a2 _ (List.mem_map.mpr ⟨r, hr, rfl⟩)
  have h2 := b2 _ (List.mem_map.mpr ⟨r, hr, rfl⟩)
  omega
theorem flatN_len {α : Type} {f : Nat → List α} {m : Nat} : ∀ {k : Nat}, (∀ i, i < k → (f i).length ≤ m) → ((List.range k).flatMap f).length ≤ k * m
  | 0, _ => by simp
  | k + 1, h => by
    rw [flat_succ, List.length_append, Nat.succ_mul]
    have := flatN_len (k := k) fun i hi => h i (by omega)
    have := h k (by omega)
    omega
theorem topsL_len {R : Rw} {d b : Int} (hR : R ≠ []) (hb : 1 ≤ b) (hB : b ≤ 12) {k : Nat} (hk : k ≤ 12) : (topsL R d b k).length ≤ 144 := by
  have := flatN_len (f := fun t : Nat => if gcdI b t = 1 then byL R d t b else []) (m := 12) (k := k) fun i _ => by
    split
    · have := byL_len (d := d) (t := (i : Int)) hR hb; omega
    · exact Nat.zero_le _
  unfold topsL
  have : k * 12 ≤ 12 * 12 := Nat.mul_le_mul_right _ hk
  omega
theorem botsL_len {R : Rw} {d : Int} (hR : R ≠ []) {k : Nat} (hk : k ≤ 12) : (botsL R d k).length ≤ 1728 := by
  have := flatN_len (f := fun j : Nat => topsL R d (1 + j) (1 + j)) (m := 144) (k := k) fun i hi => topsL_len hR (by omega) (by omega) (by omega)
  unfold botsL
  have : k * 144 ≤ 12 * 144 := Nat.mul_le_mul_right _ hk
  omega
theorem daysL_len {R : Rw} {lo : Int} {most : Nat} (hR : R ≠ []) (hm : most ≤ 12) {k : Nat} (hk : k ≤ 6) : (daysL R most lo k).length ≤ 10368 := by
  have := flatN_len (f := fun j : Nat => botsL R (lo + j) most) (m := 1728) (k := k) fun i hi => botsL_len hR hm
  unfold daysL
  have : k * 1728 ≤ 6 * 1728 := Nat.mul_le_mul_right _ hk
  omega
theorem mem_topsL {R : Rw} {d b : Int} {k : Nat} (hR : R ≠ []) (hb : 1 ≤ b) {L : List Int} : L ∈ topsL R d b k ↔ ∃ t s : Int, 0 ≤ t ∧ t < k ∧ gcdI b t = 1 ∧ L = [d, t, b, s] ∧ ∀ r ∈ R, fday d t b s r.1 = r.2 := by
  unfold topsL
  rw [List.mem_flatMap]
  constructor
  · rintro ⟨t, ht, h⟩
    split at h
    · rename_i g
      obtain ⟨s, e, h⟩ := (mem_byL hR hb).mp h
      exact ⟨t, s, by omega, by have := List.mem_range.mp ht; omega, g, e, h⟩
    · exact absurd h (by simp)
  · rintro ⟨t, s, h0, h1, g, e, h⟩
    obtain ⟨n, rfl⟩ : ∃ n : Nat, t = n := ⟨t.toNat, by omega⟩
    exact ⟨n, List.mem_range.mpr (by omega), by rw [if_pos g]; exact (mem_byL hR hb).mpr ⟨s, e, h⟩⟩
theorem mem_botsL {R : Rw} {d : Int} {k : Nat} (hR : R ≠ []) {L : List Int} : L ∈ botsL R d k ↔ ∃ t b s : Int, 1 ≤ b ∧ b ≤ k ∧ 0 ≤ t ∧ t < b ∧ gcdI b t = 1 ∧ L = [d, t, b, s] ∧ ∀ r ∈ R, fday d t b s r.1 = r.2 := by
  unfold botsL
  rw [List.mem_flatMap]
  constructor
  · rintro ⟨j, hj, h⟩
    obtain ⟨t, s, h0, h1, g, e, h⟩ := (mem_topsL hR (by omega)).mp h
    exact ⟨t, 1 + j, s, by omega, by have := List.mem_range.mp hj; omega, h0, by omega, g, e, h⟩
  · rintro ⟨t, b, s, b1, b2, h0, h1, g, e, h⟩
    obtain ⟨n, rfl⟩ : ∃ n : Nat, b = 1 + (n : Int) := ⟨(b - 1).toNat, by omega⟩
    exact ⟨n, List.mem_range.mpr (by omega), (mem_topsL hR (by omega)).mpr ⟨t, s, h0, by omega, g, e, h⟩⟩
theorem mem_daysL {R : Rw} {lo : Int} {most k : Nat} (hR : R ≠ []) {L : List Int} : L ∈ daysL R most lo k ↔ ∃ d t b s : Int, lo ≤ d ∧ d < lo + k ∧ 1 ≤ b ∧ b ≤ most ∧ 0 ≤ t ∧ t < b ∧ gcdI b t = 1 ∧ L = [d, t, b, s] ∧ ∀ r ∈ R, fday d t b s r.1 = r.2 := by
  unfold daysL
  rw [List.mem_flatMap]
  constructor
  · rintro ⟨j, hj, h⟩
    obtain ⟨t, b, s, b1, b2, h⟩ := (mem_botsL hR).mp h
    exact ⟨lo + j, t, b, s, by omega, by have := List.mem_range.mp hj; omega, b1, b2, h⟩
  · rintro ⟨d, t, b, s, d1, d2, h⟩
    obtain ⟨n, rfl⟩ : ∃ n : Nat, d = lo + (n : Int) := ⟨(d - lo).toNat, by omega⟩
    exact ⟨n, List.mem_range.mpr (by omega), (mem_botsL hR).mpr ⟨t, b, s, h⟩⟩
/-- what begins all -/
def Tells (R : Rw) (most : Int) (L : List Int) : Prop := ∃ d t b s : Int, 1 ≤ d ∧ d ≤ 400 ∧ 1 ≤ b ∧ b ≤ most ∧ 0 ≤ t ∧ t < b ∧ gcdI b t = 1 ∧ L = [d, t, b, s] ∧ ∀ r ∈ R, fday d t b s r.1 = r.2
theorem mul_lt_of {a b c : Int} (hb : 1 ≤ b) (h : a * b < c * b) : a < c := Int.lt_of_mul_lt_mul_right h (by omega)
/-- the days of a land that begins two years lie near -/
theorem near_of {d t b s y n y' n' : Int} (hb : 1 ≤ b) (ht : 0 ≤ t ∧ t < b) (hy : y < y') (h1 : fday d t b s y = n) (h2 : fday d t b s y' = n') : d ≤ (n' - n) / (y' - y) ∧ (n' - n) / (y' - y) ≤ d + 1 := by
  have a := (begins hb).mp h1
  have c := (begins hb).mp h2
  have e1 : (d * b + t) * y' - (d * b + t) * y = (d * b + t) * (y' - y) := by rw [Int.mul_sub]
  have e2 : (d * b + t) * (y' - y) = d * (y' - y) * b + t * (y' - y) := by
    rw [Int.add_mul, Int.mul_assoc, Int.mul_comm b, ← Int.mul_assoc]
  have e3 : n' * b - n * b = (n' - n) * b := by rw [Int.sub_mul]
  have f1 : 0 ≤ t * (y' - y) := Int.mul_nonneg ht.1 (by omega)
  have f2 : t * (y' - y) ≤ b * (y' - y) - (y' - y) := by
    have := Int.mul_le_mul_of_nonneg_right (show t ≤ b - 1 by omega) (show 0 ≤ y' - y by omega)
    rw [Int.sub_mul, Int.one_mul] at this
    exact this
  have f3 : (d + 1) * (y' - y) * b = d * (y' - y) * b + b * (y' - y) := by
    rw [Int.add_mul, Int.one_mul, Int.add_mul, Int.mul_comm b]
  have g1 : d * (y' - y) - 1 < n' - n := by
    refine mul_lt_of hb ?_
    rw [Int.sub_mul, Int.one_mul]
    omega
  have g2 : n' - n < (d + 1) * (y' - y) + 1 := by
    refine mul_lt_of hb ?_
    rw [Int.add_mul, Int.one_mul, f3]
    omega
  constructor
  · exact Int.le_ediv_of_mul_le (by omega) (by omega)
  · have : (n' - n) / (y' - y) < d + 1 + 1 := Int.ediv_lt_of_lt_mul (by omega) (by
      rw [Int.add_mul (d + 1), Int.one_mul]
      omega)
    omega
theorem mem_landsL {R : Rw} {most : Int} (h2 : 2 ≤ R.length) (hp : R.Pairwise fun a b => a.1 < b.1) {L : List Int} : L ∈ landsL R most ↔ Tells R most L := by
  have hR : R ≠ [] := by rintro rfl; simp at h2
  obtain ⟨x, r, rfl⟩ : ∃ x r, R = x :: r := by cases R with | nil => exact absurd rfl hR | cons x r => exact ⟨x, r, rfl⟩
  have hr : r ≠ [] := by rintro rfl; simp at h2
  obtain ⟨z, hz⟩ : ∃ z, (x :: r).getLast? = some z := ⟨_, List.getLast?_eq_some_getLast hR⟩
  have hzr : z ∈ r := by
    have : (x :: r).getLast? = r.getLast? := by
      cases r with
      | nil => exact absurd rfl hr
      | cons y q => rw [List.getLast?_cons_cons]
    rw [this] at hz
    exact List.mem_of_getLast? hz
  have hxz : x.1 < z.1 := (List.pairwise_cons.mp hp).1 z hzr
  have en : nearOf (x :: r) = (z.2 - x.2) / (z.1 - x.1) := by
    unfold nearOf
    rw [hz]
    rfl
  unfold landsL Tells
  rw [mem_daysL hR]
  constructor
  · rintro ⟨d, t, b, s, d1, d2, b1, b2, h⟩
    exact ⟨d, t, b, s, by omega, by omega, b1, by omega, h⟩
  · rintro ⟨d, t, b, s, d1, d2, b1, b2, t1, t2, g, e, h⟩
    have := near_of b1 ⟨t1, t2⟩ hxz (h x (List.mem_cons_self ..)) (h z (List.mem_cons_of_mem _ hzr))
    rw [← en] at this
    exact ⟨d, t, b, s, by omega, by omega, b1, by omega, t1, t2, g, e, h⟩
/-! ### none twice -/
theorem flat_nodup {α : Type} {f : Nat → List α} (g : α → Int) : ∀ {k : Nat}, (∀ i, i < k → (f i).Nodup) → (∀ i x, i < k → x ∈ f i → g x = (i : Int)) → ((List.range k).flatMap f).Nodup
  | 0, _, _ => by simp
  | k + 1, h1, h2 => by
    rw [flat_succ, List.nodup_append]
    refine ⟨flat_nodup g (fun i hi => h1 i (by omega)) (fun i x hi => h2 i x (by omega)), h1 k (by omega), fun x hx y hy e => ?_⟩
    subst e
    obtain ⟨i, hi, hx⟩ := List.mem_flatMap.mp hx
    have hi := List.mem_range.mp hi
    have a := h2 i x (by omega) hx
    have b := h2 k x (by omega) hy
    omega
theorem map_nodup {α β : Type} {f : α → β} (hf : ∀ a b, f a = f b → a = b) {l : List α} (h : l.Nodup) : (l.map f).Nodup := by
  unfold List.Nodup at *
  rw [List.pairwise_map]
  exact h.imp fun {a b} n e => n (hf a b e)
theorem byL_nodup {R : Rw} {d t b : Int} : (byL R d t b).Nodup := by
  unfold byL
  refine map_nodup (fun a b e => ?_) List.nodup_range
  simp only [List.cons.injEq, and_true, true_and] at e
  omega
theorem landsL_nodup {R : Rw} {most : Int} (hR : R ≠ []) : (landsL R most).Nodup := by
  unfold landsL daysL
  refine flat_nodup (fun L => L.getD 0 0 - max 1 (nearOf R - 2)) (fun i _ => ?_) (fun i L hi hL => ?_)
  · unfold botsL
    refine flat_nodup (fun L => L.getD 2 0 - 1) (fun j _ => ?_) (fun j L hj hL => ?_)
    · unfold topsL
      refine flat_nodup (fun L => L.getD 1 0) (fun k _ => ?_) (fun k L hk hL => ?_)
      · split
        · exact byL_nodup
        · exact List.nodup_nil
      · split at hL
        · obtain ⟨s, rfl, _⟩ := (mem_byL hR (by omega)).mp hL
          rfl
        · exact absurd hL (by simp)
    · obtain ⟨t, s, _, _, _, rfl, _⟩ := (mem_topsL hR (by omega)).mp hL
      show (1 + (j : Int)) - 1 = j
      omega
  · obtain ⟨t, b, s, _, _, _, _, _, rfl, _⟩ := (mem_botsL hR).mp hL
    show max 1 (nearOf R - 2) + (i : Int) - max 1 (nearOf R - 2) = i
    omega
/-! ### the order of tuples -/
def lexL : List Int → List Int → Bool
  | _, [] => false
  | [], _ :: _ => true
  | x :: r, y :: q => if x = y then lexL r q else decide (x < y)
theorem lexL_asym : ∀ x y : List Int, lexL x y = true → lexL y x = false
  | _, [], h => by simp [lexL] at h
  | [], y :: q, _ => by simp [lexL]
  | x :: r, y :: q, h => by
    unfold lexL at h ⊢
    by_cases e : x = y
    · subst e
      rw [if_pos rfl] at h ⊢
      exact lexL_asym r q h
    · rw [if_neg e] at h
      rw [if_neg (Ne.symm e)]
      have := of_decide_eq_true h
      exact decide_eq_false (by omega)
theorem lexL_tr : ∀ x y z : List Int, lexL y x = false → lexL z y = false → lexL z x = false
  | [], y, z, _, _ => by cases z <;> simp [lexL]
  | x :: r, [], z, h, _ => by simp [lexL] at h
  | x :: r, y :: q, [], _, h => by simp [lexL] at h
  | x :: r, y :: q, z :: p, h1, h2 => by
    unfold lexL at h1 h2 ⊢
    by_cases e : y = x
    · by_cases e' : z = y
      · subst e; subst e'
        rw [if_pos rfl] at h1 h2 ⊢
        exact lexL_tr r q p h1 h2
      · subst e
        rw [if_neg e'] at h2 ⊢
        exact h2
    · rw [if_neg e] at h1
      have a := of_decide_eq_false h1
      by_cases e' : z = y
      · subst e'
        rw [if_neg e]
        exact h1
      · rw [if_neg e'] at h2
        have b := of_decide_eq_false h2
        rw [if_neg (by omega)]
        exact decide_eq_false (by omega)
theorem lexL_tot : ∀ x y : List Int, lexL x y = false → lexL y x = false → x = y
  | [], [], _, _ => rfl
  | [], y :: q, h, _ => by simp [lexL] at h
  | x :: r, [], _, h => by simp [lexL] at h
  | x :: r, y :: q, h1, h2 => by
    unfold lexL at h1 h2
    by_cases e : x = y
    · subst e
      rw [if_pos rfl] at h1 h2
      rw [lexL_tot r q h1 h2]
    · rw [if_neg e] at h1
      rw [if_neg (Ne.symm e)] at h2
      have a := of_decide_eq_false h1
      have b := of_decide_eq_false h2
      omega
theorem lexL_refl (x : List Int) : lexL x x = false := by
  cases h : lexL x x with
  | false => rfl
  | true => rw [lexL_asym x x h] at h; cases h
/-- two sorted lists without doubles that have the same members are the same -/
theorem lex_uniq : ∀ {l m : List (List Int)}, l.Pairwise (fun a b => lexL b a = false) → m.Pairwise (fun a b => lexL b a = false) → l.Nodup → m.Nodup → (∀ x, x ∈ l ↔ x ∈ m) → l = m
  | [], [], _, _, _, _, _ => rfl
  | [], y :: m, _, _, _, _, h => absurd ((h y).mpr (List.mem_cons_self ..)) (by simp)
  | x :: l, [], _, _, _, _, h => absurd ((h x).mp (List.mem_cons_self ..)) (by simp)
  | x :: l, y :: m, h1, h2, n1, n2, h => by
    rw [List.pairwise_cons] at h1 h2
    unfold List.Nodup at n1 n2
    rw [List.pairwise_cons] at n1 n2
    have e : x = y := by
      rcases List.mem_cons.mp ((h x).mp (List.mem_cons_self ..)) with e | e
      · exact e
      · rcases List.mem_cons.mp ((h y).mpr (List.mem_cons_self ..)) with e' | e'
        · exact e'.symm
        · exact lexL_tot x y (h2.1 x e) (h1.1 y e')
    subst e
    rw [lex_uniq h1.2 h2.2 n1.2 n2.2 fun z => ?_]
    constructor
    · intro hz
      rcases List.mem_cons.mp ((h z).mp (List.mem_cons_of_mem _ hz)) with e | e
      · exact absurd e.symm (n1.1 z hz)
      · exact e
    · intro hz
      rcases List.mem_cons.mp ((h z).mpr (List.mem_cons_of_mem _ hz)) with e | e
      · exact absurd e.symm (n2.1 z hz)
      · exact e
theorem told_one : landsL [(9999, -1000000), (10000, -999600)] 1 = [[400, 0, 1, -4999600]] := by decide +kernel
end Ly
set_option Elab.async false
set_option linter.all false
set_option maxRecDepth 100000
set_option maxHeartbeats 4000000
/-! long years counted, the first one: plain mathematics -/
namespace Ly
def lngB (t b s z : Int) : Bool := decide (tof t b s (z + 1) = tof t b s z + 1)
theorem lngB_iff {t b s z : Int} : lngB t b s z = true ↔ Lng t b s z := by unfold lngB Lng; exact decide_eq_true_iff
theorem lngB_len {d t b s : Int} (h : LandOk d t b s) (z : Int) : decide (d < fday d t b s (z + 1) - fday d t b s z) = lngB t b s z := by
  unfold lngB
  have := flen h z
  rcases tof_step h z with e | e
  · rw [decide_eq_false (by omega), decide_eq_false (by omega)]
  · rw [decide_eq_true (by omega), decide_eq_true e]
theorem lng_per {d t b s : Int} (h : LandOk d t b s) : Per (Lng t b s) b := fun z k => by
  have hb := h.b
  have tr : ∀ y, tof t b s (y + b * k) = tof t b s y + t * k := fun y => by
    unfold tof
    have e : t * (y + b * k) + s = (t * y + s) + b * (t * k) := by
      rw [Int.mul_add, ← Int.mul_assoc, Int.mul_comm t b, Int.mul_assoc]; omega
    rw [e, Int.add_mul_ediv_left _ _ (by omega)]
  unfold Lng
  rw [show z + b * k + 1 = (z + 1) + b * k by omega, tr, tr]
  omega
theorem lng_cnt {d t b s : Int} (h : LandOk d t b s) (y : Int) : ∀ n : Nat, tof t b s (y + n) - tof t b s y = cnt (lngB t b s) y n
  | 0 => by simp [cnt]
  | n + 1 => by
    have ih := lng_cnt h y n
    have e : y + ((n + 1 : Nat) : Int) = y + n + 1 := by omega
    unfold cnt
    rw [← ih, e]
    rcases tof_step h (y + n) with q | q
    · rw [if_neg (by unfold lngB; rw [decide_eq_false (by omega)]; decide)]; omega
    · rw [if_pos (by unfold lngB; exact decide_eq_true q)]; omega
/-- the first of those that come again behind T lies in any T or more of them -/
theorem flt_head {p : Int → Bool} {T y : Int} {n : Nat} (per : Per (fun z => p z = true) T) (hT : 1 ≤ T) (hn : T ≤ n) : (flt p y n = [] → ∀ z, ¬ p z = true) ∧ ∀ m r, flt p y n = m :: r → Fst (fun z => p z = true) y m := by
  constructor
  · intro e z hz
    have h0 := Int.emod_nonneg (z - y) (show T ≠ 0 by omega)
    have h1 := Int.emod_lt_of_pos (z - y) (show 0 < T by omega)
    have h2 := Int.emod_add_mul_ediv (z - y) T
    have : y + (z - y) % T ∈ flt p y n := mem_flt.mpr ⟨by omega, by omega, by
      have := (per (y + (z - y) % T) ((z - y) / T)).mp (by rw [show y + (z - y) % T + T * ((z - y) / T) = z by omega]; exact hz)
      exact this⟩
    rw [e] at this
    exact absurd this (by simp)
  · intro m r e
    have hm := mem_flt.mp (show m ∈ flt p y n by rw [e]; exact List.mem_cons_self ..)
    refine ⟨hm.1, hm.2.2, fun z hz pz => ?_⟩
    by_cases c : z < y + n
    · have hz' : z ∈ flt p y n := mem_flt.mpr ⟨hz, c, pz⟩
      rw [e] at hz'
      have inc := flt_inc (p := p) (a := y) (n := n)
      rw [e] at inc
      rcases List.mem_cons.mp hz' with q | q
      · omega
      · have := (List.pairwise_cons.mp inc).1 z q; omega
    · omega
/-- those below a line -/
theorem flt_below {p : Int → Bool} {y : Int} {n m : Nat} (h : m ≤ n) : (flt p y n).filter (fun z => decide (z < y + m)) = flt p y m := by
  refine pw_ext ((flt_inc (p := p) (a := y) (n := n)).filter _) flt_inc fun z => ?_
  rw [List.mem_filter, mem_flt, mem_flt, decide_eq_true_iff]
  constructor
  · rintro ⟨⟨a, b, c⟩, d⟩; exact ⟨a, by omega, c⟩
  · rintro ⟨a, b, c⟩; exact ⟨⟨a, by omega, c⟩, by omega⟩
end Ly
set_option Elab.async false
set_option linter.all false
set_option maxRecDepth 100000
set_option maxHeartbeats 4000000
/-! lands told back, by looking through all: plain mathematics -/
namespace Ly
def begB (R : Rw) (d t b s : Int) : Bool := R.all fun r => decide (fday d t b s r.1 = r.2)
theorem begB_iff {R : Rw} {d t b s : Int} : begB R d t b s = true ↔ ∀ r ∈ R, fday d t b s r.1 = r.2 := by
  unfold begB
  rw [List.all_eq_true]
  exact ⟨fun h r hr => of_decide_eq_true (h r hr), fun h r hr => decide_eq_true (h r hr)⟩
/-- the first and the last row let a land's step -/
def fitB (a z : Int × Int) (d t b : Int) : Bool := decide ((if (z.2 - a.2) * b - (d * b + t) * (z.1 - a.1) < 0 then -((z.2 - a.2) * b - (d * b + t) * (z.1 - a.1)) else (z.2 - a.2) * b - (d * b + t) * (z.1 - a.1)) < 2 * b)
def lowL (a : Int × Int) (d t b : Int) : Int := a.2 * b - (d * b + t) * a.1
def manyL (a z : Int × Int) (d t b : Int) : Nat := (b * (if fitB a z d t b = true then 1 else 0)).toNat
def shL (R : Rw) (a : Int × Int) (d t b : Int) (k : Nat) : List (List Int) := (List.range k).flatMap fun i : Nat => if (begB R d t b (lowL a d t b + i) && decide (gcdI b t = 1)) = true then [[d, t, b, lowL a d t b + i]] else []
def tpL (R : Rw) (a z : Int × Int) (d b : Int) (k : Nat) : List (List Int) := (List.range k).flatMap fun t : Nat => shL R a d t b (manyL a z d t b)
def btL (R : Rw) (a z : Int × Int) (d : Int) (k : Nat) : List (List Int) := (List.range k).flatMap fun j : Nat => tpL R a z d (1 + j) (1 + j)
def dyL (R : Rw) (a z : Int × Int) (most k : Nat) : List (List Int) := (List.range k).flatMap fun j : Nat => btL R a z (1 + j) most
theorem mem_shL {R : Rw} {a : Int × Int} {d t b : Int} {k : Nat} {L : List Int} : L ∈ shL R a d t b k ↔ ∃ s, lowL a d t b ≤ s ∧ s < lowL a d t b + k ∧ gcdI b t = 1 ∧ L = [d, t, b, s] ∧ ∀ r ∈ R, fday d t b s r.1 = r.2 := by
  unfold shL
  rw [List.mem_flatMap]
  constructor
  · rintro ⟨i, hi, h⟩
    have hi := List.mem_range.mp hi
    split at h
    · rename_i c
      rw [Bool.and_eq_true, begB_iff, decide_eq_true_iff] at c
      rw [List.mem_singleton] at h
      exact ⟨_, by omega, by omega, c.2, h, c.1⟩
    · exact absurd h (by simp)
  · rintro ⟨s, h1, h2, g, e, h⟩
    refine ⟨(s - lowL a d t b).toNat, List.mem_range.mpr (by omega), ?_⟩
    rw [show lowL a d t b + ((s - lowL a d t b).toNat : Int) = s by omega, if_pos (by rw [Bool.and_eq_true, begB_iff, decide_eq_true_iff]; exact ⟨h, g⟩), List.mem_singleton]
    exact e
theorem mem_tpL {R : Rw} {a z : Int × Int} {d b : Int} {k : Nat} {L : List Int} : L ∈ tpL R a z d b k ↔ ∃ t s : Int, 0 ≤ t ∧ t < k ∧ lowL a d t b ≤ s ∧ s < lowL a d t b + manyL a z d t b ∧ gcdI b t = 1 ∧ L = [d, t, b, s] ∧ ∀ r ∈ R, fday d t b s r.1 = r.2 := by
  unfold tpL
  rw [List.mem_flatMap]
  constructor
  · rintro ⟨t, ht, h⟩
    obtain ⟨s, h⟩ := mem_shL.mp h
    exact ⟨t, s, by omega, by have := List.mem_range.mp ht; omega, h⟩
  · rintro ⟨t, s, h0, h1, h⟩
    obtain ⟨n, rfl⟩ : ∃ n : Nat, t = n := ⟨t.toNat, by omega⟩
    exact ⟨n, List.mem_range.mpr (by omega), mem_shL.mpr ⟨s, h⟩⟩
theorem mem_btL {R : Rw} {a z : Int × Int} {d : Int} {k : Nat} {L : List Int} : L ∈ btL R a z d k ↔ ∃ t b s : Int, 1 ≤ b ∧ b ≤ k ∧ 0 ≤ t ∧ t < b ∧ lowL a d t b ≤ s ∧ s < lowL a d t b + manyL a z d t b ∧ gcdI b t = 1 ∧ L = [d, t, b, s] ∧ ∀ r ∈ R, fday d t b s r.1 = r.2 := by
  unfold btL
  rw [List.mem_flatMap]
  constructor
  · rintro ⟨j, hj, h⟩
    obtain ⟨t, s, h0, h1, h⟩ := mem_tpL.mp h
    exact ⟨t, 1 + j, s, by omega, by have := List.mem_range.mp hj; omega, h0, by omega, h⟩
  · rintro ⟨t, b, s, b1, b2, h0, h1, h⟩
    obtain ⟨n, rfl⟩ : ∃ n : Nat, b = 1 + (n : Int) := ⟨(b - 1).toNat, by omega⟩
    exact ⟨n, List.mem_range.mpr (by omega), mem_tpL.mpr ⟨t, s, h0, by omega, h⟩⟩
theorem mem_dyL {R : Rw} {a z : Int × Int} {most k : Nat} {L : List Int} : L ∈ dyL R a z most k ↔ ∃ d t b s : Int, 1 ≤ d ∧ d ≤ k ∧ 1 ≤ b ∧ b ≤ most ∧ 0 ≤ t ∧ t < b ∧ lowL a d t b ≤ s ∧ s < lowL a d t b + manyL a z d t b ∧ gcdI b t = 1 ∧ L = [d, t, b, s] ∧ ∀ r ∈ R, fday d t b s r.1 = r.2 := by
  unfold dyL
  rw [List.mem_flatMap]
  constructor
  · rintro ⟨j, hj, h⟩
    obtain ⟨t, b, s, h⟩ := mem_btL.mp h
    exact ⟨1 + j, t, b, s, by omega, by have := List.mem_range.mp hj; omega, h⟩
  · rintro ⟨d, t, b, s, d1, d2, h⟩
    obtain ⟨n, rfl⟩ : ∃ n : Nat, d = 1 + (n : Int) := ⟨(d - 1).toNat, by omega⟩
    exact ⟨n, List.mem_range.mpr (by omega), mem_btL.mpr ⟨t, b, s, h⟩⟩
theorem dyL_nodup {R : Rw} {a z : Int × Int} {most k : Nat} : (dyL R a z most k).Nodup := by
  unfold dyL
  refine flat_nodup (fun L => L.getD 0 0 - 1) (fun i _ => ?_) (fun i L hi hL => ?_)
  · unfold btL
    refine flat_nodup (fun L => L.getD 2 0 - 1) (fun j _ => ?_) (fun j L hj hL => ?_)
    · unfold tpL
      refine flat_nodup (fun L => L.getD 1 0) (fun t _ => ?_) (fun t L ht hL => ?_)
      · unfold shL
        refine flat_nodup (fun L => L.getD 3 0 - lowL a (1 + i) t (1 + j)) (fun s _ => ?_) (fun s L hs hL => ?_)
        · split
          · simp
          · exact List.nodup_nil
        · split at hL
          · rw [List.mem_singleton] at hL
            subst hL
            show lowL a (1 + i) t (1 + j) + (s : Int) - lowL a (1 + i) t (1 + j) = s
            omega
          · exact absurd hL (by simp)
      · obtain ⟨s, _, _, _, rfl, _⟩ := mem_shL.mp hL
        rfl
    · obtain ⟨t, s, _, _, _, _, _, rfl, _⟩ := mem_tpL.mp hL
      show (1 + (j : Int)) - 1 = j
      omega
  · obtain ⟨t, b, s, _, _, _, _, _, _, _, rfl, _⟩ := mem_btL.mp hL
    show (1 + (i : Int)) - 1 = i
    omega
/-- what is found by looking through all is what begins all -/
theorem mem_all {R : Rw} {a z : Int × Int} {most : Int} (ha : R.head? = some a) (hz : R.getLast? = some z) (h2 : 2 ≤ R.length) (hp : R.Pairwise fun a b => a.1 < b.1) (hn : nearOf R ≤ 58) {L : List Int} : L ∈ dyL R a z most.toNat 59 ↔ Tells R most L := by
  obtain ⟨x, r, rfl⟩ : ∃ x r, R = x :: r := by cases R with | nil => simp at h2 | cons x r => exact ⟨x, r, rfl⟩
  obtain rfl : x = a := Option.some.inj ha
  have hr : r ≠ [] := by rintro rfl; simp at h2
  have hzr : z ∈ r := by
    have : (x :: r).getLast? = r.getLast? := by
      cases r with
      | nil => exact absurd rfl hr
      | cons y q => rw [List.getLast?_cons_cons]
    rw [this] at hz
    exact List.mem_of_getLast? hz
  have hxz : x.1 < z.1 := (List.pairwise_cons.mp hp).1 z hzr
  have en : nearOf (x :: r) = (z.2 - x.2) / (z.1 - x.1) := by
    unfold nearOf
    rw [hz]
    rfl
  rw [mem_dyL]
  unfold Tells
  constructor
  · rintro ⟨d, t, b, s, d1, d2, b1, b2, t1, t2, l1, l2, g, e, h⟩
    exact ⟨d, t, b, s, d1, by omega, b1, by omega, t1, t2, g, e, h⟩
  · rintro ⟨d, t, b, s, d1, d2, b1, b2, t1, t2, g, e, h⟩
    have hx := h x (List.mem_cons_self ..)
    have hzz := h z (List.mem_cons_of_mem _ hzr)
    have nr := near_of b1 ⟨t1, t2⟩ hxz hx hzz
    rw [← en] at nr
    have e1 := (begins b1).mp hx
    have e2 := (begins b1).mp hzz
    have e3 : (d * b + t) * z.1 - (d * b + t) * x.1 = (d * b + t) * (z.1 - x.1) := by rw [Int.mul_sub]
    have e4 : z.2 * b - x.2 * b = (z.2 - x.2) * b := by rw [Int.sub_mul]
    have fit : fitB x z d t b = true := by
      unfold fitB
      refine decide_eq_true ?_
      split <;> omega
    refine ⟨d, t, b, s, d1, by omega, b1, by omega, t1, t2, ?_, ?_, g, e, h⟩
    · unfold lowL; omega
    · unfold lowL manyL
      rw [if_pos fit]
      omega
end Ly
set_option Elab.async false
set_option linter.all false
set_option maxRecDepth 100000
set_option maxHeartbeats 4000000
/-! rows near to a small land's years: plain mathematics -/
namespace Ly
structure SmallL (d t b s : Int) : Prop where
  d1 : 1 ≤ d
  d2 : d ≤ 40
  t1 : 0 ≤ t
  t2 : t < b
  b1 : 1 ≤ b
  b2 : b ≤ 6
  s1 : -50 ≤ s
  s2 : s ≤ 50
structure NearR (d t b s : Int) (R : Rw) : Prop where
  l2 : 2 ≤ R.length
  l6 : R.length ≤ 6
  inc : R.Pairwise fun a b => a.1 < b.1
  nr : ∀ r ∈ R, (-1000 ≤ r.1 ∧ r.1 ≤ 1000) ∧ (fday d t b s r.1 - 1 ≤ r.2 ∧ r.2 ≤ fday d t b s r.1 + 1)
theorem mul_sq {a b c : Int} (h : 0 ≤ a) (h1 : -c ≤ b) (h2 : b ≤ c) : -(a * c) ≤ a * b ∧ a * b ≤ a * c := by
  have e1 := Int.mul_le_mul_of_nonneg_left h1 h
  have e2 := Int.mul_le_mul_of_nonneg_left h2 h
  rw [Int.mul_neg] at e1
  exact ⟨e1, e2⟩
theorem fday_small {d t b s y : Int} (h : SmallL d t b s) (h1 : -1000 ≤ y) (h2 : y ≤ 1000) : -45000 ≤ fday d t b s y ∧ fday d t b s y ≤ 45000 := by
  obtain ⟨d1, d2, t1, t2, b1, b2, s1, s2⟩ := h
  have ⟨e1, e2⟩ := (begins (d := d) (t := t) (s := s) (y := y) (n := fday d t b s y) b1).mp rfl
  generalize fday d t b s y = n at e1 e2 ⊢
  have db : d * b ≤ 40 * b := Int.mul_le_mul_of_nonneg_right d2 (by omega)
  have db0 : 0 ≤ d * b := Int.mul_nonneg (by omega) (by omega)
  have ⟨m1, m2⟩ := mul_sq (a := d * b + t) (b := y) (c := 1000) (by omega) (by omega) (by omega)
  generalize (d * b + t) * y = X at e1 e2 m1 m2
  have hb : b = 1 ∨ b = 2 ∨ b = 3 ∨ b = 4 ∨ b = 5 ∨ b = 6 := by omega
  rcases hb with rfl | rfl | rfl | rfl | rfl | rfl <;> omega
theorem NearR.rng {d t b s : Int} {R : Rw} (h : SmallL d t b s) (n : NearR d t b s R) : ∀ r ∈ R, (-1000 ≤ r.1 ∧ r.1 ≤ 1000) ∧ (-50000 ≤ r.2 ∧ r.2 ≤ 50000) := fun r hr => by
  have ⟨⟨a1, a2⟩, a3, a4⟩ := n.nr r hr
  have := fday_small h a1 a2
  exact ⟨⟨a1, a2⟩, by omega, by omega⟩
theorem NearR.near {d t b s : Int} {R : Rw} (h : SmallL d t b s) (n : NearR d t b s R) : nearOf R ≤ 58 := by
  have l2 := n.l2
  obtain ⟨d1, d2, t1, t2, b1, b2, s1, s2⟩ := h
  obtain ⟨x, r, rfl⟩ : ∃ x r, R = x :: r := by cases R with | nil => simp at l2 | cons x r => exact ⟨x, r, rfl⟩
  have hr : r ≠ [] := by rintro rfl; simp at l2
  obtain ⟨z, hz⟩ : ∃ z, (x :: r).getLast? = some z := ⟨_, List.getLast?_eq_some_getLast (by simp)⟩
  have hzr : z ∈ r := by
    have e : (x :: r).getLast? = r.getLast? := by
      cases r with
      | nil => exact absurd rfl hr
      | cons y q => rw [List.getLast?_cons_cons]
    rw [e] at hz
    exact List.mem_of_getLast? hz
  have hxz : x.1 < z.1 := (List.pairwise_cons.mp n.inc).1 z hzr
  have en : nearOf (x :: r) = (z.2 - x.2) / (z.1 - x.1) := by
    unfold nearOf
    rw [hz]
    rfl
  rw [en]
  have ⟨_, a3, a4⟩ := n.nr x (List.mem_cons_self ..)
  have ⟨_, c3, c4⟩ := n.nr z (List.mem_cons_of_mem _ hzr)
  have ⟨e1, e2⟩ := (begins (d := d) (t := t) (s := s) (y := x.1) (n := fday d t b s x.1) b1).mp rfl
  have ⟨f1, f2⟩ := (begins (d := d) (t := t) (s := s) (y := z.1) (n := fday d t b s z.1) b1).mp rfl
  generalize fday d t b s x.1 = u at a3 a4 e1 e2
  generalize fday d t b s z.1 = v at c3 c4 f1 f2
  have e3 : (d * b + t) * z.1 - (d * b + t) * x.1 = (d * b + t) * (z.1 - x.1) := by rw [Int.mul_sub]
  have db : d * b ≤ 40 * b := Int.mul_le_mul_of_nonneg_right d2 (by omega)
  have m1 : (d * b + t) * (z.1 - x.1) ≤ (41 * b) * (z.1 - x.1) := Int.mul_le_mul_of_nonneg_right (by omega) (by omega)
  have m2 : 41 * b * (z.1 - x.1) = 41 * (z.1 - x.1) * b := by ac_rfl
  have m3 : (v - u) * b = v * b - u * b := Int.sub_mul ..
  have m4 : (v - u) * b < (41 * (z.1 - x.1) + 1) * b := by rw [Int.add_mul]; omega
  have m5 := mul_lt_of b1 m4
  have : (z.2 - x.2) / (z.1 - x.1) < 59 := by
    refine Int.ediv_lt_of_lt_mul (by omega) ?_
    omega
  omega
theorem fday_least {d t b s g t' b' : Int} (hg : 1 ≤ g) (hb : 1 ≤ b') (et : t = g * t') (eb : b = g * b') (y : Int) : fday d t' b' (s / g) y = fday d t b s y := by
  unfold fday
  subst et eb
  have e : (d * (g * b') + g * t') * y + s = s + g * ((d * b' + t') * y) := by
    rw [show d * (g * b') + g * t' = g * (d * b' + t') by rw [Int.mul_add]; congr 1; ac_rfl, Int.mul_assoc, Int.add_comm]
  rw [e, ← Int.ediv_ediv_of_nonneg (by omega), Int.add_mul_ediv_left _ _ (by omega), Int.add_comm]
/-- a small land in its least form tells its own rows -/
theorem least_tells {d t b s most : Int} {R : Rw} (h : SmallL d t b s) (hm : b / gcdI b t ≤ most) (hR : ∀ r ∈ R, fday d t b s r.1 = r.2) : Tells R most [d, t / gcdI b t, b / gcdI b t, s / gcdI b t] := by
  obtain ⟨d1, d2, t1, t2, b1, b2, s1, s2⟩ := h
  have hg := gcdI_pos (a := b) (b := t) (by omega)
  have g1 := gcdI_dvd_l (a := b) (b := t) (by omega)
  have g2 := gcdI_dvd_r (a := b) (b := t) (by omega)
  have g3 := gcdI_div (a := b) (b := t) (by omega) (by omega)
  have eb := (Int.mul_ediv_cancel' g1).symm
  have et := (Int.mul_ediv_cancel' g2).symm
  generalize hgg : gcdI b t = g at *
  generalize b / g = b' at *
  generalize t / g = t' at *
  have b'1 : 1 ≤ b' := by
    rcases (show 1 ≤ b' ∨ b' ≤ 0 by omega) with z | z
    · exact z
    · have := Int.mul_le_mul_of_nonneg_left z (show 0 ≤ g by omega)
      omega
  have t'1 : 0 ≤ t' := by
    rcases Int.le_total 0 t' with c | c
    · exact c
    · rcases (show t' = 0 ∨ t' ≤ -1 by omega) with z | z
      · omega
      · have := Int.mul_le_mul_of_nonneg_left z (show 0 ≤ g by omega)
        omega
  have t'2 : t' < b' := by
    rcases (show t' < b' ∨ b' ≤ t' by omega) with c | c
    · exact c
    · have := Int.mul_le_mul_of_nonneg_left c (show 0 ≤ g by omega)
      omega
  exact ⟨d, t', b', s / g, d1, by omega, b'1, hm, t'1, t'2, g3, rfl, fun r hr => by rw [fday_least hg b'1 et eb]; exact hR r hr⟩
end Ly
namespace Ly
theorem near_seen {d t b s : Int} {ns : List Int} (l2 : 2 ≤ ns.length) (l6 : ns.length ≤ 6) (hp : ns.Pairwise (· < ·)) (hr : ∀ y ∈ ns, -1000 ≤ y ∧ y ≤ 1000) : NearR d t b s (ns.map fun y => (y, fday d t b s y)) := by
  refine ⟨by rw [List.length_map]; exact l2, by rw [List.length_map]; exact l6, List.pairwise_map.mpr hp, fun r h => ?_⟩
  obtain ⟨y, hy, rfl⟩ := List.mem_map.mp h
  exact ⟨hr y hy, by show fday d t b s y - 1 ≤ fday d t b s y; omega, by show fday d t b s y ≤ fday d t b s y + 1; omega⟩
theorem near_two {d t b s : Int} {R : Rw} (h : NearR d t b s R) : NearR d t b s (R.take 2) := by
  have := h.l2
  exact ⟨by rw [List.length_take]; omega, by rw [List.length_take]; omega, h.inc.take, fun r hr => h.nr r (List.mem_of_mem_take hr)⟩
theorem near_bent {d t b s y n e : Int} {R : Rw} {k : Nat} (h : NearR d t b s R) (hx : ∀ r ∈ R, fday d t b s r.1 = r.2) (hk : R[k]? = some (y, n)) (e0 : -1 ≤ e) (e1 : e ≤ 1) : NearR d t b s (R.take k ++ [(y, n + e)] ++ R.drop (k + 1)) := by
  have hl := (List.getElem?_eq_some_iff.mp hk).1
  have l2 := h.l2
  have l6 := h.l6
  have len : (R.take k ++ [(y, n + e)] ++ R.drop (k + 1)).length = R.length := by
    simp only [List.length_append, List.length_take, List.length_drop, List.length_singleton]
    omega
  have spl : R = R.take k ++ [(y, n)] ++ R.drop (k + 1) := by
    have e := List.getElem?_eq_some_iff.mp hk
    rw [← e.2, List.append_assoc, List.singleton_append, List.getElem_cons_drop, List.take_append_drop]
  have fs : (R.take k ++ [(y, n + e)] ++ R.drop (k + 1)).map Prod.fst = R.map Prod.fst := by
    conv => rhs; rw [spl]
    simp only [List.map_append, List.map_cons, List.map_nil]
  refine ⟨by omega, by omega, ?_, fun r hr => ?_⟩
  · have := List.pairwise_map (f := Prod.fst) (R := fun a b : Int => a < b) (l := R) |>.mpr h.inc
    rw [← fs] at this
    exact List.pairwise_map.mp this
  · rcases List.mem_append.mp hr with hr | hr
    · rcases List.mem_append.mp hr with hr | hr
      · exact h.nr r (List.mem_of_mem_take hr)
      · rw [List.mem_singleton] at hr
        subst hr
        have hm := List.mem_of_getElem? hk
        have h1 := h.nr _ hm
        have h2 := hx _ hm
        refine ⟨h1.1, ?_, ?_⟩
        · show fday d t b s y - 1 ≤ n + e
          have : fday d t b s y = n := h2
          omega
        · show n + e ≤ fday d t b s y + 1
          have : fday d t b s y = n := h2
          omega
    · exact h.nr r (List.mem_of_mem_drop hr)
/-- both ways tell the same lands -/
theorem told_same {d t b s most : Int} {R : Rw} {Ms Ns : List (List Int)} {a z : Int × Int} (hs : SmallL d t b s) (h : NearR d t b s R) (ha : R.head? = some a) (hz : R.getLast? = some z) (h1 : Ms.Perm (landsL R most)) (h2 : Ms.Pairwise (fun a b => lexL b a = false)) (h3 : Ns.Perm (dyL R a z most.toNat 59)) (h4 : Ns.Pairwise (fun a b => lexL b a = false)) : Ms = Ns := by
  have l2 := h.l2
  have hne : R ≠ [] := by rintro rfl; simp at l2
  refine lex_uniq h2 h4 (h1.nodup_iff.mpr (landsL_nodup hne)) (h3.nodup_iff.mpr dyL_nodup) fun L => ?_
  rw [h1.mem_iff, h3.mem_iff, mem_landsL h.l2 h.inc, mem_all ha hz h.l2 h.inc (h.near hs)]
end Ly
set_option Elab.async false
set_option linter.all false
set_option maxRecDepth 100000
set_option maxHeartbeats 4000000
/-! the base: what is forgotten behind a call, ranges of any size, lists read -/
namespace Ly
open PySem PySem.Spec PyProof.Rows L2

/-! ### forgetting -/
/-- no dict with tuple keys is tracked -/
def Pl : HO → Bool
  | .dT _ => false
  | .frz _ (.lst _) => true
  | .frz _ (.tup _) => true
  | .frz _ (.dK _) => true
  | .frz _ (.own _) => true
  | .frz _ _ => false
  | _ => true
def NoT (H : Hp) : Prop := ∀ b o, H b = some o → Pl o = true
theorem NoT.upd {H : Hp} {p : Addr} {o : HO} (h : NoT H) (ho : Pl o = true) : NoT (upd H p o) := fun b u e => by
  by_cases hb : b = p
  · subst hb
    rw [upd_same] at e
    cases e
    exact ho
  · rw [upd_ne hb] at e
    exact h b u e
theorem NoT.tup {H : Hp} {p : Addr} {xs : List V} (h : NoT H) : NoT (L2.upd H p (.tup xs)) := h.upd rfl
theorem NoT.lst {H : Hp} {p : Addr} {xs : List V} (h : NoT H) : NoT (L2.upd H p (.lst xs)) := h.upd rfl
theorem NoT.dK {H : Hp} {p : Addr} {xs : List (Key × V)} (h : NoT H) : NoT (L2.upd H p (.dK xs)) := h.upd rfl
theorem NoT.of_only {H : Hp} (h : L2.Only H) : NoT H := fun b u e => by
  rcases h b with z | ⟨o, xs, z⟩
  · rw [z] at e; cases e
  · rw [z] at e; cases e; rfl
/-- the smaller heap H1 may stand for H' behind a call from H -/
structure Fg (H H' H1 : Hp) : Prop where
  sub : ∀ b o, H1 b = some o → H' b = some o
  tups : ∀ b xs, H b = some (.tup xs) → H1 b = some (.tup xs)
  frzs : ∀ b o u, H b = some (.frz o u) → H1 b = some (.frz o u)
  tbls : ∀ b ps, H b = some (.tbl ps) → ∃ more, H1 b = some (.tbl (ps ++ more))
  own : ∀ b C dx fs, H1 b = some (.ins C dx fs) → H1 dx = some (.own b)
  noT : NoT H1
theorem Fg.ok {P : Program} {w : World} {H H' H1 : Hp} {h : Heap} (f : Fg H H' H1) (ok : HOk P w H' h) : HOk P w H1 h := fun a o e => by
  have q := ok a o (f.sub a o e)
  have n := f.noT a o e
  cases o with
  | ins C dx fs =>
    obtain ⟨_, r⟩ := q
    exact ⟨f.own a C dx fs e, r⟩
  | dT kvs => exact absurd (show false = true from n) (by decide)
  | frz ob u =>
    obtain ⟨q1, q2⟩ := q
    refine ⟨q1, ?_⟩
    cases u with
    | lst xs => exact q2
    | tup xs => exact q2
    | dK xs => exact q2
    | own y => exact q2
    | _ => exact absurd (show false = true from n) (by decide)
  | _ => exact q
theorem Fg.un {fs : List Addr} {H H' H1 : Hp} {h h' : Heap} (f : Fg H H' H1) (u : Un fs [] H H' h h') : Un fs [] H H1 h h' where
  keep := u.keep
  slot := u.slot
  free := fun b o e n hx => by
    have q := u.free b o e n hx
    cases r : H1 b with
    | none => rfl
    | some x => rw [f.sub b x r] at q; cases q
  there := u.there
  tups := f.tups
  frzs := f.frzs
  tbls := f.tbls
section
variable {P : Program} {w : World} {K : PySem.W.Frag} {mg : Str → Option Value} {base : Heap} {CX : CXT} {k : Nat} {f : Addr} {fd : FuncData} {ps : List Str} {sp : Sp}
/-- behind a call what is not wanted may be forgotten -/
theorem FnOk.fg (F : FnOk P w K mg base CX k f fd ps sp) :
    FnOk P w K mg base CX k f fd ps (fun vs H Q E => sp vs H (fun v H' => ∃ H1, ((∀ b C dx fs, H b = some (.ins C dx fs) → H dx = some (.own b)) → Fg H H' H1) ∧ Q v H1) E) :=
  ⟨fun vs H Q E h => F.len vs H _ E h, fun A outer s H args us vs Q E hr he hb hv hs => by
    refine codeAny_mono (F.run A outer s H args us vs _ E hr he hb hv hs) fun r s' hq => ?_
    cases r with
    | error e => exact hq
    | ok fl =>
      cases fl with
      | ret u =>
        obtain ⟨v, H', os, bare, un, hok, rv, H1, hf, q⟩ := hq
        have hf' := hf fun b C dx fs e => by
          obtain ⟨z, _⟩ := he.hok b _ e
          exact z
        exact ⟨v, H1, os, bare, hf'.un un, hf'.ok hok, rv, q⟩
      | next => exact hq
      | brk => exact hq
      | cont => exact hq⟩
/-- all is as it was -/
theorem Fg.same {H H' : Hp} (n : NoT H) (s : Same H H') : (∀ b C dx fs, H b = some (.ins C dx fs) → H dx = some (.own b)) → Fg H H' H := fun o =>
  ⟨s, fun _ _ e => e, fun _ _ _ e => e, fun _ _ e => ⟨#[], by rw [e]; simp⟩, o, n⟩
/-- what is wanted behind a body that may leave things behind -/
def fgQ (H : Hp) (Q : VK) : VK := fun v H' => ∃ H1, ((∀ b C dx fs, H b = some (.ins C dx fs) → H dx = some (.own b)) → Fg H H' H1) ∧ Q v H1
theorem fg_same {H H' : Hp} {Q : VK} {v : V} (n : NoT H) (s : Same H H') (q : Q v H) : fgQ H Q v H' := ⟨H, Fg.same n s, q⟩
theorem fg_all {H H' : Hp} {Q : VK} {v : V} (n : NoT H) (s : Same H H') (n' : NoT H') (o : ∀ b C dx fs, H' b = some (.ins C dx fs) → H b = some (.ins C dx fs)) (q : Q v H') : fgQ H Q v H' :=
  ⟨H', fun ow => ⟨fun _ _ e => e, fun b xs e => s b _ e, fun b o u e => s b _ e, fun b ps e => ⟨#[], by rw [s b _ e]; simp⟩, fun b C dx fs e => s _ _ (ow b C dx fs (o b C dx fs e)), n'⟩, q⟩
theorem Fun.okF {x qual : Str} {st : Stmt} {N : List Str} (F : Fun K x qual st f fd) (S : FnScope N ps (defScope st)) (len : ∀ vs H Q E, sp vs H Q E → vs.length = ps.length)
    (hbody : ∀ (cdv : Value) (A : Around) (outer : List Env) (s : Shared) (H : Hp) (vs : List V) (Q : VK) (E : XK), Room k (A.deeper (envOfC qual (defScope st) s.heap.objs.size f cdv)) → sp vs H Q E →
      ∃ t, PSs (cxOf CX0 P w K mg base N qual (defScope st) f cdv A outer s H E).nox (defBody st) t ∧ t { nx := fun _ H' => fgQ H Q .non H', rt := fgQ H Q } (start N vs) H) : FnOk P w K mg base CX0 (k + 1) f fd ps sp := by
  have F2 : FnOk P w K mg base CX0 (k + 1) f fd ps (fun vs H Q2 E => ∃ Q, Q2 = fgQ H Q ∧ sp vs H Q E) := by
    refine F.ok S (fun vs H Q E h => ?_) (fun cdv A outer s H vs Q E hr h => ?_)
    · obtain ⟨Q0, _, h⟩ := h
      exact len vs H Q0 E h
    · obtain ⟨Q0, rfl, h⟩ := h
      exact hbody cdv A outer s H vs Q0 E hr h
  exact (FnOk.fg F2).imp fun vs H Q E h => ⟨Q, rfl, h⟩
theorem Fun.okFX {x qual : Str} {st : Stmt} {N : List Str} (F : Fun K x qual st f fd) (S : FnScope N ps (defScope st)) (len : ∀ vs H Q E, sp vs H Q E → vs.length = ps.length)
    (hbody : ∀ (cdv : Value) (A : Around) (outer : List Env) (s : Shared) (H : Hp) (vs : List V) (Q : VK) (E : XK), Room k (A.deeper (envOfC qual (defScope st) s.heap.objs.size f cdv)) → sp vs H Q E →
      ∃ t, PSs (cxOf (L2.CX P w) P w K mg base N qual (defScope st) f cdv A outer s H E) (defBody st) t ∧ t { nx := fun _ H' => fgQ H Q .non H', rt := fgQ H Q } (start N vs) H) : FnOk P w K mg base (L2.CX P w) (k + 1) f fd ps sp := by
  have F2 : FnOk P w K mg base (L2.CX P w) (k + 1) f fd ps (fun vs H Q2 E => ∃ Q, Q2 = fgQ H Q ∧ sp vs H Q E) := by
    refine F.okX S (fun vs H Q E h => ?_) (fun cdv A outer s H vs Q E hr h => ?_)
    · obtain ⟨Q0, _, h⟩ := h
      exact len vs H Q0 E h
    · obtain ⟨Q0, rfl, h⟩ := h
      exact hbody cdv A outer s H vs Q0 E hr h
  exact (FnOk.fg F2).imp fun vs H Q E h => ⟨Q, rfl, h⟩

/-! ### a def by its name -/
/-- the def x stands in the module and keeps its promise -/
def Df (P : Program) (w : World) (K : PySem.W.Frag) (mg : Str → Option Value) (base : Heap) (CX : CXT) (x : Str) (k : Nat) (ps : List Str) (sp : Sp) : Prop :=
  ∃ (f : Addr) (fd : FuncData), FnOk P w K mg base CX k f fd ps sp ∧ mg x = some (.ref f) ∧ PySem.W.keepIn K (.ref f) = true ∧ Binds K fd ps []
/-- the def x as it stands in the text -/
def Tx (K : PySem.W.Frag) (mg : Str → Option Value) (x : Str) (st : Stmt) (ps : List Str) : Prop :=
  ∃ (f : Addr) (fd : FuncData), Fun K x x st f fd ∧ mg x = some (.ref f) ∧ Binds K fd ps []
theorem Df.imp {P : Program} {w : World} {K : PySem.W.Frag} {mg : Str → Option Value} {base : Heap} {CX : CXT} {x : Str} {k : Nat} {ps : List Str} {sp sp' : Sp} (D : Df P w K mg base CX x k ps sp)
    (h : ∀ vs H Q E, sp' vs H Q E → sp vs H Q E) : Df P w K mg base CX x k ps sp' := by
  obtain ⟨f, fd, F, a, b, c⟩ := D
  exact ⟨f, fd, F.imp h, a, b, c⟩
theorem Df.mono {P : Program} {w : World} {K : PySem.W.Frag} {mg : Str → Option Value} {base : Heap} {CX : CXT} {x : Str} {j k : Nat} {ps : List Str} {sp : Sp} (D : Df P w K mg base CX x j ps sp) (h : j ≤ k) : Df P w K mg base CX x k ps sp := by
  obtain ⟨f, fd, F, a, b, c⟩ := D
  exact ⟨f, fd, F.mono h, a, b, c⟩
end
section
variable {X : Cx} {CX : CXT} {k j : Nat} {ps : List Str} {sp : Sp} {E : XK} {x : Str} {p pos : Pos} {e : Expr} {es : List Expr} {t : TA}
theorem pe_callD (D : Df X.prog X.w X.K X.mg X.base CX x k ps sp) (hr : Room j X.A) (hj : k ≤ j) (hg : Gl X x) (hx : Passes CX X E) (ha : PA X (e :: es) t)
    (hdb : (x == ("__debug__" : Str)) = false := by decide) (he : starEach (e :: es) X.env = (false, eval e X.env) :: starEach es X.env := by rfl) (hpl : (backTo pos (starEach es X.env)).any (·.1) = false := by rfl) :
    PE X (.Call (.Name x p) (e :: es) [] pos) (tCall sp [] E t) := by
  obtain ⟨f, fd, F, hm, hk, hb⟩ := D
  exact pe_call F (hr.mono hj) hg hm hk hb .nil hx ha hdb he hpl
end

/-! ### ranges of any size -/
theorem turn_long {P : Program} {w : World} {K : PySem.W.Frag} {tg : Expr} (it : Addr) (lo : Int) (n : Nat) : Turn P w K tg (Itr lo n) [it] it (fun i h => IsLongIter h it (lo + (i : Nat) * 1) ((n : Int) - (i : Nat)) 1) where
  mem := by simp
  obj := fun i h st b hb => by
    have e : b = it := by simpa using hb
    subst e
    exact ⟨_, st, fun v z => by
      have z' : Data.fields _ = Data.cell v := z
      cases z'⟩
  keep := fun i h h' st k => k it (by simp) _ st
  item := by
    intro X hP hw hK hc i pins s σ H E I hf st hg
    subst hP hw hK
    obtain ⟨f0, f1, f2, f3, f4, f5⟩ := hf it (by simp)
    have W := Walks.longrange (prog := X.prog) (w := X.w) (I.ok.hd hc) it lo 1 n
    refine W.item i s _ _ hg st fun v h' tk hv st' kk => ?_
    obtain ⟨t, rfl⟩ := hv
    have I1 : Inv X pins σ H { s with heap := h', toks := tk } := I.turned (fun b o hb e => kk b o (by simpa using hb) e) f0 f1 f3 f4 f5
    refine ⟨_, rfl, go_of (s := { s with heap := h', toks := tk }) (n := "longrange_iterator") st' rfl rfl (by decide) ⟨.int (lo + i), H, I1, ⟨t, ?_⟩, ⟨rfl, rfl⟩, st', fun b hb => (hf b hb).1⟩⟩
    rw [Int.mul_one]
  done := by
    intro X hP hw hK hc i pins s σ H E I hf st hg
    subst hP hw hK
    obtain ⟨f0, f1, f2, f3, f4, f5⟩ := hf it (by simp)
    exact wpAny_pyNext_long_end (I.ok.hd hc) st (by have : n ≤ i := hg; omega) fun h' eb => ⟨rfl, I.turned (t' := s.toks) (fun b o hb e => eb b o hb e) f0 f1 f3 f4 f5⟩
  self := fun _ _ _ _ _ st h => wpAny_pyIter_longiter st h
section
variable {X : Cx} {tg : Expr}
theorem range_itW {pins : List (Addr × Obj)} {σ : L2.St} {H : Hp} {s : Shared} {R : It → Hp → Prop} {E : Value → Shared → Prop} {lo hi : Int} {t u v : Tok} {tk : Nat} (I : Inv X pins σ H s)
    (q : R (Itr lo (hi - lo).toNat) H) : wpAny (model X.prog X.w) X.A (pyIter (.ref s.heap.objs.size)) (PIE X pins σ tg R) E { s with heap := s.heap.push { cls := .type "range", data := .fields #[.int lo t, .int hi u, .int 1 v] }, toks := tk } := by
  have I1 : Inv X pins σ H { s with heap := s.heap.push { cls := .type "range", data := .fields #[.int lo t, .int hi u, .int 1 v] }, toks := tk } := I.kept fun b o e => Heap.get?_push_of_some _ e
  have e1 : lo + ((0 : Nat) : Int) * 1 = lo := by simp
  have e2 : (((hi - lo).toNat : Nat) : Int) - ((0 : Nat) : Int) = Builtin.Range.rangeSize lo hi 1 := by rw [rangeSize_one]; split <;> omega
  have fp : ∀ b ∈ [(s.heap.push { cls := .type "range", data := .fields #[.int lo t, .int hi u, .int 1 v] }).objs.size], FpOk X pins H b := fun b hb => by
    have e : b = (s.heap.push { cls := .type "range", data := .fields #[.int lo t, .int hi u, .int 1 v] }).objs.size := by simpa using hb
    subst e
    exact I1.fpOk (Nat.le_refl _) (I1.hok.fresh (Nat.le_refl _))
  cases hsm : Builtin.Range.small lo hi 1 with
  | true =>
    refine wpAny_pyIter_range (IsRange.new ..) hsm ?_
    refine ⟨(s.heap.push { cls := .type "range", data := .fields #[.int lo t, .int hi u, .int 1 v] }).objs.size, [(s.heap.push { cls := .type "range", data := .fields #[.int lo t, .int hi u, .int 1 v] }).objs.size], _, _, H, rfl,
      I1.kept (t' := tk) fun b o e => Heap.get?_push_of_some _ e, turn_range _ lo (hi - lo).toNat, ?_, fp, q⟩
    show IsRangeIter _ _ (lo + ((0 : Nat) : Int) * 1) ((((hi - lo).toNat : Nat) : Int) - ((0 : Nat) : Int)) 1
    rw [e1, e2]
    exact Heap.get?_push_size _ rfl
  | false =>
    refine wpAny_pyIter_longrange (IsRange.new ..) hsm ?_
    refine ⟨(s.heap.push { cls := .type "range", data := .fields #[.int lo t, .int hi u, .int 1 v] }).objs.size, [(s.heap.push { cls := .type "range", data := .fields #[.int lo t, .int hi u, .int 1 v] }).objs.size], _, _, H, rfl,
      I1.kept (t' := tk) fun b o e => Heap.get?_push_of_some _ e, turn_long _ lo (hi - lo).toNat, ?_, fp, q⟩
    show IsLongIter _ _ (lo + ((0 : Nat) : Int) * 1) ((((hi - lo).toNat : Nat) : Int) - ((0 : Nat) : Int)) 1
    rw [e1, e2]
    exact Heap.get?_push_size _ rfl
def iRgW1 (ta : TA) : TI := fun σ H R => ta σ H fun vs H1 => ∃ j : Int, vs = [.int j] ∧ R (Itr 0 j.toNat) H1
def iRgW2 (ta : TA) : TI := fun σ H R => ta σ H fun vs H1 => ∃ i j : Int, vs = [.int i, .int j] ∧ R (Itr i (j - i).toNat) H1
theorem pi_rgW1 {a : Expr} {ta : TA} {p pos : Pos} (hg : Gl X "range") (hm : X.mg "range" = none) (ha : PA X [a] ta) (hs : starEach [a] X.env = [(false, eval a X.env)] := by rfl) : PI X tg (.Call (.Name "range" p) [a] [] pos) (iRgW1 ta) := by
  refine ⟨fun pins s σ H R I h => ?_⟩
  refine Call_ (ld_blt I hg hm boot_range (PyProof.Rows.callWith_type1 (thn (ha.run pos pins s σ H _ I h) fun us s1 ⟨vs, H1, I1, r1, q1⟩ => ?_) hs rfl))
  obtain ⟨j, e, q⟩ := q1
  subst e
  cases r1 with
  | cons r rr =>
    cases rr
    obtain ⟨t, rfl⟩ := r
    exact call_range_1 (range_itW I1 (by simpa using q))
theorem pi_rgW2 {a b : Expr} {ta : TA} {p pos : Pos} (hg : Gl X "range") (hm : X.mg "range" = none) (ha : PA X [a, b] ta) (hs : starEach [a, b] X.env = [(false, eval a X.env), (false, eval b X.env)] := by rfl) (hs2 : starEach [b] X.env = [(false, eval b X.env)] := by rfl) :
    PI X tg (.Call (.Name "range" p) [a, b] [] pos) (iRgW2 ta) := by
  refine ⟨fun pins s σ H R I h => ?_⟩
  refine Call_ (ld_blt I hg hm boot_range (PyProof.Rows.callWith_type1 (thn (ha.run pos pins s σ H _ I h) fun us s1 ⟨vs, H1, I1, r1, q1⟩ => ?_) (by rw [hs, hs2]) (by rw [hs2]; rfl)))
  obtain ⟨i, j, e, q⟩ := q1
  subst e
  cases r1 with
  | cons r rr =>
    cases rr with
    | cons r' rr =>
      cases rr
      obtain ⟨t, rfl⟩ := r
      obtain ⟨t', rfl⟩ := r'
      exact call_range_2 (range_itW I1 q)

/-! ### list + list, whatever they are -/
def rCatS (K : PySem.W.Frag) : R2 := fun x y H Q => ∃ l b xs zs, x = .ref l ∧ y = .ref b ∧ SqL K H l xs ∧ SqL K H b zs ∧ xs.length + zs.length ≤ sizeLine ∧ ∀ p, H p = none → Q (.ref p) (upd H p (.lst (xs ++ zs)))
theorem op_catS : OpR X (binaryOp .Add) (rCatS X.K) := by
  intro pins s σ H x y v u Q I rx ry h
  obtain ⟨l, b, xs, zs, rfl, rfl, hH, hB, hz, q⟩ := h
  cases rx
  cases ry
  obtain ⟨its, r, ⟨o, n, e, hc, hd, hs⟩, _⟩ := I.list hH
  obtain ⟨its2, r2, ⟨o2, n2, e2, hc2, hd2, hs2⟩, _⟩ := I.list hB
  obtain ⟨cls, dd, data, sl⟩ := o
  obtain ⟨cls2, dd2, data2, sl2⟩ := o2
  simp only at hc hd hc2 hd2 hs hs2
  subst hc hc2 hs hs2
  have ea : its.toArray ++ its2.toArray = (its ++ its2).toArray := by simp
  have l1 := r.length
  have l2 := r2.length
  refine concat_meets ⟨_, e, rfl⟩ ⟨_, e2, rfl⟩ noFill_list_add seq_list_add PySem.F.slot_list_add PySem.F.entry_list_add (PySem.F.args_list_add_2 _ _) (list_addW l b its.toArray its2.toArray n n2 dd dd2 sl sl2 (by rw [List.size_toArray, List.size_toArray]; omega)) ⟨e, e2, ?_⟩
  rw [ea]
  exact ⟨.ref _, _, I.lnew (t' := s.toks) (r.append r2) (by rw [List.length_append]; omega), rfl, q _ I.fresh⟩
end
end Ly
set_option Elab.async false
set_option linter.all false
set_option maxRecDepth 100000
set_option maxHeartbeats 4000000
/-! enumerate of a tuple -/
namespace PySem
open Sem (wp)
open AutoSeq1 (wpAny_loadPart')
theorem ly_meets_enumT (l : Addr) (items : Array Value) (n : Nat) (dct : Option Addr) (sl : Array (Option Value)) :
    Meets (Builtin.«enumerate.__new__» ⟨[.type "enumerate", .ref l], []⟩) (fun _ R s => s.heap.get? l = some { cls := .type "tuple", dict := dct, data := .seq items n, slots := sl } ∧
      R (.ok (.ret (.ref (s.heap.push { cls := .type "tuple_iterator", data := .fields #[.ref l, .int 0 0] }).objs.size)))
        { s with heap := (s.heap.push { cls := .type "tuple_iterator", data := .fields #[.ref l, .int 0 0] }).push { cls := .type "enumerate", data := .fields #[.none, .bool false, .ref s.heap.objs.size, rawInt 0, .none, .none] } }) :=
  .of_wp fun prog w A R s h => by
    obtain ⟨hp, g, d, tk, os⟩ := s; obtain ⟨hl, h⟩ := h
    have hsub := sub_enumerate
    have hL : Heap.IsTuple (Shared.heap ⟨hp, g, d, tk, os⟩) l items := ⟨_, hl, rfl, n, rfl⟩
    wp_walk using wpAny_loadPart' hl
    refine wpAny_stack_any fun st => wpAny_pure ?_
    split
    · rename_i c _ _ _ _ _
      cases (c == Value.type "enumerate")
      · wp_walk using wpAny_loadPart' hl, wpAny_pyIter_tuple hL
        exact ⟨_, rfl, h⟩
      · wp_walk using wpAny_loadPart' hl, wpAny_pyIter_tuple hL
        exact ⟨_, rfl, h⟩
    · wp_walk using wpAny_loadPart' hl, wpAny_pyIter_tuple hL
      exact ⟨_, rfl, h⟩
section
variable {prog : Program} {w : World} {A : Around} {E : Value → Shared → Prop} {s : Shared}
theorem ly_call_enumT {l : Addr} {items : Array Value} {Q : Value → Shared → Prop} (hL : s.heap.IsTuple l items)
    (h : ∀ h', IsEnum h' (s.heap.objs.size + 1) s.heap.objs.size 0 .none → h'.IsTupleIter s.heap.objs.size l 0 → h'.objs.size = s.heap.objs.size + 2 →
      (∀ b o, s.heap.get? b = some o → h'.get? b = some o) → Q (.ref (s.heap.objs.size + 1)) { s with heap := h' }) :
    wpAny (model prog w) A (call (.type "enumerate") [.ref l]) Q E s := by
  obtain ⟨⟨c, dct, dt, sl⟩, hl, hc, n, hd⟩ := hL
  replace hc : c = .type "tuple" := hc
  replace hd : dt = .seq items n := hd
  subst hc hd
  refine callType_new F.called_enumerate (by decide) (F.typeCall_enumerate_1 _) (F.newCall_enumerate_1 _) (fun obj => F.args_object_init_2 obj _) F.entry_enumerate_new
    (ly_meets_enumT l items n dct sl) ⟨hl, ?_⟩
  have hz : (s.heap.push { cls := .type "tuple_iterator", data := .fields #[.ref l, .int 0 0] }).objs.size = s.heap.objs.size + 1 := Heap.size_push ..
  show _ ∧ _
  rw [hz]
  have he : IsEnum ((s.heap.push { cls := .type "tuple_iterator", data := .fields #[.ref l, .int 0 0] }).push
      { cls := .type "enumerate", data := .fields #[.none, .bool false, .ref s.heap.objs.size, rawInt 0, .none, .none] }) (s.heap.objs.size + 1) s.heap.objs.size 0 .none := by
    have := Heap.get?_push_size (s.heap.push { cls := .type "tuple_iterator", data := .fields #[.ref l, .int 0 0] })
      (o := { cls := .type "enumerate", data := .fields #[.none, .bool false, .ref s.heap.objs.size, rawInt 0, .none, .none] }) rfl
    rw [hz] at this; exact this
  refine ⟨⟨_, he, rfl⟩, h _ he ⟨_, Heap.get?_push_of_some _ (Heap.get?_push_size _ rfl), rfl, rfl⟩ (by rw [Heap.size_push, hz]) fun b o x => Heap.get?_push_of_some _ (Heap.get?_push_of_some _ x)⟩
end
end PySem
namespace Ly
open PySem PySem.Spec PyProof.Rows L2
def IteT (K : PySem.W.Frag) (a : Addr) : It :=
  ⟨fun i H => ∃ (xs : List V) (x : V), SqT K H a xs ∧ xs[i]? = some x, fun i H v H' => ∃ T x, v = .ref T ∧ H T = none ∧ H' = upd H T (.tup [.int (i : Nat), x]) ∧ ∀ xs, SqT K H a xs → xs[i]? = some x, fun i H => ∃ xs : List V, SqT K H a xs ∧ xs.length ≤ i⟩
theorem turn_enumT {P : Program} {w : World} {K : PySem.W.Frag} {elts : List Expr} {kk : Nat} {tpos : Pos} (a e it : Addr) :
    Turn P w K (.Tuple elts kk tpos) (IteT K a) [e, it] e (fun i h => (∃ old, IsEnum h e it ((i : Nat) : Int) old) ∧ h.IsTupleIter it a i ∧ e ≠ it) where
  mem := by simp
  obj := fun i h st b hb => by
    obtain ⟨⟨old, he⟩, ⟨o, ho, hc, hd⟩, _⟩ := st
    have e' : b = e ∨ b = it := by simpa using hb
    rcases e' with z | z
    · rw [z]; exact ⟨_, he, fun v q => nomatch q⟩
    · rw [z]; exact ⟨o, ho, fun v q => by rw [hd] at q; cases q⟩
  keep := fun i h h' st k => let ⟨⟨old, he⟩, hi, hne⟩ := st; ⟨⟨old, k e (by simp) _ he⟩, hi.at fun o q => k it (by simp) o q, hne⟩
  item := by
    intro X hP hw hK hc i pins s σ H E I hf st hg
    subst hP hw hK
    obtain ⟨⟨old, he⟩, hit, hne⟩ := st
    obtain ⟨xs, x, hq, hx⟩ := hg
    obtain ⟨its, rv, p, hz⟩ := I.tuple hq
    obtain ⟨u, hu, ru⟩ := rv.get hx
    have hel : e < s.heap.objs.size := Heap.lt_size he
    have hil : it < s.heap.objs.size := by obtain ⟨_, q, _⟩ := hit; exact Heap.lt_size q
    have hpt : s.heap.IsTuple a its.toArray := p
    have hai : a ≠ it := fun z => by
      obtain ⟨o, ho, hc1, _⟩ := hpt
      obtain ⟨o2, ho2, hc2, _⟩ := hit
      rw [z, ho2] at ho; cases ho
      rw [hc1] at hc2; exact absurd hc2 (by decide)
    have hae : a ≠ e := fun z => by
      obtain ⟨o, ho, hc1, _⟩ := hpt
      have he2 := he
      unfold IsEnum at he2
      rw [z, he2] at ho; cases ho
      exact absurd (show Value.type "enumerate" = Value.type "tuple" from hc1) (by decide)
    have D := Draws.tuple (prog := X.prog) (w := X.w) (A := X.A.in1) (I.ok.hd hc) it a hai its.toArray
    have hlt : i < its.toArray.size := by
      rw [List.size_toArray]
      exact (List.getElem?_eq_some_iff.mp hu).1
    refine wpAny_pyNext_enum_itemD D he ⟨hit, hpt⟩ hlt hne (by simp; exact ⟨hne, Ne.symm hae⟩) fun x' h' tk hx' ho hst' hT hsz hk => ?_
    have hxu : x' = u := by
      have h1 : its.toArray[i]? = some u := by simpa using hu
      rw [h1] at hx'
      exact (Option.some.inj hx').symm
    subst hxu
    refine ⟨_, rfl, wpAny_letOwnedTupleGo_enum (s := { s with heap := h', toks := tk + 1 }) ho fun h'' he' sb => ?_⟩
    have hT2 : h''.get? s.heap.objs.size = some { cls := .type "tuple", data := .seq #[.int i tk, x'] } := (sb.2 _ (Nat.ne_of_gt hel)).trans hT
    have new : ObjOk X.prog X.w (upd H s.heap.objs.size (.tup [.int (i : Nat), x])) h'' s.heap.objs.size (.tup [.int (i : Nat), x]) :=
      ⟨by show 2 ≤ sizeLine; decide, [.int i tk, x'], .cons ⟨_, rfl⟩ (.cons ru .nil), ⟨_, hT2, rfl, _, rfl⟩⟩
    have I1 : Inv X pins σ (upd H s.heap.objs.size (.tup [.int (i : Nat), x])) { s with heap := h'', toks := tk + 1 } :=
      I.turnedNew (ch := [e, it]) (fun b ob hb q => (sb.2 b (fun z => hb (by simp [z]))).trans (hk b ob (fun z => hb (by simp [z])) (fun z => hb (by simp [z])) q)) hf (Nat.le_refl _) new
    refine ⟨.ref s.heap.objs.size, _, I1, rfl, ⟨_, x, rfl, I.hok.fresh (Nat.le_refl _), rfl, fun ys hy => by rw [I.tuple_inj hy hq]; exact hx⟩, ⟨⟨x', ?_⟩, hst'.1.at fun o q => (sb.2 it (Ne.symm hne)).trans q, hne⟩, fun b hb => ?_⟩
    · have e1 : ((i + 1 : Nat) : Int) = (i : Int) + 1 := by omega
      rw [e1]; exact he'
    · have hb' : b < s.heap.objs.size := by
        have e' : b = e ∨ b = it := by simpa using hb
        rcases e' with z | z
        · rw [z]; exact hel
        · rw [z]; exact hil
      rw [upd_ne (Nat.ne_of_lt hb')]
      exact (hf b hb).1
  done := by
    intro X hP hw hK hc i pins s σ H E I hf st hg
    subst hP hw hK
    obtain ⟨⟨old, he⟩, hit, hne⟩ := st
    obtain ⟨xs, hq, hx⟩ := hg
    obtain ⟨its, rv, p, hz⟩ := I.tuple hq
    obtain ⟨f0, f1, f2, f3, f4, f5⟩ := hf it (by simp)
    have hl := rv.length
    have hpt : s.heap.IsTuple a its.toArray := p
    have hai : a ≠ it := fun z => by
      obtain ⟨o, ho, hc1, _⟩ := hpt
      obtain ⟨o2, ho2, hc2, _⟩ := hit
      rw [z, ho2] at ho; cases ho
      rw [hc1] at hc2; exact absurd hc2 (by decide)
    have hT : s.TypeIs (.ref e) "enumerate" := ⟨_, he, rfl⟩
    unfold pyNext
    refine wpAny_bind (wpAny_attempt (wpAny_callSpecial?_slot (name := Str.ofString "__next__") hT F.slot_enumerate_next
      (wpAny_call_entry F.slot_enumerate_next hT F.entry_enumerate_next ?_ (F.args_enumerate_next_1 _))))
    show wpAny _ _ (field (.ref e) 2 >>= _) _ _ _
    refine wpAny_bind (wpAny_field he rfl (x := .ref it) rfl ?_)
    refine wpAny_bind (wpAny_nextOf_tuple_end (A := X.A.in1) (I.ok.hd hc) hit hpt (by simp; omega) fun h' x he' hx' => ?_)
    obtain ⟨o, ho, hc'⟩ := hx'
    refine wpAny_bind (wpAny_isInstance (T := "StopIteration") (b := true) ⟨o, ho, hc'⟩ isSubtype_stop ?_)
    exact wpAny_pure ⟨rfl, I.turned (t' := s.toks) (fun b o hb q => he' b o hb q) f0 f1 f3 f4 f5⟩
  self := fun A i s Q E st h => let ⟨⟨_, he⟩, _⟩ := st; wpAny_pyIter_enum he h
/-- enumerate(xs), a list or a tuple -/
def iEnumS (K : PySem.W.Frag) (ta : TA) : TI := fun σ H R => ta σ H fun vs H1 => ∃ a xs, vs = [.ref a] ∧ ((SqL K H1 a xs ∧ R (Ite K a) H1) ∨ (SqT K H1 a xs ∧ R (IteT K a) H1))
theorem pi_enumS {X : Cx} {e : Expr} {ta : TA} {p pos tpos : Pos} {elts : List Expr} {kk : Nat} (hg : Gl X "enumerate") (hm : X.mg "enumerate" = none) (ha : PA X [e] ta) (hs : starEach [e] X.env = [(false, eval e X.env)] := by rfl) :
    PI X (.Tuple elts kk tpos) (.Call (.Name "enumerate" p) [e] [] pos) (iEnumS X.K ta) := by
  refine ⟨fun pins s σ H R I h => ?_⟩
  refine Call_ (ld_blt I hg hm boot_enumerate (PyProof.Rows.callWith_type1 (thn (ha.run pos pins s σ H _ I h) fun us s1 ⟨vs, H1, I1, r1, q1⟩ => ?_) hs rfl))
  obtain ⟨a, xs, ex, q⟩ := q1
  subst ex
  cases r1 with
  | cons r rr =>
    cases rr
    cases r
    have fp : ∀ b ∈ [s1.heap.objs.size + 1, s1.heap.objs.size], FpOk X pins H1 b := fun b hb => by
      have e' : b = s1.heap.objs.size + 1 ∨ b = s1.heap.objs.size := by simpa using hb
      have hle : s1.heap.objs.size ≤ b := by
        rcases e' with z | z
        · rw [z]; exact Nat.le_add_right _ _
        · rw [z]; exact Nat.le_refl _
      exact I1.fpOk hle (I1.hok.fresh hle)
    rcases q with ⟨hq, q⟩ | ⟨hq, q⟩
    · obtain ⟨its, rv, p', hz⟩ := I1.list hq
      refine call_enumerate_list p'.isList fun h' he hit hsz hk => wpAny_pyIter_enum he ?_
      have I2 : Inv X pins σ H1 { s1 with heap := h' } := I1.kept (t' := s1.toks) hk
      exact ⟨s1.heap.objs.size + 1, [s1.heap.objs.size + 1, s1.heap.objs.size], _, _, H1, rfl, I2, turn_enum a (s1.heap.objs.size + 1) s1.heap.objs.size, ⟨⟨.none, he⟩, hit, Nat.succ_ne_self _⟩, fp, q⟩
    · obtain ⟨its, rv, p', hz⟩ := I1.tuple hq
      refine ly_call_enumT p' fun h' he hit hsz hk => wpAny_pyIter_enum he ?_
      have I2 : Inv X pins σ H1 { s1 with heap := h' } := I1.kept (t' := s1.toks) hk
      exact ⟨s1.heap.objs.size + 1, [s1.heap.objs.size + 1, s1.heap.objs.size], _, _, H1, rfl, I2, turn_enumT a (s1.heap.objs.size + 1) s1.heap.objs.size, ⟨⟨.none, he⟩, hit, Nat.succ_ne_self _⟩, fp, q⟩
end Ly
set_option Elab.async false
set_option linter.all false
set_option maxRecDepth 100000
set_option maxHeartbeats 4000000
/-! what is known of values: kinds, lands, decks -/
namespace Ly
open PySem PySem.Spec PyProof.Rows L2

/-! ### kinds -/
inductive Kn (K : PySem.W.Frag) (H : Hp) : V → String → Prop where
  | non : Kn K H .non "NoneType"
  | bl (b : Bool) : Kn K H (.bl b) "bool"
  | int (i : Int) : Kn K H (.int i) "int"
  | str (x : Str) : Kn K H (.str x) "str"
  | lst {a : Addr} {xs : List V} : SqL K H a xs → Kn K H (.ref a) "list"
  | tup {a : Addr} {xs : List V} : SqT K H a xs → Kn K H (.ref a) "tuple"
theorem Kn.ty {K : PySem.W.Frag} {H : Hp} {x : V} {n : String} (h : Kn K H x n) : TyX K H x (.type n) := by
  cases h with
  | non => exact .base .non
  | bl b => exact .base (.bl b)
  | int i => exact .base (.int i)
  | str x => exact .base (.str x)
  | lst h =>
    rcases h with (h | ⟨o, h⟩) | ⟨o, its, n, hk, hc, _⟩
    · exact .base (.lst h)
    · exact .base (.frz h)
    · exact .kList hk hc
  | tup h =>
    rcases h with (h | ⟨o, h⟩) | ⟨o, its, n, hk, hc, _⟩
    · exact .base (.tup h)
    · exact .fTuple h
    · exact .kTuple hk hc
def kindIs (n m : String) : Bool := n == m || (n == "bool" && m == "int")
theorem Kn.kit {K : PySem.W.Frag} {H : Hp} {x : V} {n m : String} (h : Kn K H x n) (hm : m ∈ ["int", "bool", "str", "list", "tuple"]) : PySem.W.kitOne K (.type n) (.type m) = some (kindIs n m) := by
  have hm' : m = "int" ∨ m = "bool" ∨ m = "str" ∨ m = "list" ∨ m = "tuple" := by simpa using hm
  have hn : n = "NoneType" ∨ n = "bool" ∨ n = "int" ∨ n = "str" ∨ n = "list" ∨ n = "tuple" := by
    cases h <;> simp
  rcases hn with rfl | rfl | rfl | rfl | rfl | rfl <;> rcases hm' with rfl | rfl | rfl | rfl | rfl <;> exact kit_ty (by decide +kernel)
def isFrom : V → Int → Int → Bool
  | .int i, lo, hi => decide (lo ≤ i) && decide (i ≤ hi)
  | _, _, _ => false
theorem isFrom_int (i lo hi : Int) : isFrom (.int i) lo hi = (decide (lo ≤ i) && decide (i ≤ hi)) := rfl
theorem isFrom_yes {i lo hi : Int} (h1 : lo ≤ i) (h2 : i ≤ hi) : isFrom (.int i) lo hi = true := by
  rw [isFrom_int, decide_eq_true h1, decide_eq_true h2]; rfl
theorem isFrom_no1 {i lo hi : Int} (h1 : ¬ lo ≤ i) : isFrom (.int i) lo hi = false := by
  rw [isFrom_int, decide_eq_false h1]; rfl
theorem isFrom_mid {i lo hi : Int} (h1 : lo ≤ i) : isFrom (.int i) lo hi = decide (i ≤ hi) := by
  rw [isFrom_int, decide_eq_true h1]; rfl

/-! ### growth -/
theorem Same.nt {H H' : Hp} (_ : Same H H') : True := trivial
theorem Same.t {K : PySem.W.Frag} {H H' : Hp} {a : Addr} {xs : List V} (e : Same H H') (h : SqT K H a xs) : SqT K H' a xs := by
  rcases h with (h | ⟨o, h⟩) | h
  · exact .inl (.inl (e _ _ h))
  · exact .inl (.inr ⟨o, e _ _ h⟩)
  · exact .inr h
theorem Same.l {K : PySem.W.Frag} {H H' : Hp} {a : Addr} {xs : List V} (e : Same H H') (h : SqL K H a xs) : SqL K H' a xs := L2.Same.seq e h
theorem same_new {H : Hp} {p : Addr} {o : HO} (h : H p = none) : Same H (upd H p o) := fun b x e => by
  rw [upd_ne (ne_of_none e h)]
  exact e
/-- the list at d may change, all else is kept -/
structure Gr (d : Addr) (H H' : Hp) : Prop where
  keep : ∀ b o, b ≠ d → H b = some o → H' b = some o
  lst : (∃ xs, H d = some (.lst xs))
  nt : NoT H → NoT H'
theorem Gr.ne {d : Addr} {H H' : Hp} (g : Gr d H H') {b : Addr} {o : HO} (h : H b = some o) (ho : ∀ xs, o ≠ .lst xs) : b ≠ d := fun e => by
  obtain ⟨xs, q⟩ := g.lst
  rw [e, q] at h
  exact ho xs (Option.some.inj h).symm
theorem Gr.t {K : PySem.W.Frag} {d : Addr} {H H' : Hp} {a : Addr} {xs : List V} (g : Gr d H H') (h : SqT K H a xs) : SqT K H' a xs := by
  rcases h with (h | ⟨o, h⟩) | h
  · exact .inl (.inl (g.keep _ _ (g.ne h fun _ z => nomatch z) h))
  · exact .inl (.inr ⟨o, g.keep _ _ (g.ne h fun _ z => nomatch z) h⟩)
  · exact .inr h
theorem Gr.l {K : PySem.W.Frag} {d : Addr} {H H' : Hp} {a : Addr} {xs : List V} (g : Gr d H H') (hne : a ≠ d) (h : SqL K H a xs) : SqL K H' a xs := by
  rcases h with (h | ⟨o, h⟩) | h
  · exact .inl (.inl (g.keep _ _ hne h))
  · exact .inl (.inr ⟨o, g.keep _ _ hne h⟩)
  · exact .inr h
theorem Gr.trans {d : Addr} {H H1 H2 : Hp} (a : Gr d H H1) (b : Gr d H1 H2) : Gr d H H2 := ⟨fun c o n e => b.keep c o n (a.keep c o n e), a.lst, fun n => b.nt (a.nt n)⟩
theorem Gr.refl {d : Addr} {H : Hp} {xs : List V} (h : H d = some (.lst xs)) : Gr d H H := ⟨fun _ _ _ e => e, ⟨xs, h⟩, fun n => n⟩
theorem Gr.put {d : Addr} {H H' : Hp} {ys : List V} (g : Gr d H H') : Gr d H (upd H' d (.lst ys)) := ⟨fun b o n e => by rw [upd_ne n]; exact g.keep b o n e, g.lst, fun n => (g.nt n).lst⟩
theorem Gr.new {d : Addr} {H H' : Hp} {p : Addr} {o : HO} (g : Gr d H H') (h : H' p = none) (ho : Pl o = true) : Gr d H (upd H' p o) := ⟨fun b x n e => by
  have q := g.keep b x n e
  rw [upd_ne (ne_of_none q h)]
  exact q, g.lst, fun n => (g.nt n).upd ho⟩
theorem Gr.same {d : Addr} {H H1 H2 : Hp} (g : Gr d H H1) (s : Same H1 H2) (n : NoT H1 → NoT H2) : Gr d H H2 := ⟨fun b o n e => s b o (g.keep b o n e), g.lst, fun k => n (g.nt k)⟩
theorem Gr.free {d : Addr} {H H' : Hp} {p : Addr} (g : Gr d H H') {ys : List V} (hd : H' d = some (.lst ys)) (h : H' p = none) : H p = none := by
  cases q : H p with
  | none => rfl
  | some o =>
    by_cases e : p = d
    · rw [e, hd] at h; cases h
    · rw [g.keep p o e q] at h; cases h

/-! ### the deck -/
def Dk (n : Nat) (H : Hp) (d : Addr) : Prop := NoT H ∧ ∃ x y z : Int, H d = some (.lst [.int x, .int y, .int z]) ∧ 0 ≤ y ∧ y < 2147483579 ∧ 0 ≤ z ∧ z ≤ (n : Int)
theorem Dk.nt {n : Nat} {H : Hp} {d : Addr} (h : Dk n H d) : NoT H := h.1
theorem Dk.mono {n m : Nat} {H : Hp} {d : Addr} (h : Dk n H d) (e : n ≤ m) : Dk m H d := by
  obtain ⟨a, x, y, z, h1, h2, h3, h4, h5⟩ := h
  exact ⟨a, x, y, z, h1, h2, h3, h4, by omega⟩
theorem Dk.lst {n : Nat} {H : Hp} {d : Addr} (h : Dk n H d) : ∃ xs, H d = some (.lst xs) := by
  obtain ⟨_, x, y, z, h1, _⟩ := h
  exact ⟨_, h1⟩
/-- a new thing beside the deck -/
theorem Dk.new {n : Nat} {H : Hp} {d p : Addr} {o : HO} (h : Dk n H d) (hp : H p = none) (ho : Pl o = true) : Dk n (upd H p o) d := by
  obtain ⟨a, x, y, z, h1, h2⟩ := h
  exact ⟨a.upd ho, x, y, z, by rw [upd_ne (ne_of_none h1 hp)]; exact h1, h2⟩
theorem Dk.same {n : Nat} {H H' : Hp} {d : Addr} (h : Dk n H d) (s : Same H H') (n' : NoT H') : Dk n H' d := by
  obtain ⟨a, x, y, z, h1, h2⟩ := h
  exact ⟨n', x, y, z, s _ _ h1, h2⟩
theorem Dk.ne_t {n : Nat} {H : Hp} {d a : Addr} {xs : List V} (h : Dk n H d) (ht : H a = some (.tup xs)) : a ≠ d := fun e => by
  obtain ⟨_, x, y, z, h1, _⟩ := h
  rw [e, h1] at ht; cases ht

/-! ### lands -/
/-- the land at a -/
def Ld (K : PySem.W.Frag) (H : Hp) (a : Addr) (d t b s : Int) : Prop := SqT K H a [.int d, .int t, .int b, .int s]
end Ly
set_option Elab.async false
set_option linter.all false
set_option maxRecDepth 100000
set_option maxHeartbeats 4000000
/-! the same data; comprehensions over enumerate -/
namespace Ly
open PySem PySem.Spec PyProof.Rows L2
/-- x and y are the same data, at most k deep -/
inductive Sm (K : PySem.W.Frag) (H : Hp) : Nat → V → V → Prop where
  | non (k : Nat) : Sm K H k .non .non
  | bl (k : Nat) (b : Bool) : Sm K H k (.bl b) (.bl b)
  | int (k : Nat) (i : Int) : Sm K H k (.int i) (.int i)
  | str (k : Nat) (x : Str) (h : PyData.strOk x = true) : Sm K H k (.str x) (.str x)
  | lst {k : Nat} {a b : Addr} {xs ys : List V} : SqL K H a xs → SqL K H b ys → xs.length = ys.length → (∀ (i : Nat) x y, xs[i]? = some x → ys[i]? = some y → Sm K H k x y) → Sm K H (k + 1) (.ref a) (.ref b)
  | tup {k : Nat} {a b : Addr} {xs ys : List V} : SqT K H a xs → SqT K H b ys → xs.length = ys.length → (∀ (i : Nat) x y, xs[i]? = some x → ys[i]? = some y → Sm K H k x y) → Sm K H (k + 1) (.ref a) (.ref b)
theorem Sm.mono {K : PySem.W.Frag} {H H' : Hp} (s : Same H H') : ∀ {k : Nat} {x y : V}, Sm K H k x y → Sm K H' k x y := by
  intro k x y h
  induction h with
  | non k => exact .non k
  | bl k b => exact .bl k b
  | int k i => exact .int k i
  | str k x h => exact .str k x h
  | lst h1 h2 h3 _ ih => exact .lst (Same.l s h1) (Same.l s h2) h3 ih
  | tup h1 h2 h3 _ ih => exact .tup (Same.t s h1) (Same.t s h2) h3 ih
theorem Sm.kinds {K : PySem.W.Frag} {H : Hp} {k : Nat} {x y : V} (h : Sm K H k x y) : ∃ n, Kn K H x n ∧ Kn K H y n := by
  cases h with
  | non => exact ⟨_, .non, .non⟩
  | bl _ b => exact ⟨_, .bl b, .bl b⟩
  | int _ i => exact ⟨_, .int i, .int i⟩
  | str _ x _ => exact ⟨_, .str x, .str x⟩
  | lst h1 h2 => exact ⟨_, .lst h1, .lst h2⟩
  | tup h1 h2 => exact ⟨_, .tup h1, .tup h2⟩
theorem Sm.up {K : PySem.W.Frag} {H : Hp} : ∀ {k j : Nat} {x y : V}, Sm K H k x y → k ≤ j → Sm K H j x y := by
  intro k j x y h
  induction h generalizing j with
  | non k => intro _; exact .non _
  | bl k b => intro _; exact .bl _ b
  | int k i => intro _; exact .int _ i
  | str k x h => intro _; exact .str _ x h
  | lst h1 h2 h3 _ ih =>
    intro e
    obtain ⟨j, rfl⟩ : ∃ i, j = i + 1 := ⟨j - 1, by omega⟩
    exact .lst h1 h2 h3 fun i x y a b => ih i x y a b (by omega)
  | tup h1 h2 h3 _ ih =>
    intro e
    obtain ⟨j, rfl⟩ : ∃ i, j = i + 1 := ⟨j - 1, by omega⟩
    exact .tup h1 h2 h3 fun i x y a b => ih i x y a b (by omega)
/-- lists of ints -/
theorem Sm.ints {K : PySem.W.Frag} {H : Hp} {a b : Addr} {ns : List Int} (h1 : SqL K H a (ns.map V.int)) (h2 : SqL K H b (ns.map V.int)) : Sm K H 1 (.ref a) (.ref b) :=
  .lst h1 h2 rfl fun i x y e1 e2 => by
    rw [e1] at e2
    cases e2
    rw [List.getElem?_map] at e1
    cases q : ns[i]? with
    | none => rw [q] at e1; cases e1
    | some z => rw [q] at e1; cases e1; exact .int 0 z
theorem Sm.tints {K : PySem.W.Frag} {H : Hp} {a b : Addr} {ns : List Int} (h1 : SqT K H a (ns.map V.int)) (h2 : SqT K H b (ns.map V.int)) : Sm K H 1 (.ref a) (.ref b) :=
  .tup h1 h2 rfl fun i x y e1 e2 => by
    rw [e1] at e2
    cases e2
    rw [List.getElem?_map] at e1
    cases q : ns[i]? with
    | none => rw [q] at e1; cases e1
    | some z => rw [q] at e1; cases e1; exact .int 0 z
def sortOf (n : String) : Int := if n = "bool" then 1 else if n = "int" then 2 else if n = "str" then 3 else if n = "list" then 4 else if n = "tuple" then 5 else 6
/-! ### comprehensions over enumerate -/
section
variable {K : PySem.W.Frag} {a : Addr} {xs : List V} {g : TG} {tt : TT} {te : TE} {vs : List Nat} {σ : L2.St} {H1 : Hp} {D : Addr} {Qd : Hp → Prop}
theorem lc_enumL (Pv : Nat → Hp → Prop) (h0 : Pv 0 (upd H1 D (.lst []))) (hl : ∀ i H, i ≤ xs.length → Pv i H → SqL K H a xs)
    (hs : ∀ (i : Nat) x T H, xs[i]? = some x → H T = none → Pv i H → g (.ref T) (wipe σ vs) (upd H T (.tup [.int (i : Nat), x])) fun σ2 H2 => wipe σ2 vs = wipe σ vs ∧ tt σ2 H2 fun b H3 =>
      if b = true then te σ2 H3 fun y H4 => ∃ acc, H4 D = some (.lst acc) ∧ acc.length < sizeLine ∧ Pv (i + 1) (upd H4 D (.lst (acc ++ [y]))) else Pv (i + 1) H3) (hd : ∀ H, Pv xs.length H → Qd H) :
    ∃ W : Nat → Nat → Hp → Prop, (∃ m, W 0 m (upd H1 D (.lst []))) ∧ ∀ i m H, W i m H →
      ((Ite K a).stop i H ∧ Qd H) ∨ ((Ite K a).go i H ∧ ∃ Nx : Hp → Prop, (∀ H', Nx H' → ∃ m', m' < m ∧ W (i + 1) m' H') ∧ ∀ x H', (Ite K a).yld i H x H' → g x (wipe σ vs) H' fun σ2 H2 => wipe σ2 vs = wipe σ vs ∧ tt σ2 H2 fun b H3 =>
        if b = true then te σ2 H3 fun y H4 => ∃ acc, H4 D = some (.lst acc) ∧ acc.length < sizeLine ∧ Nx (upd H4 D (.lst (acc ++ [y]))) else Nx H3) := by
  refine ⟨fun i m H => m = xs.length - i ∧ i ≤ xs.length ∧ Pv i H, ⟨xs.length, by simp, Nat.zero_le _, h0⟩, ?_⟩
  rintro i m H ⟨rfl, hi, p⟩
  have q := hl i H hi p
  by_cases hlt : i < xs.length
  · refine .inr ⟨⟨xs, xs[i], q, by simp [hlt]⟩, Pv (i + 1), fun H' p' => ⟨xs.length - (i + 1), by omega, rfl, hlt, p'⟩, fun x H' y => ?_⟩
    obtain ⟨T, z, e1, e2, e3, y⟩ := y
    subst e1 e3
    exact hs i z T _ (y xs q) e2 p
  · have e : i = xs.length := by omega
    subst e
    exact .inl ⟨⟨xs, q, Nat.le_refl _⟩, hd H p⟩
theorem lc_enumT (Pv : Nat → Hp → Prop) (h0 : Pv 0 (upd H1 D (.lst []))) (hl : ∀ i H, i ≤ xs.length → Pv i H → SqT K H a xs)
    (hs : ∀ (i : Nat) x T H, xs[i]? = some x → H T = none → Pv i H → g (.ref T) (wipe σ vs) (upd H T (.tup [.int (i : Nat), x])) fun σ2 H2 => wipe σ2 vs = wipe σ vs ∧ tt σ2 H2 fun b H3 =>
      if b = true then te σ2 H3 fun y H4 => ∃ acc, H4 D = some (.lst acc) ∧ acc.length < sizeLine ∧ Pv (i + 1) (upd H4 D (.lst (acc ++ [y]))) else Pv (i + 1) H3) (hd : ∀ H, Pv xs.length H → Qd H) :
    ∃ W : Nat → Nat → Hp → Prop, (∃ m, W 0 m (upd H1 D (.lst []))) ∧ ∀ i m H, W i m H →
      ((IteT K a).stop i H ∧ Qd H) ∨ ((IteT K a).go i H ∧ ∃ Nx : Hp → Prop, (∀ H', Nx H' → ∃ m', m' < m ∧ W (i + 1) m' H') ∧ ∀ x H', (IteT K a).yld i H x H' → g x (wipe σ vs) H' fun σ2 H2 => wipe σ2 vs = wipe σ vs ∧ tt σ2 H2 fun b H3 =>
        if b = true then te σ2 H3 fun y H4 => ∃ acc, H4 D = some (.lst acc) ∧ acc.length < sizeLine ∧ Nx (upd H4 D (.lst (acc ++ [y]))) else Nx H3) := by
  refine ⟨fun i m H => m = xs.length - i ∧ i ≤ xs.length ∧ Pv i H, ⟨xs.length, by simp, Nat.zero_le _, h0⟩, ?_⟩
  rintro i m H ⟨rfl, hi, p⟩
  have q := hl i H hi p
  by_cases hlt : i < xs.length
  · refine .inr ⟨⟨xs, xs[i], q, by simp [hlt]⟩, Pv (i + 1), fun H' p' => ⟨xs.length - (i + 1), by omega, rfl, hlt, p'⟩, fun x H' y => ?_⟩
    obtain ⟨T, z, e1, e2, e3, y⟩ := y
    subst e1 e3
    exact hs i z T _ (y xs q) e2 p
  · have e : i = xs.length := by omega
    subst e
    exact .inl ⟨⟨xs, q, Nat.le_refl _⟩, hd H p⟩
end
end Ly
namespace Ly
open PySem
theorem sh_bl (b : Bool) : SeqAt.shaped (.bool b) = true := by first | rfl | (cases b <;> decide)
theorem sh_int (i : Int) : SeqAt.shaped (.int i) = true := by first | rfl | simp [SeqAt.shaped, PyData.canLay0, PyData.depth]
theorem sh_str {x : Str} (h : PyData.strOk x = true) : SeqAt.shaped (.str x) = true := by simp [SeqAt.shaped, PyData.canLay0, PyData.depth, h]
theorem ev_bl (b : Bool) : PyData.eqv (.bool b) (.bool b) = true := by simp [PyData.eqv]
theorem ev_int (i : Int) : PyData.eqv (.int i) (.int i) = true := by simp [PyData.eqv]
theorem ev_str (x : Str) : PyData.eqv (.str x) (.str x) = true := by simp [PyData.eqv]
end Ly
set_option Elab.async false
set_option linter.all false
set_option maxRecDepth 100000
set_option maxHeartbeats 4000000
namespace Ly
open PySem PySem.Spec PyProof.Rows L2
theorem cells_int {ns : List Int} {k : Int} {i : Nat} {x : V} (h : (cutV ([V.int 0] ++ ns.map V.int) none (some k))[i]? = some x) : ∃ c, x = .int c := by
  have m := List.mem_of_getElem? h
  unfold cutV at m
  have m2 := List.mem_of_mem_drop (List.mem_of_mem_take m)
  rcases List.mem_append.mp m2 with e | e
  · exact ⟨0, by simpa using e⟩
  · obtain ⟨c, _, e⟩ := List.mem_map.mp e
    exact ⟨c, e.symm⟩
theorem sz63 {n : Nat} (h : n ≤ 63) : 1 + n ≤ sizeLine := by rw [sizeLine_eq]; omega
theorem sz_small {n : Nat} (h : n < 100000) : n < sizeLine := by rw [sizeLine_eq]; omega
/-- so many ones -/
def ones (n : Nat) : List V := List.replicate n (.int 1)
theorem ones_len (n : Nat) : (ones n).length = n := List.length_replicate
theorem ones_succ (n : Nat) : ones n ++ [.int 1] = ones (n + 1) := by
  unfold ones
  rw [List.replicate_succ']
end Ly
set_option Elab.async false
set_option linter.all false
set_option maxRecDepth 100000
set_option maxHeartbeats 4000000
/-! set(list), comprehensions over zip -/
namespace Ly
open PySem PySem.Spec PyProof.Rows L2
/-- an empty set object of this world -/
abbrev set0 (w : World) : Obj := { cls := .type "set", dict := none, data := .set #[] 0 (.fresh 0 0 (!w.params.followText "set-order")) }
section
variable {P : Program} {w : World} {A : Around} {E : Value → Shared → Prop} {s : Shared}
theorem set_of_ints {l : Addr} {items : Array Value} (ns : List Int) {Q : Value → Shared → Prop} (hh : A.handled = none) (hl : s.heap.IsList l items) (hit : IntsAre items.toList ns) (hb : ns.length + 1 < scanBound)
    (fin : ∀ (h' : Heap) (tk c : Nat), SetR w h' s.heap.objs.size (fun j => decide (j ∈ ns)) c → c ≤ ns.length → (∀ b o, s.heap.get? b = some o → h'.get? b = some o) → Q (.ref s.heap.objs.size) { s with heap := h', toks := tk }) :
    wpAny (model P w) A (call (.type "set") [.ref l]) Q E s := by
  have zn : items.size = ns.length := by
    rw [← Array.length_toList]
    exact IntsAre.length hit
  obtain ⟨c, tl, hmro⟩ := F.called_set.mro
  have m1 := F.called_set.made
  have m2 := F.called_set.sub
  refine wpAny_call (codeAny_of_tree ?_)
  show wpAny _ _ (callAny (.type "set") _) _ _ _
  refine wpAny_pure ⟨Code.quiet_builtin _ (by decide +kernel), codeAny_builtin F.entry_type_call ?_⟩
  rw [Around.under_plain (weight_type_call_type "set" [.ref l] []) rfl]
  have m3 := F.called_set.notType
  have m4 := F.called_set.canCreate
  have m5 := F.typeCall_set_1 (.ref l)
  repeat (any_goals (first | assumption | wp_step))
  refine codeAny_mono (code_set_led1 (.ref l) (E := E) (Q₁ := fun ob t => ob = .ref s.heap.objs.size ∧ t = { s with heap := s.heap.push (set0 w) }) ⟨rfl, rfl⟩) fun r s1 hr => ?_
  cases r with
  | error e => exact hr
  | ok fl =>
    cases fl with
    | ret ob =>
      obtain ⟨rfl, rfl⟩ := hr
      have g0 : (s.heap.push (set0 w)).get? s.heap.objs.size = some (set0 w) := Heap.get?_push_size _ rfl
      have ty : Shared.TypeIs { s with heap := s.heap.push (set0 w) } (.ref s.heap.objs.size) "set" := ⟨_, g0, rfl⟩
      have i1 := F.called_set.init.lookup
      have i2 := F.called_set.init.bind (.ref s.heap.objs.size)
      repeat (any_goals (first | assumption | wp_step))
      refine codeAny_mono (codeAny_call_builtin (R := wants (fun r t => r = .none ∧ ∃ h' tk c, t = { s with heap := h', toks := tk } ∧ SetR w h' s.heap.objs.size (fun j => decide (j ∈ ns)) c ∧ c ≤ ns.length ∧
          (∀ b o, s.heap.get? b = some o → h'.get? b = some o)) E) F.called_set.init.plain F.entry_set_init (check_set_init_1 ty ?_)) fun r2 s2 hr2 => ?_
      · obtain ⟨⟨oc, od, odt, osl⟩, ho, e1, nl, e2⟩ := hl
        simp only at e1 e2
        subst e1; subst e2
        have ho' : (s.heap.push (set0 w)).get? l = some { cls := .type "list", dict := od, data := .seq items nl, slots := osl } := Heap.get?_push_of_some _ ho
        have n1 := F.sub_list_set
        have n2 := F.sub_list_frozenset
        have n3 : (Value.type "list" == Value.type "dict") = false := by decide
        have hl1 : (s.heap.push (set0 w)).IsList l items := ⟨_, ho', rfl, nl, rfl⟩
        unfold Builtin.«set.__init__» noKeywords Builtin.Frozenset.updateFrom
        generalize hPI : pyIter = PI
        wp_walk
        subst hPI
        refine wpAny_pyIter_list hl1 ?_
        refine wpAny_bind (wpAny_runValue ?_)
        have lt : l < s.heap.objs.size := Heap.lt_size ho
        have h3 : A.in1.in1.in1.handled = none := by simp [hh]
        have ne : l ≠ (s.heap.push (set0 w)).objs.size := by
          rw [Heap.size_push]; exact Nat.ne_of_lt (Nat.lt_succ_of_lt lt)
        have nf : s.heap.objs.size ∉ [(s.heap.push (set0 w)).objs.size, l] := by
          rw [Heap.size_push]
          simp only [List.mem_cons, List.not_mem_nil, or_false, not_or]
          exact ⟨Nat.ne_of_lt (Nat.lt_succ_self _), Nat.ne_of_gt lt⟩
        have val : ∀ (i : Nat) (v : Value), items[i]? = some v → ∃ k t, ns[i]? = some k ∧ v = .int k t := fun i v hv => by
          have hi : i < ns.length := by rw [← zn]; exact (Array.getElem?_eq_some_iff.mp hv).1
          obtain ⟨t, e⟩ := PyProof.Rows.IntsAre.int_at hit i v (by rw [Array.getElem?_toList]; exact hv)
          refine ⟨ns[i], t, List.getElem?_eq_getElem hi, ?_⟩
          rw [e, List.getD_eq_getElem?_getD, List.getElem?_eq_getElem hi] <;> rfl
        refine set_update_ints ((Walks.list h3 _ l ne items).toS) s.heap.objs.size nf ns zn hb val (items.size - 0) 0 _ (by omega) (Nat.zero_le _)
          ⟨⟨_, Heap.get?_push_size _ rfl, rfl, rfl⟩, (hl1.push _)⟩ ⟨0, Nat.le_refl 0, setR_new_at (Heap.get?_push_of_some _ g0)⟩ fun s' c' hm hc' hS' => ?_
        obtain ⟨h', g2, d', tk', os'⟩ := s'
        have eg : g2 = s.gens := hm.gens
        have ed : d' = s.drawn := hm.drawn
        have eo : os' = s.os := hm.os
        subst eg; subst ed; subst eo
        show wpAny _ _ _ _ _ _
        refine wpAny_pure ?_
        show wpAny _ _ (ret Value.none) _ _ _
        rw [zn] at hc'
        refine wpAny_pure ⟨rfl, h', tk', c', rfl, hS', hc', fun b o e => ?_⟩
        have b0 : b < s.heap.objs.size := Heap.lt_size e
        refine hm.heap b o ?_ (Heap.get?_push_of_some _ (Heap.get?_push_of_some _ e))
        rw [Heap.size_push]
        simp only [List.mem_cons, List.not_mem_nil, or_false, not_or]
        exact ⟨Nat.ne_of_lt b0, Nat.ne_of_lt (Nat.lt_succ_of_lt b0)⟩
      · cases r2 with
        | error e => exact hr2
        | ok fl2 =>
          cases fl2 with
          | ret r =>
            obtain ⟨rfl, h', tk, c', rfl, a1, a2, a3⟩ := hr2
            repeat (any_goals (first | assumption | wp_step))
            exact fin _ _ _ a1 a2 a3
          | _ => exact hr2.elim
    | _ => exact hr.elim
end
section
variable {X : Cx}
/-- set(xs), a list of ints -/
def rSetOf (K : PySem.W.Frag) (w : World) : List V → Hp → VK → Prop := fun vs H Q => ∃ (a : Addr) (ns : List Int), vs = [.ref a] ∧ SqL K H a (ns.map V.int) ∧ ns.length ≤ 2000 ∧
  ∀ p c, H p = none → c ≤ ns.length → Q (.ref p) (upd H p (SetO w p (fun j => decide (j ∈ ns)) c))
theorem cr_setOf (hc : X.calm = true) : CallR X (.type "set") (rSetOf X.K X.w) := by
  intro pins s σ H vs us Q I r h
  obtain ⟨a, ns, rfl, hq, hl, q⟩ := h
  obtain rfl := Vals.ref1 r
  obtain ⟨its, rv, p, hz⟩ := I.list hq
  refine set_of_ints (items := its.toArray) ns (I.ok.hd hc) p.isList (by simpa using Vals.ints rv) (by unfold scanBound; omega) fun h' tk c hS hc' hk => ?_
  exact ⟨.ref _, upd H s.heap.objs.size (SetO X.w s.heap.objs.size (fun j => decide (j ∈ ns)) c), I.laid hk (Nat.le_refl _) (setO_new hS), rfl, q _ c I.fresh hc'⟩
theorem pl_set {w : World} {p : Addr} {S : Int → Bool} {n : Nat} : Pl (SetO w p S n) = true := rfl
end
/-! ### comprehensions over zip of two lists -/
section
variable {K : PySem.W.Frag} {a b : Addr} {xs ys : List V} {g : TG} {tt : TT} {te : TE} {vs : List Nat} {σ : L2.St} {H1 : Hp} {D : Addr} {Qd : Hp → Prop}
theorem lc_zipL (Pv : Nat → Hp → Prop) (h0 : Pv 0 (upd H1 D (.lst []))) (hl : ∀ i H, Pv i H → SqL K H a xs ∧ SqL K H b ys)
    (hs : ∀ (i : Nat) x y T H, xs[i]? = some x → ys[i]? = some y → H T = none → Pv i H → g (.ref T) (wipe σ vs) (upd H T (.tup [x, y])) fun σ2 H2 => wipe σ2 vs = wipe σ vs ∧ tt σ2 H2 fun b H3 =>
      if b = true then te σ2 H3 fun y H4 => ∃ acc, H4 D = some (.lst acc) ∧ acc.length < sizeLine ∧ Pv (i + 1) (upd H4 D (.lst (acc ++ [y]))) else Pv (i + 1) H3) (hd : ∀ H, Pv (min xs.length ys.length) H → Qd H) :
    ∃ W : Nat → Nat → Hp → Prop, (∃ m, W 0 m (upd H1 D (.lst []))) ∧ ∀ i m H, W i m H →
      ((Itz K a b).stop i H ∧ Qd H) ∨ ((Itz K a b).go i H ∧ ∃ Nx : Hp → Prop, (∀ H', Nx H' → ∃ m', m' < m ∧ W (i + 1) m' H') ∧ ∀ x H', (Itz K a b).yld i H x H' → g x (wipe σ vs) H' fun σ2 H2 => wipe σ2 vs = wipe σ vs ∧ tt σ2 H2 fun b H3 =>
        if b = true then te σ2 H3 fun y H4 => ∃ acc, H4 D = some (.lst acc) ∧ acc.length < sizeLine ∧ Nx (upd H4 D (.lst (acc ++ [y]))) else Nx H3) := by
  refine ⟨fun i m H => m = min xs.length ys.length - i ∧ i ≤ min xs.length ys.length ∧ Pv i H, ⟨min xs.length ys.length, by simp, Nat.zero_le _, h0⟩, ?_⟩
  rintro i m H ⟨rfl, hi, p⟩
  obtain ⟨q1, q2⟩ := hl i H p
  by_cases hlt : i < min xs.length ys.length
  · have l1 : i < xs.length := by omega
    have l2 : i < ys.length := by omega
    refine .inr ⟨⟨xs, ys, xs[i], ys[i], q1, q2, List.getElem?_eq_getElem l1, List.getElem?_eq_getElem l2⟩, Pv (i + 1), fun H' p' => ⟨min xs.length ys.length - (i + 1), by omega, rfl, hlt, p'⟩, fun x H' z => ?_⟩
    obtain ⟨T, u, v, e1, e2, e3, f1, f2⟩ := z
    subst e1 e3
    exact hs i u v T _ (f1 xs q1) (f2 ys q2) e2 p
  · have e : i = min xs.length ys.length := by omega
    subst e
    exact .inl ⟨⟨xs, ys, q1, q2, by omega⟩, hd H p⟩
end
end Ly
set_option Elab.async false
set_option linter.all false
set_option maxRecDepth 100000
set_option maxHeartbeats 4000000
/-! comparisons of lists of ints; comprehensions -/
namespace Ly
open PySem PySem.Spec PyProof.Rows L2
theorem dp_ints {K : PySem.W.Frag} {H : Hp} : ∀ ns : List Int, DpAll K H (ns.map V.int) (ns.map PyData.int)
  | [] => .nil
  | n :: ns => .cons (.int n) (dp_ints ns)
theorem eqv_ints : ∀ ns ms : List Int, PyData.eqvAll (ns.map PyData.int) (ms.map PyData.int) = decide (ns = ms)
  | [], [] => by simp [PyData.eqvAll]
  | [], _ :: _ => by simp [PyData.eqvAll]
  | _ :: _, [] => by simp [PyData.eqvAll]
  | a :: r, b :: t => by
    simp only [List.map_cons, PyData.eqvAll, PyData.eqv, eqv_ints r t]
    by_cases h : a = b <;> by_cases h' : r = t <;> simp [h, h']
theorem sh_ints (ns : List Int) : SeqAt.shaped (.list (ns.map PyData.int)) = true := PySem.W.ke_shaped_ints ns
theorem sh_tints (ns : List Int) : SeqAt.shaped (.tuple (ns.map PyData.int)) = true := by
  simp [SeqAt.shaped, PyData.canLay0, PyData.depth, PySem.W.ke_canLayAll0, PySem.W.ke_depthAll]
section
variable {K : PySem.W.Frag} {H : Hp} {a b : Addr} {ns ms : List Int} {Q : VK}
theorem ne_ints (h1 : SqL K H a (ns.map V.int)) (h2 : SqL K H b (ms.map V.int)) (q : Q (.bl (!decide (ns = ms))) H) : rNeD K (.ref a) (.ref b) H Q :=
  ⟨_, _, .lst h1 (dp_ints ns), .lst h2 (dp_ints ms), sh_ints _, sh_ints _, by
    rw [show PyData.eqv (.list (ns.map PyData.int)) (.list (ms.map PyData.int)) = decide (ns = ms) by rw [← eqv_ints]; simp only [PyData.eqv]]
    exact q⟩
theorem eq_ints (h1 : SqL K H a (ns.map V.int)) (h2 : SqL K H b (ms.map V.int)) (q : Q (.bl (decide (ns = ms))) H) : rEqD K (.ref a) (.ref b) H Q :=
  ⟨_, _, .lst h1 (dp_ints ns), .lst h2 (dp_ints ms), sh_ints _, sh_ints _, by
    rw [show PyData.eqv (.list (ns.map PyData.int)) (.list (ms.map PyData.int)) = decide (ns = ms) by rw [← eqv_ints]; simp only [PyData.eqv]]
    exact q⟩
theorem ne_tints (h1 : SqT K H a (ns.map V.int)) (h2 : SqT K H b (ms.map V.int)) (q : Q (.bl (!decide (ns = ms))) H) : rNeD K (.ref a) (.ref b) H Q :=
  ⟨_, _, .tup h1 (dp_ints ns), .tup h2 (dp_ints ms), sh_tints _, sh_tints _, by
    rw [show PyData.eqv (.tuple (ns.map PyData.int)) (.tuple (ms.map PyData.int)) = decide (ns = ms) by rw [← eqv_ints]; simp only [PyData.eqv]]
    exact q⟩
theorem eq_tints (h1 : SqT K H a (ns.map V.int)) (h2 : SqT K H b (ms.map V.int)) (q : Q (.bl (decide (ns = ms))) H) : rEqD K (.ref a) (.ref b) H Q :=
  ⟨_, _, .tup h1 (dp_ints ns), .tup h2 (dp_ints ms), sh_tints _, sh_tints _, by
    rw [show PyData.eqv (.tuple (ns.map PyData.int)) (.tuple (ms.map PyData.int)) = decide (ns = ms) by rw [← eqv_ints]; simp only [PyData.eqv]]
    exact q⟩
theorem ne_nil (h1 : SqL K H a (ns.map V.int)) (h2 : SqL K H b []) (q : Q (.bl (!decide (ns = []))) H) : rNeD K (.ref a) (.ref b) H Q := ne_ints (ms := []) h1 h2 q
theorem eq_nil (h1 : SqL K H a (ns.map V.int)) (h2 : SqL K H b []) (q : Q (.bl (decide (ns = []))) H) : rEqD K (.ref a) (.ref b) H Q := eq_ints (ms := []) h1 h2 q
end
/-- one more thing behind what is made -/
theorem acc_put {H : Hp} {D : Addr} {acc acc' : List V} {y : V} (hl : acc.length < sizeLine) (e : acc ++ [y] = acc') : ∃ a, (upd H D (.lst acc)) D = some (.lst a) ∧ a.length < sizeLine ∧ upd (upd H D (.lst acc)) D (.lst (a ++ [y])) = upd H D (.lst acc') := by
  subst e
  exact ⟨acc, upd_same, hl, by rw [upd_upd]⟩
theorem take_put {xs : List Int} {i : Nat} {x : Int} (h : xs[i]? = some x) : (xs.take i).map V.int ++ [.int x] = (xs.take (i + 1)).map V.int := by
  rw [List.take_succ, h, List.map_append]; rfl
theorem take_len {xs : List Int} {i : Nat} (h : xs.length < 100000) : ((xs.take i).map V.int).length < sizeLine := by
  rw [List.length_map, List.length_take]
  exact sz_small (by omega)
/-- [f(x) for x in xs], ints -/
theorem lc_mapI {K : PySem.W.Frag} {a : Addr} {ns : List Int} {f : Int → Int} {g : Nat} {te : TE} {vs : List Nat} {σ : L2.St} {H : Hp} {D : Addr} {Qd : Hp → Prop} (hS : SqL K H a (ns.map V.int)) (hD : H D = none) (hl : ns.length < 100000)
    (hw : ∀ x, wipe ((wipe σ vs).set g (some x)) vs = wipe σ vs)
    (he : ∀ (i : Nat) n H', ns[i]? = some n → Same H H' → ∀ Q : VK, Q (.int (f n)) H' → te ((wipe σ vs).set g (some (.int n))) H' Q)
    (hd : Qd (upd H D (.lst ((ns.map f).map V.int)))) :
    ∃ W : Nat → Nat → Hp → Prop, (∃ m, W 0 m (upd H D (.lst []))) ∧ ∀ i m H, W i m H →
      ((Itl K a).stop i H ∧ Qd H) ∨ ((Itl K a).go i H ∧ ∃ Nx : Hp → Prop, (∀ H', Nx H' → ∃ m', m' < m ∧ W (i + 1) m' H') ∧ ∀ x H', (Itl K a).yld i H x H' → gName g x (wipe σ vs) H' fun σ2 H2 => wipe σ2 vs = wipe σ vs ∧ tYes σ2 H2 fun b H3 =>
        if b = true then te σ2 H3 fun y H4 => ∃ acc, H4 D = some (.lst acc) ∧ acc.length < sizeLine ∧ Nx (upd H4 D (.lst (acc ++ [y]))) else Nx H3) := by
  refine lc_list (xs := ns.map V.int) (fun i H' => H' = upd H D (.lst (((ns.map f).take i).map V.int))) rfl (fun i H' _ p => by subst p; exact Same.l (same_new hD) hS) (fun i x H' hx p => ?_) (fun H' p => ?_)
  · subst p
    rw [List.getElem?_map] at hx
    cases q : ns[i]? with
    | none => rw [q] at hx; cases hx
    | some n =>
      rw [q] at hx
      cases hx
      refine ⟨hw _, ?_⟩
      show te _ _ _
      refine he i n _ q (same_new hD) _ ?_
      exact acc_put (take_len (by rw [List.length_map]; exact hl)) (take_put (x := f n) (by rw [List.getElem?_map, q]; rfl))
  · subst p
    rw [List.length_map, List.take_of_length_le (by rw [List.length_map]; exact Nat.le_refl _)]
    exact hd
/-- [x for x in range(..) if p(x)] -/
theorem lc_flt {lo : Int} {n : Nat} {p : Int → Bool} {g : Nat} {tt : TT} {vs : List Nat} {σ : L2.St} {H : Hp} {D : Addr} {Qd : Hp → Prop} (hD : H D = none) (hl : n < 100000)
    (hw : ∀ x, wipe ((wipe σ vs).set g (some x)) vs = wipe σ vs) (hi : ∀ x, ((wipe σ vs).set g (some x))[g]? = some (some x))
    (ht : ∀ (i : Nat) H', i < n → Same H H' → ∀ Q : Bool → Hp → Prop, Q (p (lo + i)) H' → tt ((wipe σ vs).set g (some (.int (lo + i)))) H' Q)
    (hd : Qd (upd H D (.lst ((flt p lo n).map V.int)))) :
    ∃ W : Nat → Nat → Hp → Prop, (∃ m, W 0 m (upd H D (.lst []))) ∧ ∀ i m H, W i m H →
      ((Itr lo n).stop i H ∧ Qd H) ∨ ((Itr lo n).go i H ∧ ∃ Nx : Hp → Prop, (∀ H', Nx H' → ∃ m', m' < m ∧ W (i + 1) m' H') ∧ ∀ x H', (Itr lo n).yld i H x H' → gName g x (wipe σ vs) H' fun σ2 H2 => wipe σ2 vs = wipe σ vs ∧ tt σ2 H2 fun b H3 =>
        if b = true then tVar g σ2 H3 fun y H4 => ∃ acc, H4 D = some (.lst acc) ∧ acc.length < sizeLine ∧ Nx (upd H4 D (.lst (acc ++ [y]))) else Nx H3) := by
  refine lc_range (lo := lo) (n := n) (fun i H' => H' = upd H D (.lst ((flt p lo i).map V.int))) rfl (fun i H' hi' q => ?_) (fun H' q => ?_)
  · subst q
    refine ⟨hw _, ht i _ hi' (same_new hD) _ ?_⟩
    have fl := flt_len (p := p) (a := lo) (n := i)
    cases c : p (lo + i) with
    | true =>
      refine iteT ⟨_, hi _, ?_⟩
      refine acc_put (by rw [List.length_map]; exact sz_small (by omega)) ?_
      show _ = ((if p (lo + i) = true then _ else _ : List Int).map V.int)
      rw [if_pos c, List.map_append]
      rfl
    | false =>
      refine iteF ?_
      show _ = upd H D (.lst ((if p (lo + i) = true then _ else _ : List Int).map V.int))
      rw [if_neg (by rw [c]; decide)]
  · subst q
    exact hd
/-- [x for x in xs if p(x)], ints -/
theorem lc_fltL {K : PySem.W.Frag} {a : Addr} {ns : List Int} {p : Int → Bool} {g : Nat} {tt : TT} {vs : List Nat} {σ : L2.St} {H : Hp} {D : Addr} {Qd : Hp → Prop} (hS : SqL K H a (ns.map V.int)) (hD : H D = none) (hl : ns.length < 100000)
    (hw : ∀ x, wipe ((wipe σ vs).set g (some x)) vs = wipe σ vs) (hi : ∀ x, ((wipe σ vs).set g (some x))[g]? = some (some x))
    (ht : ∀ (i : Nat) n H', ns[i]? = some n → Same H H' → ∀ Q : Bool → Hp → Prop, Q (p n) H' → tt ((wipe σ vs).set g (some (.int n))) H' Q)
    (hd : Qd (upd H D (.lst ((ns.filter p).map V.int)))) :
    ∃ W : Nat → Nat → Hp → Prop, (∃ m, W 0 m (upd H D (.lst []))) ∧ ∀ i m H, W i m H →
      ((Itl K a).stop i H ∧ Qd H) ∨ ((Itl K a).go i H ∧ ∃ Nx : Hp → Prop, (∀ H', Nx H' → ∃ m', m' < m ∧ W (i + 1) m' H') ∧ ∀ x H', (Itl K a).yld i H x H' → gName g x (wipe σ vs) H' fun σ2 H2 => wipe σ2 vs = wipe σ vs ∧ tt σ2 H2 fun b H3 =>
        if b = true then tVar g σ2 H3 fun y H4 => ∃ acc, H4 D = some (.lst acc) ∧ acc.length < sizeLine ∧ Nx (upd H4 D (.lst (acc ++ [y]))) else Nx H3) := by
  refine lc_list (xs := ns.map V.int) (fun i H' => H' = upd H D (.lst (((ns.take i).filter p).map V.int))) rfl (fun i H' _ p => by subst p; exact Same.l (same_new hD) hS) (fun i x H' hx q => ?_) (fun H' q => ?_)
  · subst q
    rw [List.getElem?_map] at hx
    cases q : ns[i]? with
    | none => rw [q] at hx; cases hx
    | some n =>
      rw [q] at hx
      cases hx
      have e : ns.take (i + 1) = ns.take i ++ [n] := by rw [List.take_succ, q]; rfl
      refine ⟨hw _, ht i n _ q (same_new hD) _ ?_⟩
      cases c : p n with
      | true =>
        refine iteT ⟨_, hi _, ?_⟩
        refine acc_put ?_ ?_
        · rw [List.length_map]
          refine sz_small (Nat.lt_of_le_of_lt (List.length_filter_le ..) ?_)
          rw [List.length_take]; omega
        · rw [e, List.filter_append, List.map_append]
          simp [c]
      | false =>
        refine iteF ?_
        rw [e, List.filter_append]
        simp [c]
  · subst q
    rw [List.length_map, List.take_of_length_le (Nat.le_refl _)]
    exact hd
/-- [f(x, y) for x, y in zip(xs, ys)], ints -/
theorem lc_zipI {K : PySem.W.Frag} {a b : Addr} {ns ms : List Int} {f : Int → Int → Int} {i1 i2 : Nat} {te : TE} {vs : List Nat} {σ : L2.St} {H : Hp} {D : Addr} {Qd : Hp → Prop} (h1 : SqL K H a (ns.map V.int)) (h2 : SqL K H b (ms.map V.int)) (hD : H D = none) (nt : NoT H) (hl : ns.length < 100000)
    (hw : ∀ x y, wipe (((wipe σ vs).set i1 (some x)).set i2 (some y)) vs = wipe σ vs)
    (he : ∀ n m H', Same H H' → ∀ Q : VK, Q (.int (f n m)) H' → te (((wipe σ vs).set i1 (some (.int n))).set i2 (some (.int m))) H' Q)
    (hd : ∀ H', Same H H' → NoT H' → H' D = some (.lst ((List.zipWith f ns ms).map V.int)) → Qd H') :
    ∃ W : Nat → Nat → Hp → Prop, (∃ m, W 0 m (upd H D (.lst []))) ∧ ∀ i m H, W i m H →
      ((Itz K a b).stop i H ∧ Qd H) ∨ ((Itz K a b).go i H ∧ ∃ Nx : Hp → Prop, (∀ H', Nx H' → ∃ m', m' < m ∧ W (i + 1) m' H') ∧ ∀ x H', (Itz K a b).yld i H x H' → gTup K 2 (gCons (gName i1) (gCons (gName i2) gNil)) x (wipe σ vs) H' fun σ2 H2 => wipe σ2 vs = wipe σ vs ∧ tYes σ2 H2 fun b H3 =>
        if b = true then te σ2 H3 fun y H4 => ∃ acc, H4 D = some (.lst acc) ∧ acc.length < sizeLine ∧ Nx (upd H4 D (.lst (acc ++ [y]))) else Nx H3) := by
  refine lc_zipL (xs := ns.map V.int) (ys := ms.map V.int) (fun i H' => Same H H' ∧ NoT H' ∧ H' D = some (.lst (((List.zipWith f ns ms).take i).map V.int))) ⟨same_new hD, nt.lst, upd_same⟩ (fun i H' p => ⟨Same.l p.1 h1, Same.l p.1 h2⟩) (fun i x y T H' hx' hy' hT p => ?_) (fun H' p => ?_)
  · obtain ⟨p1, p2, p3⟩ := p
    rw [List.getElem?_map] at hx' hy'
    cases qx : ns[i]? with
    | none => rw [qx] at hx'; cases hx'
    | some n =>
      cases qy : ms[i]? with
      | none => rw [qy] at hy'; cases hy'
      | some m =>
        rw [qx] at hx'
        rw [qy] at hy'
        cases hx'
        cases hy'
        have s2 : Same H (upd H' T (.tup [.int n, .int m])) := p1.trans (same_new hT)
        have zg : (List.zipWith f ns ms)[i]? = some (f n m) := by rw [List.getElem?_zipWith, qx, qy]
        refine ⟨T, _, rfl, SqT.of upd_same, rfl, _, _, rfl, _, _, rfl, rfl, hw _ _, ?_⟩
        show te _ _ _
        refine he n m _ s2 _ ⟨_, same_new hT _ _ p3, ?_, ?_, p2.tup.lst, ?_⟩
        · rw [List.length_map, List.length_take, List.length_zipWith]
          exact sz_small (by omega)
        · intro b o e
          by_cases c : b = D
          · subst c; rw [hD] at e; cases e
          · rw [upd_ne c]; exact s2 b o e
        · rw [upd_same, take_put zg]
  · refine hd H' p.1 p.2.1 ?_
    rw [p.2.2, List.take_of_length_le (by rw [List.length_zipWith, List.length_map, List.length_map]; omega)]
theorem cutV_nat {xs : List V} {k : Nat} : cutV xs none (some (k : Int)) = xs.take k := by
  unfold cutV
  rw [HT.sIx_none, HT.sIx_nat, List.drop_zero, Nat.sub_zero]
  by_cases h : k ≤ xs.length
  · rw [Nat.min_eq_left h]
  · rw [Nat.min_eq_right (by omega), List.take_of_length_le (Nat.le_refl _), List.take_of_length_le (by omega)]
theorem cutV_from {xs : List V} {k : Nat} : cutV xs (some (k : Int)) none = xs.drop k := by
  unfold cutV
  rw [HT.sIx_none, HT.sIx_nat]
  rw [List.take_of_length_le (by rw [List.length_drop]; omega)]
  by_cases h : k ≤ xs.length
  · rw [Nat.min_eq_left h]
  · rw [Nat.min_eq_right (by omega), List.drop_of_length_le (Nat.le_refl _), List.drop_of_length_le (by omega)]
theorem cut_to {ns : List Int} {k : Nat} : cutV (ns.map V.int) none (some (k : Int)) = (ns.take k).map V.int := by rw [cutV_nat, List.map_take]
theorem cut_from {ns : List Int} {k : Nat} : cutV (ns.map V.int) (some (k : Int)) none = (ns.drop k).map V.int := by rw [cutV_from, List.map_drop]
/-- zip(zs, zs[1:] + [z0 + T]) or zip(round, round[1:]): the differences -/
theorem zip_rnd1 {T : Int} {zs : List Int} : List.zipWith (fun a b => b - a) zs (zs.drop 1 ++ (zs.take 1).map (· + T)) = difs (rnd T zs) := by
  unfold difs rnd
  cases zs with
  | nil => rfl
  | cons z zs =>
    simp only [List.take_succ_cons, List.take_zero, List.map_cons, List.map_nil, List.drop_succ_cons, List.drop_zero, List.cons_append, List.tail_cons]
    rw [← List.cons_append]
    have : ∀ (xs ys : List Int) (w : Int), xs.length = ys.length → List.zipWith (fun a b => b - a) (xs ++ [w]) ys = List.zipWith (fun a b : Int => b - a) xs ys := fun xs => by
      induction xs with
      | nil => intro ys w h; cases ys with | nil => rfl | cons y ys => simp at h
      | cons x xs ih =>
        intro ys w h
        cases ys with
        | nil => simp at h
        | cons y ys =>
          simp only [List.cons_append, List.zipWith_cons_cons]
          rw [ih ys w (by simpa using h)]
    rw [this (z :: zs) (zs ++ [z + T]) (z + T) (by simp)]
theorem rnd_len {T : Int} {zs : List Int} : (rnd T zs).length ≤ zs.length + 1 := by
  unfold rnd
  rw [List.length_append, List.length_map, List.length_take]; omega
theorem rnd_of {d t b s pl wk nm T : Int} {ys : List Int} (Y : Yso d t b s pl wk nm ys T) : Rnd (has d t b s pl wk nm) 0 T ys := by
  have tp := Y.tpos
  refine ⟨fun z k => ?_, tp, Y.inc, fun z => ?_⟩
  · rw [Y.good, Y.good, Int.add_mul_emod_self_left]
  · constructor
    · intro h
      have r := Y.rng z h
      refine ⟨r.1, by omega, (Y.good z).mpr ?_⟩
      rw [Int.emod_eq_of_lt r.1 r.2]; exact h
    · rintro ⟨a, b', c⟩
      have := (Y.good z).mp c
      rwa [Int.emod_eq_of_lt a (by omega)] at this
end Ly
set_option Elab.async false
set_option linter.all false
set_option maxRecDepth 100000
set_option maxHeartbeats 4000000
/-! the next one, or None -/
namespace Ly
open PySem PySem.Spec PyProof.Rows L2
/-- o is the first from y on, or None -/
def Nxt (p : Int → Prop) (y : Int) (o : V) : Prop := (o = .non ∧ ∀ z, ¬ p z) ∨ ∃ m, o = .int m ∧ Fst p y m
theorem Rnd.nxt {p : Int → Prop} {a T : Int} {zs : List Int} (R : Rnd p a T zs) : ∃ o, Nxt p a o ∧ (zs = [] → o = .non) ∧ ∀ m r, zs = m :: r → o = .int m := by
  cases zs with
  | nil => exact ⟨.non, .inl ⟨rfl, R.ne.mp rfl⟩, fun _ => rfl, fun m r e => (nomatch e)⟩
  | cons m r => exact ⟨.int m, .inr ⟨m, rfl, R.fst rfl⟩, fun e => (nomatch e), fun m' r' e => by cases e; rfl⟩
theorem Rnd.head {p : Int → Prop} {a T : Int} {zs : List Int} {o : V} (R : Rnd p a T zs) (n : Nxt p a o) : (zs = [] → o = .non) ∧ ∀ m r, zs = m :: r → o = .int m := by
  constructor
  · intro e
    rcases n with ⟨rfl, _⟩ | ⟨m, rfl, h⟩
    · rfl
    · exact absurd h.2.1 (R.ne.mp e m)
  · intro m r e
    have F := R.fst e
    rcases n with ⟨rfl, h⟩ | ⟨k, rfl, h⟩
    · exact absurd F.2.1 (h m)
    · rw [h.uniq F]
theorem Nxt.uniq {p : Int → Prop} {y : Int} {o o' : V} (a : Nxt p y o) (b : Nxt p y o') : o = o' := by
  rcases a with ⟨rfl, h⟩ | ⟨m, rfl, h⟩
  · rcases b with ⟨rfl, _⟩ | ⟨m, rfl, h'⟩
    · rfl
    · exact absurd h'.2.1 (h m)
  · rcases b with ⟨rfl, h'⟩ | ⟨m', rfl, h'⟩
    · exact absurd h.2.1 (h' m)
    · rw [h.uniq h']
theorem Nxt.sm {K : PySem.W.Frag} {H : Hp} {k : Nat} {p : Int → Prop} {y : Int} {o : V} (a : Nxt p y o) : Sm K H k o o := by
  rcases a with ⟨rfl, _⟩ | ⟨m, rfl, _⟩
  · exact .non k
  · exact .int k m
/-- xs[0] if xs != [] else .. -/
theorem hd_if {K : PySem.W.Frag} {i : Nat} {σ : L2.St} {H : Hp} {Q : VK} {a : Addr} {ns : List Int} {tb : TE} {o : V} (hσ : σ[i]? = some (some (.ref a))) (hS : SqL K H a (ns.map V.int)) (nt : NoT H)
    (h1 : ∀ m r, ns = m :: r → o = .int m) (h2 : ns = [] → ∀ H', Same H H' → NoT H' → tb σ H' Q) (q : ∀ H', Same H H' → NoT H' → Q o H') :
    tIf (tTest (tOp (rNeD K) (tVar i) (tLst tNil))) (tOp (rIxL K) (tVar i) (tC (.int 0))) tb σ H Q := by
  refine ⟨_, hσ, Nat.zero_le _, fun e he => ne_nil (Same.l (same_new he) hS) (SqL.of upd_same) ⟨_, rfl, ?_⟩⟩
  cases ns with
  | nil =>
    rw [decide_eq_true rfl]
    exact iteF (h2 rfl _ (same_new he) nt.lst)
  | cons m r =>
    rw [decide_eq_false (by simp)]
    refine iteT ⟨_, hσ, a, _, 0, .int m, rfl, rfl, Same.l (same_new he) hS, atI_nat (xs := (m :: r).map V.int) (j := 0) (v := .int m) rfl, ?_⟩
    rw [← h1 m r rfl]
    exact q _ (same_new he) nt.lst
/-- xs[0] if xs != [] else None -/
theorem hd_or {K : PySem.W.Frag} {i : Nat} {σ : L2.St} {H : Hp} {Q : VK} {a : Addr} {ns : List Int} {o : V} (hσ : σ[i]? = some (some (.ref a))) (hS : SqL K H a (ns.map V.int)) (nt : NoT H)
    (h : (ns = [] → o = .non) ∧ ∀ m r, ns = m :: r → o = .int m) (q : ∀ H', Same H H' → NoT H' → Q o H') :
    tIf (tTest (tOp (rNeD K) (tVar i) (tLst tNil))) (tOp (rIxL K) (tVar i) (tC (.int 0))) (tC .non) σ H Q :=
  hd_if hσ hS nt h.2 (fun e H' s n => by have := q H' s n; rw [h.1 e] at this; exact this) q
end Ly
namespace Ly
open PySem PySem.Spec PyProof.Rows L2
/-- xs[0] + n if xs != [] else None -/
theorem hd_if2 {K : PySem.W.Frag} {i j : Nat} {σ : L2.St} {H : Hp} {Q : VK} {a : Addr} {ns : List Int} {n : Int} {o : V} (hσ : σ[i]? = some (some (.ref a))) (hn : σ[j]? = some (some (.int n))) (hS : SqL K H a (ns.map V.int)) (nt : NoT H)
    (h1 : ∀ m r, ns = m :: r → o = .int (m + n)) (h2 : ns = [] → o = .non) (q : ∀ H', Same H H' → NoT H' → Q o H') :
    tIf (tTest (tOp (rNeD K) (tVar i) (tLst tNil))) (tOp (rI0 fun x y => .int (x + y)) (tOp (rIxL K) (tVar i) (tC (.int 0))) (tVar j)) (tC .non) σ H Q := by
  refine ⟨_, hσ, Nat.zero_le _, fun e he => ne_nil (Same.l (same_new he) hS) (SqL.of upd_same) ⟨_, rfl, ?_⟩⟩
  cases ns with
  | nil =>
    rw [decide_eq_true rfl]
    have := q _ (same_new (o := .lst []) he) nt.lst
    rw [h2 rfl] at this
    exact iteF this
  | cons m r =>
    rw [decide_eq_false (by simp)]
    refine iteT ⟨_, hσ, a, _, 0, .int m, rfl, rfl, Same.l (same_new he) hS, atI_nat (xs := (m :: r).map V.int) (j := 0) (v := .int m) rfl, _, hn, _, _, rfl, rfl, ?_⟩
    show Q (.int (m + n)) _
    rw [← h1 m r rfl]
    exact q _ (same_new he) nt.lst
theorem hd_if3 {K : PySem.W.Frag} {i j k : Nat} {σ : L2.St} {H : Hp} {Q : VK} {a b : Addr} {ns ms : List Int} {n : Int} {o : V} (hσ : σ[i]? = some (some (.ref a))) (hS : SqL K H a (ns.map V.int)) (h0 : ∀ m r, ns = m :: r → o = .int m)
    (hτ : σ[k]? = some (some (.ref b))) (hn : σ[j]? = some (some (.int n))) (hT : SqL K H b (ms.map V.int)) (nt : NoT H)
    (h1 : ns = [] → ∀ m r, ms = m :: r → o = .int (m + n)) (h2 : ns = [] → ms = [] → o = .non) (q : ∀ H', Same H H' → NoT H' → Q o H') :
    tIf (tTest (tOp (rNeD K) (tVar i) (tLst tNil))) (tOp (rIxL K) (tVar i) (tC (.int 0))) (tIf (tTest (tOp (rNeD K) (tVar k) (tLst tNil))) (tOp (rI0 fun x y => .int (x + y)) (tOp (rIxL K) (tVar k) (tC (.int 0))) (tVar j)) (tC .non)) σ H Q :=
  hd_if hσ hS nt h0 (fun e H' s n => hd_if2 hτ hn (Same.l s hT) n (h1 e) (h2 e) fun H'' s' n' => q H'' (s.trans s') n') q
theorem Nxt.scal {p : Int → Prop} {y : Int} {o : V} (a : Nxt p y o) : scal o o = true := by
  rcases a with ⟨rfl, _⟩ | ⟨m, rfl, _⟩ <;> rfl
end Ly
set_option Elab.async false
set_option linter.all false
set_option maxRecDepth 100000
set_option maxHeartbeats 4000000
/-! comprehensions over a range; kinds kept -/
namespace Ly
open PySem PySem.Spec PyProof.Rows L2
theorem Kn.same {K : PySem.W.Frag} {H H' : Hp} {x : V} {n : String} (s : Same H H') (h : Kn K H x n) : Kn K H' x n := by
  cases h with
  | non => exact .non
  | bl b => exact .bl b
  | int i => exact .int i
  | str x => exact .str x
  | lst h => exact .lst (Same.l s h)
  | tup h => exact .tup (Same.t s h)
/-- [f(x) for x in range(..)] -/
theorem lc_rgV {lo : Int} {n : Nat} {f : Nat → V} {g : Nat} {te : TE} {vs : List Nat} {σ : L2.St} {H : Hp} {D : Addr} {Qd : Hp → Prop} (hD : H D = none) (hl : n < 100000)
    (hw : ∀ x, wipe ((wipe σ vs).set g (some x)) vs = wipe σ vs)
    (he : ∀ (i : Nat) H', i < n → Same H H' → ((∃ ys : List V, H' = upd H D (.lst ys)) → ∀ Q : VK, Q (f i) H' → te ((wipe σ vs).set g (some (.int (lo + i)))) H' Q))
    (hd : Qd (upd H D (.lst ((List.range n).map f)))) :
    ∃ W : Nat → Nat → Hp → Prop, (∃ m, W 0 m (upd H D (.lst []))) ∧ ∀ i m H, W i m H →
      ((Itr lo n).stop i H ∧ Qd H) ∨ ((Itr lo n).go i H ∧ ∃ Nx : Hp → Prop, (∀ H', Nx H' → ∃ m', m' < m ∧ W (i + 1) m' H') ∧ ∀ x H', (Itr lo n).yld i H x H' → gName g x (wipe σ vs) H' fun σ2 H2 => wipe σ2 vs = wipe σ vs ∧ tYes σ2 H2 fun b H3 =>
        if b = true then te σ2 H3 fun y H4 => ∃ acc, H4 D = some (.lst acc) ∧ acc.length < sizeLine ∧ Nx (upd H4 D (.lst (acc ++ [y]))) else Nx H3) := by
  refine lc_range (lo := lo) (n := n) (fun i H' => H' = upd H D (.lst ((List.range i).map f))) rfl (fun i H' hi' q => ?_) (fun H' q => ?_)
  · subst q
    refine ⟨hw _, ?_⟩
    show te _ _ _
    refine he i _ hi' (same_new hD) ⟨_, rfl⟩ _ ?_
    refine acc_put (by rw [List.length_map, List.length_range]; exact sz_small (by omega)) ?_
    rw [List.range_succ, List.map_append]; rfl
  · subst q
    exact hd
theorem all_range {n : Nat} {p : Nat → Bool} : ((List.range n).map p).all id = true ↔ ∀ k, k < n → p k = true := by
  rw [List.all_eq_true]
  constructor
  · intro h k hk
    exact h (p k) (List.mem_map.mpr ⟨k, List.mem_range.mpr hk, rfl⟩)
  · intro h x hx
    obtain ⟨k, hk, rfl⟩ := List.mem_map.mp hx
    exact h k (List.mem_range.mp hk)
/-- a thing that bars -/
def Bar (d t b s pl wk nm : Int) (x : V) : Prop := ∃ i, x = .int i ∧ BarI d t b s pl wk nm i
end Ly
set_option Elab.async false
set_option linter.all false
set_option maxRecDepth 100000
set_option maxHeartbeats 4000000
/-! one statement at a time, the rest kept away -/
namespace Ly
open PySem PySem.Spec PyProof.Rows L2
section
variable {c : TT} {t rest : TS} {te : TE} {ta : TA} {g : TG} {D : Ends} {σ : L2.St} {H : Hp} {i j : Nat}
/-- things may be made beside -/
def Sn (H : Hp) : Hp → Prop := fun H' => Same H H' ∧ NoT H'
theorem Sn.refl {H : Hp} (nt : NoT H) : Sn H H := ⟨Same.refl _, nt⟩
theorem sq_if (R : Hp → Prop) (h : ∀ Q : Bool → Hp → Prop, (∀ H', R H' → Q false H') → c σ H Q) (q : ∀ H', R H' → rest D σ H') : tSeq (tIfS c t tNext) rest D σ H :=
  h _ fun H' r => iteF (q H' r)
theorem sq_ifL (R : Hp → Prop) (h : ∀ Q : Bool → Hp → Prop, (∀ H', R H' → Q false H') → c σ H Q) (q : ∀ H', R H' → D.nx σ H') : tIfS c t tNext D σ H :=
  h _ fun H' r => iteF (q H' r)
theorem sq_set (R : V → Hp → Prop) (h : ∀ Q : VK, (∀ v H', R v H' → Q v H') → te σ H Q) (q : ∀ v H', R v H' → rest D (σ.set i (some v)) H') : tSeq (tAsg te (gName i)) rest D σ H :=
  h _ fun v H' r => q v H' r
theorem sq_asg (R : V → Hp → Prop) (h : ∀ Q : VK, (∀ v H', R v H' → Q v H') → te σ H Q) (q : ∀ v H', R v H' → g v σ H' (rest D)) : tSeq (tAsg te g) rest D σ H :=
  h _ fun v H' r => q v H' r
theorem sq_par (R : V → V → Hp → Prop) (h : ∀ Q : List V → Hp → Prop, (∀ v w H', R v w H' → Q [v, w] H') → ta σ H Q) (q : ∀ v w H', R v w H' → rest D ((σ.set i (some v)).set j (some w)) H') : tSeq (tPar i j ta) rest D σ H :=
  h _ fun v w H' r => ⟨v, w, rfl, q v w H' r⟩
end
end Ly
namespace Ly
open PySem PySem.Spec PyProof.Rows L2
theorem sq_st {t rest : TS} {D : Ends} {σ : L2.St} {H : Hp} (R : L2.St → Hp → Prop) (h : ∀ D' : Ends, (∀ σ' H', R σ' H' → D'.nx σ' H') → t D' σ H) (q : ∀ σ' H', R σ' H' → rest D σ' H') : tSeq t rest D σ H := h _ q
end Ly
namespace Ly
open PySem PySem.Spec PyProof.Rows L2
theorem flat_ints (ns : List Int) : (ns.map V.int).all flatV = true := by
  rw [List.all_eq_true]
  intro x hx
  obtain ⟨n, _, rfl⟩ := List.mem_map.mp hx
  rfl
theorem inV_int {g : Int} {ns : List Int} : inV (.int g) (ns.map V.int) = decide (g ∈ ns) := by
  unfold inV
  rw [Bool.eq_iff_iff, List.any_eq_true, decide_eq_true_iff]
  constructor
  · rintro ⟨x, hx, e⟩
    obtain ⟨n, hn, rfl⟩ := List.mem_map.mp hx
    have : n = g := by simpa [eqV] using e
    subst this; exact hn
  · intro h
    exact ⟨.int g, List.mem_map.mpr ⟨g, h, rfl⟩, by simp [eqV]⟩
/-- the next one is at most a round away -/
theorem fst_near {p : Int → Prop} {T y m : Int} (per : Per p T) (hT : 1 ≤ T) (F : Fst p y m) : m < y + T := by
  have h0 := Int.emod_nonneg (m - y) (show T ≠ 0 by omega)
  have h1 := Int.emod_lt_of_pos (m - y) (show 0 < T by omega)
  have h2 := Int.emod_add_mul_ediv (m - y) T
  have := F.2.2 (y + (m - y) % T) (by omega) (by
    rw [← per _ ((m - y) / T), show y + (m - y) % T + T * ((m - y) / T) = m by omega]
    exact F.2.1)
  omega
end Ly
namespace Ly
open PySem PySem.Spec PyProof.Rows L2
theorem sq_st0 {t rest : TS} {D : Ends} {σ : L2.St} {H : Hp} (R : Hp → Prop) (h : ∀ D' : Ends, (∀ H', R H' → D'.nx σ H') → t D' σ H) (q : ∀ H', R H' → rest D σ H') : tSeq t rest D σ H := h _ q
end Ly
set_option Elab.async false
set_option linter.all false
set_option maxRecDepth 100000
set_option maxHeartbeats 4000000
/-! parted lands -/
namespace Ly
open PySem PySem.Spec PyProof.Rows L2
/-- o is the first year from 0 on that parts two lands, or None -/
def Pt (f g : Int → Int) (o : V) : Prop := (o = .non ∧ ∀ y, f y = g y) ∨ ∃ y, o = .int y ∧ (0 ≤ y ∧ y ≤ 7200) ∧ f y ≠ g y ∧ ∀ k, 0 ≤ k → k < y → f k = g k
theorem Pt.uniq {f g : Int → Int} {o o' : V} (a : Pt f g o) (b : Pt f g o') : o = o' := by
  rcases a with ⟨rfl, h⟩ | ⟨y, rfl, y0, hy, hl⟩
  · rcases b with ⟨rfl, _⟩ | ⟨m, rfl, _, hm, _⟩
    · rfl
    · exact absurd (h m) hm
  · rcases b with ⟨rfl, h⟩ | ⟨m, rfl, m0, hm, hl'⟩
    · exact absurd (h y) hy
    · have h1 : ¬ m < y := fun z => hm (hl m m0.1 z)
      have h2 : ¬ y < m := fun z => hy (hl' y y0.1 z)
      rw [show y = m by omega]
theorem Pt.symm {f g : Int → Int} {o : V} (a : Pt f g o) : Pt g f o := by
  rcases a with ⟨rfl, h⟩ | ⟨y, rfl, y0, hy, hl⟩
  · exact .inl ⟨rfl, fun y => (h y).symm⟩
  · exact .inr ⟨y, rfl, y0, fun z => hy z.symm, fun k a b => (hl k a b).symm⟩
theorem Pt.scal {f g : Int → Int} {o : V} (a : Pt f g o) : scal o o = true := by
  rcases a with ⟨rfl, _⟩ | ⟨m, rfl, _⟩ <;> rfl
end Ly
namespace Ly
open PySem PySem.Spec PyProof.Rows L2
theorem sq_str {t rest : TS} {D : Ends} {σ : L2.St} {H : Hp} (R : L2.St → Hp → Prop) (h : ∀ N : L2.St → Hp → Prop, (∀ σ' H', R σ' H' → N σ' H') → t { D with nx := N } σ H) (q : ∀ σ' H', R σ' H' → rest D σ' H') : tSeq t rest D σ H := h _ q
end Ly
namespace Ly
open PySem PySem.Spec PyProof.Rows L2
theorem yesT {σ : L2.St} {H : Hp} {A B : Hp → Prop} (h : A H) : tYes σ H fun b H3 => if b = true then A H3 else B H3 := iteT (B := B H) h
end Ly
set_option Elab.async false
set_option linter.all false
set_option maxRecDepth 100000
set_option maxHeartbeats 4000000
/-! dicts whose values are lists; dict comprehensions over lists -/
namespace Ly
open PySem PySem.Spec PyProof.Rows L2
theorem putK_len {κ : Type} [DecidableEq κ] (kvs : List (κ × V)) (k : κ) (v : V) : (putK kvs k v).length ≤ kvs.length + 1 := by
  unfold putK
  split
  · rw [List.length_map]; omega
  · rw [List.length_append]; exact Nat.le_refl _
/-- {k(x): True for x in xs}, ints -/
theorem dc_ints {K : PySem.W.Frag} {a : Addr} {ns : List Int} {f : Int → Int} {g : Nat} {tk : TE} {vs : List Nat} {σ : L2.St} {H : Hp} {D : Addr} {Qd : Hp → Prop} (hS : SqL K H a (ns.map V.int)) (hD : H D = none) (hl : ns.length < 100000)
    (hw : ∀ x, wipe ((wipe σ vs).set g (some x)) vs = wipe σ vs)
    (he : ∀ (i : Nat) n H', ns[i]? = some n → Same H H' → ∀ Q : VK, Q (.int (f n)) H' → tk ((wipe σ vs).set g (some (.int n))) H' Q)
    (hd : ∀ kvs : List (Key × V), (∀ r : Int, (valV kvs (Sum.inl r)).isSome = decide (r ∈ ns.map f)) → Qd (upd H D (.dK kvs))) :
    ∃ W : Nat → Nat → Hp → Prop, (∃ m, W 0 m (upd H D (.dK []))) ∧ ∀ i m H, W i m H →
      ((Itl K a).stop i H ∧ Qd H) ∨ ((Itl K a).go i H ∧ ∃ Nx : Hp → Prop, (∀ H', Nx H' → ∃ m', m' < m ∧ W (i + 1) m' H') ∧ ∀ x H', (Itl K a).yld i H x H' → gName g x (wipe σ vs) H' fun σ2 H2 => wipe σ2 vs = wipe σ vs ∧ tYes σ2 H2 fun b H3 =>
        if b = true then tk σ2 H3 fun y H4 => tC (.bl true) σ2 H4 fun z H5 => ∃ kvs k, y = kV k ∧ H5 D = some (.dK kvs) ∧ kvs.length < sizeLine ∧ Nx (upd H5 D (.dK (putK kvs k z))) else Nx H3) := by
  refine ⟨fun i m H' => m = ns.length - i ∧ i ≤ ns.length ∧ ∃ kvs : List (Key × V), H' = upd H D (.dK kvs) ∧ kvs.length ≤ i ∧ ∀ r : Int, (valV kvs (Sum.inl r)).isSome = decide (r ∈ (ns.take i).map f), ⟨ns.length, by simp, Nat.zero_le _, [], rfl, Nat.le_refl _, fun r => by simp [valV_nil]⟩, ?_⟩
  rintro i m H' ⟨rfl, hi, kvs, rfl, hk, hv⟩
  have q := Same.l (same_new (o := .dK kvs) hD) hS
  by_cases hlt : i < ns.length
  · have hx : (ns.map V.int)[i]? = some (.int ns[i]) := by rw [List.getElem?_map, List.getElem?_eq_getElem hlt]; rfl
    refine .inr ⟨⟨_, _, q, hx⟩, fun H' => ∃ kvs : List (Key × V), H' = upd H D (.dK kvs) ∧ kvs.length ≤ i + 1 ∧ ∀ r : Int, (valV kvs (Sum.inl r)).isSome = decide (r ∈ (ns.take (i + 1)).map f), fun H' p' => ⟨ns.length - (i + 1), by omega, rfl, hlt, p'⟩, fun x H' y => ?_⟩
    obtain ⟨e, y⟩ := y
    have ex := y _ q
    rw [hx] at ex
    cases ex
    subst e
    refine ⟨hw _, ?_⟩
    show tk _ _ _
    refine he i _ _ (List.getElem?_eq_getElem hlt) (same_new hD) _ ?_
    refine ⟨kvs, Sum.inl (f ns[i]), rfl, upd_same, sz_small (by omega), _, upd_upd, Nat.le_trans (putK_len ..) (by omega), fun r => ?_⟩
    rw [valV_put, List.take_succ, List.getElem?_eq_getElem hlt, List.map_append]
    by_cases c : r = f ns[i]
    · subst c
      simp
    · rw [if_neg (fun z => c (Sum.inl.inj z)), hv]
      simp [c]
  · have e : i = ns.length := by omega
    subst e
    refine .inl ⟨⟨_, q, by rw [List.length_map]; exact Nat.le_refl _⟩, hd kvs fun r => ?_⟩
    rw [hv, List.take_of_length_le (Nat.le_refl _)]
/-- [f(x) for x in xs], any values -/
theorem lc_mapV {K : PySem.W.Frag} {a : Addr} {ns : List Int} {f : Int → V} {g : Nat} {te : TE} {vs : List Nat} {σ : L2.St} {H : Hp} {D : Addr} {Qd : Hp → Prop} (hS : SqL K H a (ns.map V.int)) (hD : H D = none) (hl : ns.length < 100000)
    (hw : ∀ x, wipe ((wipe σ vs).set g (some x)) vs = wipe σ vs)
    (he : ∀ (i : Nat) n H', ns[i]? = some n → Same H H' → ∀ Q : VK, Q (f n) H' → te ((wipe σ vs).set g (some (.int n))) H' Q)
    (hd : Qd (upd H D (.lst (ns.map f)))) :
    ∃ W : Nat → Nat → Hp → Prop, (∃ m, W 0 m (upd H D (.lst []))) ∧ ∀ i m H, W i m H →
      ((Itl K a).stop i H ∧ Qd H) ∨ ((Itl K a).go i H ∧ ∃ Nx : Hp → Prop, (∀ H', Nx H' → ∃ m', m' < m ∧ W (i + 1) m' H') ∧ ∀ x H', (Itl K a).yld i H x H' → gName g x (wipe σ vs) H' fun σ2 H2 => wipe σ2 vs = wipe σ vs ∧ tYes σ2 H2 fun b H3 =>
        if b = true then te σ2 H3 fun y H4 => ∃ acc, H4 D = some (.lst acc) ∧ acc.length < sizeLine ∧ Nx (upd H4 D (.lst (acc ++ [y]))) else Nx H3) := by
  refine lc_list (xs := ns.map V.int) (fun i H' => H' = upd H D (.lst ((ns.take i).map f))) rfl (fun i H' _ p => by subst p; exact Same.l (same_new hD) hS) (fun i x H' hx p => ?_) (fun H' p => ?_)
  · subst p
    rw [List.getElem?_map] at hx
    cases q : ns[i]? with
    | none => rw [q] at hx; cases hx
    | some n =>
      rw [q] at hx
      cases hx
      refine ⟨hw _, ?_⟩
      show te _ _ _
      refine he i n _ q (same_new hD) _ ?_
      refine acc_put (by rw [List.length_map, List.length_take]; exact sz_small (by omega)) ?_
      rw [List.take_succ, q, List.map_append]; rfl
  · subst p
    rw [List.length_map, List.take_of_length_le (Nat.le_refl _)]
    exact hd
end Ly
namespace Ly
open PySem PySem.Spec PyProof.Rows L2
/-- the slots written out -/
theorem nrm {T : TS} {D : Ends} {σ : L2.St} {H : Hp} (σ' : L2.St) (e : σ = σ') (h : T D σ' H) : T D σ H := by subst e; exact h
end Ly
set_option Elab.async false
set_option linter.all false
set_option maxRecDepth 100000
set_option maxHeartbeats 4000000
/-! truths reckoned with; texts of truths; tuples reversed -/
namespace Ly
open PySem PySem.Spec PyProof.Rows L2
theorem strOk_of (s : String) : PyData.strOk (Str.ofString s) = true := by
  rw [Str.ofString_eq_toList]
  unfold PyData.strOk
  simp only [List.all_toArray, List.all_eq_true, List.mem_map]
  rintro x ⟨c, _, rfl⟩
  have h := c.valid
  rw [decide_eq_true_iff]
  rcases h with h | h
  · have : c.toNat < 55296 := h
    omega
  · exact h.2
section
variable {X : Cx}
/-- True + 1 -/
theorem op_addB : OpR X (binaryOp .Add) (fun x y H Q => ∃ (k : Bool) (j : Int), x = .bl k ∧ y = .int j ∧ Q (.int ((if k = true then (1 : Int) else 0) + j)) H) := by
  intro pins s σ H x y v u Q I rx ry h
  obtain ⟨k, j, rfl, rfl, q⟩ := h
  cases rx
  obtain ⟨t, rfl⟩ := ry
  exact IntBool.add_bool_int ⟨.int _, H, I.tok _, ⟨_, rfl⟩, q⟩
theorem op_subB : OpR X (binaryOp .Sub) (fun x y H Q => ∃ (k : Bool) (j : Int), x = .bl k ∧ y = .int j ∧ Q (.int ((if k = true then (1 : Int) else 0) - j)) H) := by
  intro pins s σ H x y v u Q I rx ry h
  obtain ⟨k, j, rfl, rfl, q⟩ := h
  cases rx
  obtain ⟨t, rfl⟩ := ry
  exact IntBool.sub_bool_int ⟨.int _, H, I.tok _, ⟨_, rfl⟩, q⟩
theorem call_strB : CallR X (.type "str") (fun xs H Q => ∃ k : Bool, xs = [.bl k] ∧ Q (.str (if k then "True" else "False")) H) := by
  intro pins s σ H xs us Q I r h
  obtain ⟨k, rfl, q⟩ := h
  obtain ⟨u, rfl, r1⟩ := vals1 r
  cases r1
  exact PySem.P.str_of_bool ⟨.str _, H, I.tok _, ⟨_, rfl⟩, q⟩
def opAddA : R2 := fun x y H Q => (∃ i j, x = .int i ∧ y = .int j ∧ Q (.int (i + j)) H) ∨ ∃ (k : Bool) (j : Int), x = .bl k ∧ y = .int j ∧ Q (.int ((if k = true then (1 : Int) else 0) + j)) H
def opSubA : R2 := fun x y H Q => (∃ i j, x = .int i ∧ y = .int j ∧ Q (.int (i - j)) H) ∨ ∃ (k : Bool) (j : Int), x = .bl k ∧ y = .int j ∧ Q (.int ((if k = true then (1 : Int) else 0) - j)) H
theorem op_addA : OpR X (binaryOp .Add) opAddA := OpR.or op_add op_addB
theorem op_subA : OpR X (binaryOp .Sub) opSubA := OpR.or op_sub op_subB
def rStrA : List V → Hp → VK → Prop := fun xs H Q => (∃ i, xs = [.int i] ∧ i.natAbs.log2 < 1920 ∧ Q (.str (toString i)) H) ∨ ∃ k : Bool, xs = [.bl k] ∧ Q (.str (if k then "True" else "False")) H
theorem call_strA : CallR X (.type "str") rStrA := CallR.or call_str_int call_strB
/-- list + list or tuple + tuple -/
def rCatA (K : PySem.W.Frag) : R2 := fun x y H Q => rCatS K x y H Q ∨ rCatT K x y H Q
theorem op_catA : OpR X (binaryOp .Add) (rCatA X.K) := OpR.or op_catS op_catT
def rSlLT (K : PySem.W.Frag) : V → Option Int → Option Int → Hp → VK → Prop := fun x lo hi H Q => rSlL K x lo hi H Q ∨ rSlT K x lo hi H Q
theorem sl_LT : SlR X (rSlLT X.K) := SlR.or sl_list sl_tup
end
end Ly
set_option Elab.async false
set_option linter.all false
set_option maxRecDepth 100000
set_option maxHeartbeats 4000000
/-! t[::-1] of a tuple -/
namespace Ly
open PySem PySem.Spec PyProof.Rows L2
theorem rev_pick (xs : Array Value) : ((List.range xs.size).filterMap fun (m : Nat) => xs[(((xs.size : Int) - 1) + (m : Int) * (-1)).toNat]?).toArray = xs.toList.reverse.toArray := by
  have e : (fun (m : Nat) => xs[(((xs.size : Int) - 1) + (m : Int) * (-1)).toNat]?) = (fun k => xs[k]?) ∘ (fun m => xs.size - 1 - m) := by
    funext m
    show xs[_]? = xs[xs.size - 1 - m]?
    congr 1
    omega
  rw [e, ← List.filterMap_map (f := fun m => xs.size - 1 - m) (g := fun k => xs[k]?), PySem.W.krv_range, List.filterMap_reverse, PySem.W.krv_all]
section
variable {prog : Program} {w : World} {A : Around} {E : Value → Shared → Prop} {s : Shared}
theorem applied_rev {sl : Addr} {vl vu vs : Value} {n : Nat} {Q : Int × Int × Nat → Shared → Prop} (hs : s.heap.IsSliceOf sl vl vu vs) (pl : IsPart vl none) (pu : IsPart vu none) (ps : IsPart vs (some (-1)))
    (h : Q ((n : Int) - 1, -1, n) s) : wpAny (model prog w) A (Builtin.Slice.sliceApplied (.ref sl) (pure (n : Int))) Q E s := by
  obtain ⟨ob, ho, _, hd⟩ := id hs
  unfold Builtin.Slice.sliceApplied Builtin.Slice.sliceFields
  refine wpAny_bind (wpAny_bind (wpAny_field ho hd (x := vl) rfl ?_))
  refine wpAny_bind (wpAny_field ho hd (x := vu) rfl ?_)
  refine wpAny_bind (wpAny_field ho hd (x := vs) rfl (wpAny_pure ?_))
  refine wpAny_bind (HT.slicePart_ ps ?_)
  show wpAny _ _ (if ((-1 : Int) == 0) = true then _ else _) _ _ s
  rw [if_neg (by decide)]
  refine wpAny_bind (HT.slicePart_ pl (wpAny_bind (HT.slicePart_ pu (wpAny_bind (wpAny_pure ?_)))))
  have e1 : Builtin.Slice.sliceAdjust none none (-1) (n : Int) = ((n : Int) - 1, -1) := by
    unfold Builtin.Slice.sliceAdjust
    simp
  have e2 : Builtin.Slice.slicePlaces ((n : Int) - 1) (-1) (-1) = n := by
    unfold Builtin.Slice.slicePlaces
    simp
    split <;> omega
  show wpAny _ _ (match Builtin.Slice.sliceAdjust none none (-1) (n : Int) with | (lo, hi) => pure (lo, (-1 : Int), Builtin.Slice.slicePlaces lo hi (-1))) _ _ s
  rw [e1]
  show wpAny _ _ (pure ((n : Int) - 1, (-1 : Int), Builtin.Slice.slicePlaces ((n : Int) - 1) (-1) (-1))) _ _ s
  rw [e2]
  exact wpAny_pure h
theorem tup_rev {t sl : Addr} {items : Array Value} {vl vu vs : Value} {Q : Value → Shared → Prop} (ht : IsTup s.heap t items) (hs : s.heap.IsSliceOf sl vl vu vs) (pl : IsPart vl none) (pu : IsPart vu none) (ps : IsPart vs (some (-1)))
    (h : Q (.ref s.heap.objs.size) { s with heap := s.heap.push { cls := .type "tuple", data := .seq items.toList.reverse.toArray } }) (hz : items.size ≤ sizeLine) : wpAny (model prog w) A (getItem (.ref t) (.ref sl)) Q E s := by
  have ok : sizeOk (.seq items.toList.reverse.toArray) := by
    show items.toList.reverse.toArray.size ≤ sizeLine
    rw [List.size_toArray, List.length_reverse, Array.length_toList]; exact hz
  obtain ⟨ob, ho, hc, _⟩ := id hs
  have ty : s.TypeIs (.ref sl) "slice" := ⟨ob, ho, hc⟩
  unfold getItem
  try with_reducible refine wpAny_holding ?_
  first | refine wpAny_bind (wpAny_pure ?_) | skip
  refine wpAny_bind (wpAny_sequenceKey ht.typeIs (by decide) ?_)
  refine wpAny_bind (wpAny_callSpecial?_slot (name := Str.ofString "__getitem__") ht.typeIs PyProof.Rows.slot_tuple_getitem ?_)
  refine wpAny_call_entry PyProof.Rows.slot_tuple_getitem ht.typeIs entry_tuple_getitem ?_ (args_tuple_getitem _ _)
  show wpAny _ _ (Builtin.Tuple.tupleItemsOf (.ref t) >>= _) _ _ s
  refine wpAny_bind (tupleItemsOf_ ht (wpAny_bind (wpAny_typeOf ty ?_)))
  rw [if_pos (by decide)]
  refine wpAny_bind (applied_rev hs pl pu ps ?_)
  show wpAny _ _ (if (((items.size : Int) - 1) == 0 && (-1 : Int) == 1 && items.size == items.size) = true then _ else _) _ _ s
  rw [if_neg (by simp), rev_pick]
  first
    | exact wpAny_bind (m := Builtin.Tuple.tupleExact _) (wpAny_newObj_type (wpAny_pure ⟨_, rfl, wpAny_pure h⟩) ok)
    | exact wpAny_bind (wpAny_bind (m := Builtin.Tuple.tupleExact _) (wpAny_newObj_type (wpAny_pure ⟨_, rfl, wpAny_pure h⟩) ok))
end
/-- t[::-1], a list or a tuple -/
def tRevA (K : PySem.W.Frag) (te : TE) : TE := fun σ H Q => te σ H fun x H1 => ∃ a xs, x = .ref a ∧ ((SqL K H1 a xs ∧ ∀ p, H1 p = none → Q (.ref p) (upd H1 p (.lst xs.reverse))) ∨ (SqT K H1 a xs ∧ ∀ p, H1 p = none → Q (.ref p) (upd H1 p (.tup xs.reverse))))
theorem pe_revA {X : Cx} {e : Expr} {te : TE} {k : Nat} {p1 p2 p3 pos : Pos} (he : PE X e te) : PE X (.Subscript e (.Slice none none (some (.UnaryOp .USub (.Constant (.int 1) k p1) p2)) p3) pos) (tRevA X.K te) := by
  refine ⟨fun pins s σ H Q I h => ?_⟩
  refine Subscript_ (thn (he.run pins s σ H _ I h) fun v s1 ⟨x, H1, I1, r1, q1⟩ => ?_)
  obtain ⟨a, xs, ex, hx⟩ := q1
  subst ex
  cases r1
  have st : PO X (some (.UnaryOp .USub (.Constant (.int 1) k p1) p2)) (tPart (tUn (rU fun i => .int (-i)) (tC (.int 1)))) := po_some (pe_un un_neg pe_int)
  refine wpAny_Slice (thn (po_none.run pins s1 σ H1 (fun o H2 => o = none ∧ H2 = H1) I1 ⟨rfl, rfl⟩) fun vl s2 ⟨l, H2, I2, pl, el, e2⟩ => ?_)
  subst el e2
  refine thn (po_none.run pins s2 σ H2 (fun o H3 => o = none ∧ H3 = H2) I2 ⟨rfl, rfl⟩) fun vu s3 ⟨u, H3, I3, pu, eu, e3⟩ => ?_
  subst eu e3
  refine thn (st.run pins s3 σ H3 (fun o H4 => o = some (-1) ∧ H4 = H3) I3 ⟨1, rfl, -1, rfl, rfl, rfl⟩) fun vs s4 ⟨o, H4, I4, ps, eo, e4⟩ => ?_
  subst eo e4
  have I5 : Inv X pins σ H4 { s4 with heap := s4.heap.push { cls := .type "slice", data := .fields #[vl, vu, vs] } } := I4.kept (t' := s4.toks) fun b ob q => Heap.get?_push_of_some _ q
  show wpAny (model X.prog X.w) X.A (subscriptTail e _ (.ref a) (.ref s4.heap.objs.size)) (EP X pins σ Q) X.xe _
  rcases hx with ⟨hx, q⟩ | ⟨hx, q⟩
  · obtain ⟨its, r, ht, hz⟩ := I5.list hx
    have hlen := r.length
    refine tail_any (ops := [.ref a, .ref s4.heap.objs.size]) ht.isList.typeIs (PySem.slot_list_getitem.lookup) ?_ (by with_unfolding_all rfl)
    refine wpAny_getItem_list_slice ht.isList (Heap.IsSliceOf.new _ vl vu vs) pl pu ps (by decide) ?_ (by rw [List.size_toArray]; omega)
    rw [PySem.W.krv_pick]
    exact ⟨.ref _, _, I5.laid (t' := s4.toks) (o := .lst xs.reverse) (fun b ob q => Heap.get?_push_of_some _ q) (Nat.le_refl _) ⟨by rw [List.length_reverse]; exact hz, _, 0, r.reverse, Heap.get?_push_size _ rfl⟩, rfl, q _ (I5.hok.fresh (Nat.le_refl _))⟩
  · obtain ⟨its, r, ht, hz⟩ := I5.tuple hx
    have hlen := r.length
    refine tail_any (ops := [.ref a, .ref s4.heap.objs.size]) ht.typeIs (PyProof.Rows.slot_tuple_getitem.lookup) ?_ (by with_unfolding_all rfl)
    refine tup_rev ht (Heap.IsSliceOf.new _ vl vu vs) pl pu ps ?_ (by rw [List.size_toArray]; omega)
    exact ⟨.ref _, _, I5.laid (t' := s4.toks) (o := .tup xs.reverse) (fun b ob q => Heap.get?_push_of_some _ q) (Nat.le_refl _) ⟨by rw [List.length_reverse]; exact hz, _, r.reverse, IsTup.new _ _⟩, rfl, q _ (I5.hok.fresh (Nat.le_refl _))⟩
end Ly
set_option Elab.async false
set_option linter.all false
set_option maxRecDepth 100000
set_option maxHeartbeats 4000000
/-! a class with the one attribute rows: its methods by their names -/
namespace Ly
open PySem PySem.Spec PyProof.Rows L2

/-- the class x of the module stands at C -/
structure Rm (K : PySem.W.Frag) (mg : Str → Option Value) (x : Str) (C : Addr) : Prop where
  mg : mg x = some (.ref C)
  cl : Cls K C
  no : NoAttr K C "rows"
  makes : PySem.W.makesIn K C = true
  kp : PySem.W.keepIn K (.ref C) = true
/-- the method m of the class x as it stands in the text -/
def Tm (K : PySem.W.Frag) (mg : Str → Option Value) (x m qual : Str) (st : Stmt) (ps : List Str) : Prop :=
  ∀ C, Rm K mg x C → ∃ (f : Addr) (fd : FuncData), Fun K m qual st f fd ∧ Meth K C m f ∧ Binds K fd ps []
theorem tm_mk {K : PySem.W.Frag} {mg : Str → Option Value} {x m qual : Str} {st : Stmt} {ps : List Str} {C f : Addr} {fd : FuncData} (R : Rm K mg x C) (F : Fun K m qual st f fd) (M : Meth K C m f) (B : Binds K fd ps []) :
    Tm K mg x m qual st ps := fun C' R' => by
  have e := R.mg.symm.trans R'.mg
  cases e
  exact ⟨f, fd, F, M, B⟩
/-- the method m of the class at C keeps its promise -/
def Dm (P : Program) (w : World) (K : PySem.W.Frag) (mg : Str → Option Value) (base : Heap) (CX : CXT) (C : Addr) (m : Str) (k : Nat) (ps : List Str) (sp : Sp) : Prop :=
  ∃ (f : Addr) (fd : FuncData), FnOk P w K mg base CX k f fd ps sp ∧ Meth K C m f ∧ Binds K fd ps []
section
variable {X : Cx} {CX : CXT} {k j : Nat} {ps : List Str} {sp : Sp} {E : XK} {x m : Str} {p apos pos : Pos} {o e : Expr} {es : List Expr} {ta : TE} {t : TA} {C : Addr}
theorem pe_methD {pl : Sem Bool} (D : Dm X.prog X.w X.K X.mg X.base CX C m k ps sp) (c : Cls X.K C) (hr : Room j X.A) (hj : k ≤ j) (hx : Passes CX X E) (he : PE X o ta) (ha : PA X (e :: es) t)
    (hst : starEach (e :: es) X.env = (false, eval e X.env) :: starEach es X.env := by rfl) (hpl : (backTo pos (starEach es X.env)).any (·.1) = false := by rfl)
    (ht : eval (.Call (.Attribute o m apos) (e :: es) [] pos) X.env = (do
      let ov ← eval o X.env
      standAt apos.atName
      let (f, first) ← holding [ov] (getMethod ov m pl)
      callWith pos f first (backTo pos (starEach (e :: es) X.env)) (backToKw pos (keywordEach [] X.env))) := by rfl) :
    PE X (.Call (.Attribute o m apos) (e :: es) [] pos) (tMeth C m sp [] E ta t) := by
  obtain ⟨f, fd, F, hm, hb⟩ := D
  exact pe_meth he c hm F (hr.mono hj) hb .nil hx ha hst hpl ht
theorem pe_newD (D : Dm X.prog X.w X.K X.mg X.base CX C "__init__" k ps sp) (R : Rm X.K X.mg x C) (hr : Room j X.A) (hj : k + 1 ≤ j) (hg : Gl X x) (hx : Passes CX X E) (ha : PA X (e :: es) t)
    (hdb : (x == ("__debug__" : Str)) = false := by decide) (he : starEach (e :: es) X.env = (false, eval e X.env) :: starEach es X.env := by rfl) (hpl : (backTo pos (starEach es X.env)).any (·.1) = false := by rfl) :
    PE X (.Call (.Name x p) (e :: es) [] pos) (tMake C sp [] E t) := by
  obtain ⟨f, fd, F, hm, hb⟩ := D
  exact pe_make ⟨R.makes, hm.at_, hm.fn, R.kp⟩ F (hr.mono hj) hg R.mg hb .nil hx ha hdb he hpl
end
end Ly
set_option Elab.async false
set_option linter.all false
set_option maxRecDepth 100000
set_option maxHeartbeats 4000000
/-! realms: their rows -/
namespace Ly
open PySem PySem.Spec PyProof.Rows L2

abbrev L4 := Int × Int × Int × Int
abbrev RwL := Option Int × L4
def oV : Option Int → V
  | none => .non
  | some n => .int n
def fdL (L : L4) (y : Int) : Int := fday L.1 L.2.1 L.2.2.1 L.2.2.2 y
def yoL (L : L4) (n : Int) : Int := yof L.1 L.2.1 L.2.2.1 L.2.2.2 n
def LdL (K : PySem.W.Frag) (H : Hp) (a : Addr) (L : L4) : Prop := Ld K H a L.1 L.2.1 L.2.2.1 L.2.2.2
def OkL (L : L4) : Prop := LandOk L.1 L.2.1 L.2.2.1 L.2.2.2
/-- whether a row is of the day n or ahead of it -/
def inR (n : Int) (r : RwL) : Bool := match r.1 with
  | none => true
  | some m => decide (m ≤ n)
def landOf (R : List RwL) (n : Int) : Int := ((R.filter (inR n)).length : Int) - 1
def hitR (R : List RwL) (y pl : Int) (i : Nat) (r : RwL) : Bool := decide (yoL r.2 (fdL r.2 y + pl) = y ∧ fdL r.2 y + pl - fdL r.2 (yoL r.2 (fdL r.2 y + pl)) = pl) && decide (landOf R (fdL r.2 y + pl) = (i : Int))
/-- the days found up to the row i -/
def dayR (R : List RwL) (y pl : Int) : Nat → List Int
  | 0 => []
  | i + 1 => match R[i]? with
    | none => dayR R y pl i
    | some r => if hitR R y pl i r = true then dayR R y pl i ++ [fdL r.2 y + pl] else dayR R y pl i
theorem dayR_len (R : List RwL) (y pl : Int) : ∀ i, (dayR R y pl i).length ≤ i
  | 0 => Nat.le_refl _
  | i + 1 => by
    have h := dayR_len R y pl i
    unfold dayR
    split
    · omega
    · split
      · rw [List.length_append, List.length_singleton]; omega
      · omega
/-- the row r stands at v -/
def RowAt (K : PySem.W.Frag) (H : Hp) (v : V) (r : RwL) : Prop := ∃ p q, v = .ref p ∧ SqT K H p [oV r.1, .ref q] ∧ LdL K H q r.2 ∧ OkL r.2
theorem RowAt.same {K : PySem.W.Frag} {H H' : Hp} {v : V} {r : RwL} (h : RowAt K H v r) (s : Same H H') : RowAt K H' v r := by
  obtain ⟨p, q, e, h1, h2, h3⟩ := h
  exact ⟨p, q, e, Same.t s h1, Same.t s h2, h3⟩
theorem RowAt.gr {K : PySem.W.Frag} {d : Addr} {H H' : Hp} {v : V} {r : RwL} (h : RowAt K H v r) (g : Gr d H H') : RowAt K H' v r := by
  obtain ⟨p, q, e, h1, h2, h3⟩ := h
  exact ⟨p, q, e, g.t h1, g.t h2, h3⟩
theorem Paired.row {α β : Type} {F : α → β → Prop} : ∀ {l : List α} {m : List β} {i : Nat} {x : α}, Paired F l m → l[i]? = some x → ∃ y, m[i]? = some y ∧ F x y
  | _, _, _, _, .nil, e => by simp at e
  | _, _, 0, _, .cons r _, e => by simp at e; subst e; exact ⟨_, rfl, r⟩
  | _, _, i + 1, _, .cons _ t, e => by
    obtain ⟨y, h1, h2⟩ := Paired.row t (by simpa using e)
    exact ⟨y, by simpa using h1, h2⟩
theorem Paired.wor {α β : Type} {F : α → β → Prop} : ∀ {l : List α} {m : List β} {i : Nat} {y : β}, Paired F l m → m[i]? = some y → ∃ x, l[i]? = some x ∧ F x y
  | _, _, _, _, .nil, e => by simp at e
  | _, _, 0, _, .cons r _, e => by simp at e; subst e; exact ⟨_, rfl, r⟩
  | _, _, i + 1, _, .cons _ t, e => by
    obtain ⟨y, h1, h2⟩ := Paired.wor t (by simpa using e)
    exact ⟨y, by simpa using h1, h2⟩
theorem Paired.snoc {α β : Type} {F : α → β → Prop} {x : α} {y : β} (r : F x y) : ∀ {l : List α} {m : List β}, Paired F l m → Paired F (l ++ [x]) (m ++ [y])
  | _, _, .nil => .cons r .nil
  | _, _, .cons q t => .cons q (Paired.snoc r t)
/-- the realm with the rows R stands at a, its list at l -/
def RlmAt (K : PySem.W.Frag) (C : Addr) (H : Hp) (a l : Addr) (R : List RwL) : Prop :=
  ∃ dx vs, H a = some (.ins C dx [("rows", .ref l)]) ∧ H l = some (.lst vs) ∧ Paired (RowAt K H) vs R ∧ 1 ≤ R.length ∧ R.length ≤ 1000
theorem RlmAt.same {K : PySem.W.Frag} {C : Addr} {H H' : Hp} {a l : Addr} {R : List RwL} (h : RlmAt K C H a l R) (s : Same H H') : RlmAt K C H' a l R := by
  obtain ⟨dx, vs, h1, h2, h3, h4⟩ := h
  exact ⟨dx, vs, s _ _ h1, s _ _ h2, Paired.mapP h3 fun _ _ r => r.same s, h4⟩
theorem RlmAt.gr {K : PySem.W.Frag} {C d : Addr} {H H' : Hp} {a l : Addr} {R : List RwL} (h : RlmAt K C H a l R) (g : Gr d H H') (n : l ≠ d) : RlmAt K C H' a l R := by
  obtain ⟨dx, vs, h1, h2, h3, h4⟩ := h
  exact ⟨dx, vs, g.keep _ _ (g.ne h1 fun _ z => nomatch z) h1, g.keep _ _ n h2, Paired.mapP h3 fun _ _ r => r.gr g, h4⟩
theorem two_eq (a b c d : Int) : decide ([a, b] = [c, d]) = decide (a = c ∧ b = d) := by
  by_cases h1 : a = c <;> by_cases h2 : b = d <;> simp [h1, h2]
theorem fld_rows {l : V} : ([("rows", l)] : List (Str × V)).lookup ("rows" : Str) = some l := by
  show (if (("rows" : Str) == "rows") = true then some l else none) = some l
  first
    | rfl
    | simp
theorem fld_none {l : V} {m : Str} (h : (m == ("rows" : Str)) = false) : ([("rows", l)] : List (Str × V)).lookup m = none := by
  simp [List.lookup, h]
/-! ### walking with enumerate -/
theorem for_enum {K : PySem.W.Frag} {a : Addr} {xs : List V} {g : TG} {tb : TS} {D : Ends} {σ : L2.St} {H : Hp} (Pv : Nat → L2.St → Hp → Prop) (h0 : Pv 0 σ H) (hl : ∀ i σ H, i ≤ xs.length → Pv i σ H → SqL K H a xs)
    (hs : ∀ (i : Nat) x T σ H, xs[i]? = some x → H T = none → Pv i σ H → g (.ref T) σ (upd H T (.tup [.int (i : Nat), x])) fun σ2 H2 => tb { D with nx := Pv (i + 1), ct := Pv (i + 1), bk := D.nx } σ2 H2) (hd : ∀ σ H, Pv xs.length σ H → D.nx σ H) :
    ∃ W : Nat → Nat → L2.St → Hp → Prop, (∃ m, W 0 m σ H) ∧ ∀ i m σ H, W i m σ H →
      ((Ite K a).stop i H ∧ D.nx σ H) ∨ ((Ite K a).go i H ∧ ∃ N : L2.St → Hp → Prop, (∀ σ' H', N σ' H' → ∃ m', m' < m ∧ W (i + 1) m' σ' H') ∧ ∀ x H', (Ite K a).yld i H x H' → g x σ H' fun σ2 H2 => tb { D with nx := N, ct := N, bk := D.nx } σ2 H2) := by
  refine ⟨fun j left σ H => left + j = xs.length ∧ Pv j σ H, ⟨xs.length, rfl, h0⟩, fun j left σ H hW => ?_⟩
  obtain ⟨e, pv⟩ := hW
  have sq := hl j σ H (by omega) pv
  rcases Nat.lt_or_ge j xs.length with lt | ge
  · refine .inr ⟨⟨xs, xs[j], sq, by simp [lt]⟩, Pv (j + 1), fun σ' H' pv' => ⟨left - 1, by omega, by omega, pv'⟩, fun x H' y => ?_⟩
    obtain ⟨T, z, e1, e2, e3, y⟩ := y
    subst e1 e3
    exact hs j z T σ H (y xs sq) e2 pv
  · have ej : j = xs.length := by omega
    subst ej
    exact .inl ⟨⟨xs, sq, Nat.le_refl _⟩, hd σ H pv⟩
/-! ### the rows counted -/
theorem lc_rows {K : PySem.W.Frag} {l D : Addr} {xs : List V} {R : List RwL} {pr : RwL → Bool} {g : Nat} {tt : TT} {vs : List Nat} {σ : L2.St} {H : Hp} {Qd : Hp → Prop} (hS : SqL K H l xs) (hR : Paired (RowAt K H) xs R) (hD : H D = none) (hl : R.length ≤ 1000)
    (hw : ∀ x, wipe ((wipe σ vs).set g (some x)) vs = wipe σ vs) (hi : ∀ x, ((wipe σ vs).set g (some x))[g]? = some (some x))
    (ht : ∀ v r H', RowAt K H' v r → ∀ Q : Bool → Hp → Prop, Q (pr r) H' → tt ((wipe σ vs).set g (some v)) H' Q)
    (hd : ∀ acc : List V, acc.length = (R.filter pr).length → Qd (upd H D (.lst acc))) :
    ∃ W : Nat → Nat → Hp → Prop, (∃ m, W 0 m (upd H D (.lst []))) ∧ ∀ i m H, W i m H →
      ((Itl K l).stop i H ∧ Qd H) ∨ ((Itl K l).go i H ∧ ∃ Nx : Hp → Prop, (∀ H', Nx H' → ∃ m', m' < m ∧ W (i + 1) m' H') ∧ ∀ x H', (Itl K l).yld i H x H' → gName g x (wipe σ vs) H' fun σ2 H2 => wipe σ2 vs = wipe σ vs ∧ tt σ2 H2 fun b H3 =>
        if b = true then tVar g σ2 H3 fun y H4 => ∃ acc, H4 D = some (.lst acc) ∧ acc.length < sizeLine ∧ Nx (upd H4 D (.lst (acc ++ [y]))) else Nx H3) := by
  have elen : xs.length = R.length := Paired.length hR
  refine lc_list (xs := xs) (fun i H' => ∃ acc : List V, H' = upd H D (.lst acc) ∧ acc.length = ((R.take i).filter pr).length) ⟨[], rfl, by simp⟩ (fun i H' _ q => by obtain ⟨acc, rfl, _⟩ := q; exact Same.l (same_new hD) hS) (fun i x H' hx q => ?_) (fun H' q => ?_)
  · obtain ⟨acc, rfl, ea⟩ := q
    obtain ⟨r, hr, rx⟩ := Paired.row hR hx
    have e : R.take (i + 1) = R.take i ++ [r] := by rw [List.take_succ, hr]; rfl
    have al : acc.length ≤ 1000 := by
      have h1 := List.length_filter_le pr (R.take i)
      rw [List.length_take] at h1
      omega
    refine ⟨hw _, ht x r _ (rx.same (same_new hD)) _ ?_⟩
    cases c : pr r with
    | true =>
      refine iteT ⟨_, hi _, acc, upd_same, sz_small (by omega), acc ++ [x], upd_upd, ?_⟩
      rw [e, List.filter_append, List.length_append, List.length_append, ea]
      simp [c]
    | false =>
      refine iteF ⟨acc, rfl, ?_⟩
      rw [e, List.filter_append, List.length_append, ea]
      simp [c]
  · obtain ⟨acc, rfl, ea⟩ := q
    refine hd acc ?_
    rw [ea, elen, List.take_length]
end Ly
set_option Elab.async false
set_option linter.all false
set_option maxRecDepth 100000
set_option maxHeartbeats 4000000
/-! sorted lists of tuples of ints, of any length; rows of years walked -/
namespace Ly
open PySem PySem.Spec PyProof.Rows L2

/-! ### the order of two tuples -/
section
variable {prog : Program} {w : World} {A : Around} {s : Shared}
theorem kat_lexL {fin : Bool} {Q : Bool → Shared → Prop} : ∀ {xs ys : List Value} {ns ms : List Int} (i : Nat), IntsAre xs ns → IntsAre ys ms → fin = decide (ns.length < ms.length) → Q (lexL ns ms) s → PySem.W.KatLex prog w A true fin Q (xs.zip ys) i s
  | xs, ys, [], ms, i, h1, h2, hf, q => by
    cases IntsAre.nil_inv h1
    rw [List.zip_nil_left]
    refine PySem.W.kat_nil ?_
    have e : lexL [] ms = fin := by
      rw [hf]
      cases ms with
      | nil => rfl
      | cons m ms => simp [lexL]
    rw [← e]
    exact q
  | xs, ys, n :: ns, [], i, h1, h2, hf, q => by
    cases IntsAre.nil_inv h2
    rw [List.zip_nil_right]
    refine PySem.W.kat_nil ?_
    have e : lexL (n :: ns) [] = fin := by rw [hf]; simp [lexL]
    rw [← e]
    exact q
  | xs, ys, n :: ns, m :: ms, i, h1, h2, hf, q => by
    obtain ⟨t, xs', rfl, k1⟩ := IntsAre.cons_inv h1
    obtain ⟨u, ys', rfl, k2⟩ := IntsAre.cons_inv h2
    rw [List.zip_cons_cons]
    have st : lexL (n :: ns) (m :: ms) = if n = m then lexL ns ms else decide (n < m) := by simp only [lexL]
    rw [st] at q
    refine PySem.W.kat_cons (SeqAt.EqAt.int_int n t m u prog w _ _ (PySem.W.kat_go (fun e => ?_) (fun e => ?_)))
    · have e : n = m := by simpa using e
      rw [if_pos e] at q
      refine PySem.W.kat_yes (kat_lexL (i + 1) k1 k2 ?_ q)
      rw [hf]
      simp
    · have e : ¬ n = m := by simpa using e
      rw [if_neg e] at q
      exact PySem.W.kat_no (TS.oneLt_ints _ q)
def TupI (h : Heap) (v : Value) (ns : List Int) : Prop := ∃ (a : Addr) (o : Obj) (xs : Array Value) (n : Nat), v = .ref a ∧ h.get? a = some o ∧ o.cls = .type "tuple" ∧ o.data = .seq xs n ∧ IntsAre xs.toList ns
theorem TupI.keeps {h h' : Heap} {v : Value} {ns : List Int} (t : TupI h v ns) (k : ∀ b o, h.get? b = some o → o.cls = .type "tuple" → h'.get? b = some o) : TupI h' v ns := by
  obtain ⟨a, o, xs, n, e, ho, hc, hd, hi⟩ := t
  exact ⟨a, o, xs, n, e, k a o ho hc, hc, hd, hi⟩
theorem swo_lexL (k : Value → List Int) : SrtO.Swo fun v u => lexL (k v) (k u) := ⟨fun x y h => lexL_asym _ _ h, fun x y z h1 h2 => lexL_tr _ _ _ h1 h2⟩
theorem tup_cmp {vs : List Value} {k : Value → List Int} (hp : ∀ v ∈ vs, TupI s.heap v (k v)) : SrtO.Cmp prog w A s (tuples' true) (fun p => p.1 ∈ vs) (SrtO.lt2 fun v u => lexL (k v) (k u)) := by
  intro p q hm hm'
  obtain ⟨a, o, xs, n, e, ho, hc, hd, hi⟩ := hp _ hm
  obtain ⟨a', o', xs', n', e', ho', hc', hd', hi'⟩ := hp _ hm'
  show wpAny (model prog w) A (keyLt' (tuples' true) p.1 q.1) (fun r s' => s' = s ∧ r = lexL (k p.1) (k q.1)) (fun _ _ => False) s
  generalize k p.1 = l at hi ⊢
  generalize k q.1 = m at hi' ⊢
  rw [e, e']
  refine PySem.W.kat_lt ho hd ho' hd' (kat_lexL 0 hi hi' ?_ ⟨rfl, rfl⟩)
  have l1 := hi.length
  have l2 := hi'.length
  rw [Array.length_toList] at l1 l2
  rw [l1, l2]
theorem tup_firsts {h : Heap} {k : Value → List Int} : ∀ {vs : List Value}, (∀ v ∈ vs, TupI h v (k v) ∧ 1 ≤ (k v).length) → ∃ fs : List Value, PySem.W.KatTups h vs fs ∧ fs.length = vs.length ∧ ∀ f ∈ fs, ∃ x t, f = Value.int x t
  | [], _ => ⟨[], .nil, rfl, fun f hf => absurd hf (by simp)⟩
  | v :: vs, hp => by
    obtain ⟨fs, h1, h2, h3⟩ := tup_firsts (vs := vs) fun u hu => hp u (List.mem_cons_of_mem _ hu)
    obtain ⟨⟨a, o, xs, n, rfl, ho, hc, hd, hi⟩, hl⟩ := hp v (List.mem_cons_self ..)
    generalize k (.ref a) = l at hi hl
    cases l with
    | nil => simp at hl
    | cons m ms =>
      obtain ⟨t, r, e, _⟩ := IntsAre.cons_inv hi
      have e0 : xs[0]? = some (.int m t) := by rw [← Array.getElem?_toList, e]; rfl
      refine ⟨.int m t :: fs, .cons ho hc hd e0 h1, by simp [h2], fun f hf => ?_⟩
      rcases List.mem_cons.mp hf with z | z
      · exact ⟨m, t, z⟩
      · exact h3 f z
theorem tups_sortable {a : Addr} {vs : List Value} {k : Value → List Int} (h0 : 0 < vs.length) (hp : ∀ v ∈ vs, TupI s.heap v (k v) ∧ 1 ≤ (k v).length) (ha : ∀ o, s.heap.get? a = some o → o.cls ≠ .type "tuple") : SrtO.SortableO prog w A s a vs fun v u => lexL (k v) (k u) := by
  intro h' keep
  have hp' : ∀ v ∈ vs, TupI h' v (k v) ∧ 1 ≤ (k v).length := fun v hm => ⟨(hp v hm).1.keeps fun b o e c => keep b o (fun z => by subst z; exact ha o e c) e, (hp v hm).2⟩
  obtain ⟨fs, h1, h2, h3⟩ := tup_firsts hp'
  refine ⟨tuples' true, fun Q E hq => ?_, tup_cmp fun v hv => (hp' v hv).1⟩
  refine PySem.W.kat_kind (T := .type "int") h1 (by omega) (fun f hm => ?_) (by rfl) ?_
  · obtain ⟨x, t, rfl⟩ := h3 f hm
    exact PySem.W.Looks.now
  · have e : (Value.type "int" != Value.type "tuple") = true := by first | decide +kernel | rfl | decide
    rw [e]
    exact hq
end
/-! ### sorted, as a rule -/
/-- the tuple of ints at v -/
def TupL (H : Hp) (v : V) (ns : List Int) : Prop := ∃ p, v = .ref p ∧ H p = some (.tup (ns.map V.int))
theorem TupL.same {H H' : Hp} {v : V} {ns : List Int} (t : TupL H v ns) (s : Same H H') : TupL H' v ns := by
  obtain ⟨p, e, h⟩ := t
  exact ⟨p, e, s _ _ h⟩
theorem TupL.gr {d : Addr} {H H' : Hp} {v : V} {ns : List Int} (t : TupL H v ns) (g : Gr d H H') : TupL H' v ns := by
  obtain ⟨p, e, h⟩ := t
  exact ⟨p, e, g.keep _ _ (g.ne h fun _ z => nomatch z) h⟩
def vInt : V → Int
  | .int i => i
  | _ => 0
/-- the ints of the tuple that stands at v -/
def kOf (H : Hp) : V → List Int
  | .ref p => match H p with
    | some (.tup xs) => xs.map vInt
    | _ => []
  | _ => []
theorem TupL.k {H : Hp} {v : V} {ns : List Int} (t : TupL H v ns) : kOf H v = ns := by
  obtain ⟨p, rfl, h⟩ := t
  show (match H p with | some (.tup xs) => xs.map vInt | _ => []) = ns
  rw [h]
  show (ns.map V.int).map vInt = ns
  rw [List.map_map]
  exact List.map_id'' (fun _ => rfl) ns
theorem paired_k {H : Hp} : ∀ {xs : List V} {Ls : List (List Int)}, Paired (TupL H) xs Ls → xs.map (kOf H) = Ls ∧ ∀ x ∈ xs, TupL H x (kOf H x)
  | _, _, .nil => ⟨rfl, fun x hx => absurd hx (by simp)⟩
  | _, _, .cons r t => by
    obtain ⟨e, h⟩ := paired_k t
    refine ⟨by rw [List.map_cons, r.k, e], fun x hx => ?_⟩
    rcases List.mem_cons.mp hx with z | z
    · rw [z, r.k]; exact r
    · exact h x z
theorem paired_of {H : Hp} : ∀ {xs : List V}, (∀ x ∈ xs, TupL H x (kOf H x)) → Paired (TupL H) xs (xs.map (kOf H))
  | [], _ => .nil
  | x :: xs, h => .cons (h x (List.mem_cons_self ..)) (paired_of fun y hy => h y (List.mem_cons_of_mem _ hy))
/-- sorted(xs), a list of tuples of ints -/
def rSortT (K : PySem.W.Frag) : List V → Hp → VK → Prop := fun vs H Q => ∃ (a : Addr) (xs : List V) (Ls : List (List Int)), vs = [V.ref a] ∧ SqL K H a xs ∧ Paired (TupL H) xs Ls ∧ (∀ L ∈ Ls, 1 ≤ L.length) ∧
  ∀ ys Ms p, Paired (TupL H) ys Ms → Ms.Perm Ls → Ms.Pairwise (fun a b => lexL b a = false) → ys.length = xs.length → H p = none → Q (.ref p) (upd H p (.lst ys))
theorem cr_sortT4 {X : Cx} : CallR X (.builtin "sorted") (rSortT X.K) := by
  intro pins s σ H vs us Q I r h
  obtain ⟨a, xs, Ls, rfl, hs, hx, hl1, q⟩ := h
  obtain ⟨its, rv, hl, hz⟩ := I.list hs
  obtain ⟨u, rfl, ru⟩ := vals1 r
  obtain rfl : u = Value.ref a := ru
  obtain ⟨ek, hk⟩ := paired_k hx
  obtain ⟨e1, e2⟩ := refs_back rv fun x m => by
    obtain ⟨t, e, _⟩ := hk x m
    exact ⟨t, e⟩
  have O := swo_lexL fun u => kOf H (backV u)
  have hz' : its.length ≤ sizeLine := by rw [← rv.length]; exact hz
  have hp : ∀ v ∈ its, TupI s.heap v (kOf H (backV v)) ∧ 1 ≤ (kOf H (backV v)).length := fun v hv => by
    obtain ⟨t, rfl⟩ := e2 v hv
    have hm : V.ref t ∈ xs := by rw [e1]; exact List.mem_map.mpr ⟨_, hv, rfl⟩
    show TupI s.heap (.ref t) (kOf H (.ref t)) ∧ 1 ≤ (kOf H (.ref t)).length
    have hml : kOf H (.ref t) ∈ Ls := by rw [← ek]; exact List.mem_map.mpr ⟨_, hm, rfl⟩
    have tk := hk _ hm
    generalize kOf H (.ref t) = ns at tk hml ⊢
    obtain ⟨t', e, ht⟩ := tk
    cases e
    obtain ⟨_, its2, r2, o, ho, hc, n, hd⟩ := I.hok _ _ ht
    exact ⟨⟨t, o, its2.toArray, n, rfl, ho, hc, hd, by simpa using Vals.ints r2⟩, hl1 _ hml⟩
  refine SrtO.sorted_ord O hl.isList hz' (fun h2 h₁ b hb kk => ?_) fun out h1 h2 => ?_
  · refine tups_sortable (s := { s with heap := h₁ }) (by omega) (fun v hm => ⟨(hp v hm).1.keeps fun b o e _ => (kk b o e).2, (hp v hm).2⟩) fun o e => ?_
    have e' : some o = some (seqObj "list" its.toArray 0) := e.symm.trans hb
    cases e'
    intro c
    exact absurd (Value.type.inj c) (by decide)
  · have h3 : ∀ u ∈ out, ∃ a, u = Value.ref a := fun u hu => e2 u (h2.perm.mem_iff.mp hu)
    obtain ⟨n, hn⟩ := sortedAll_at s.heap its out.toArray
    have pm : (out.map backV).Perm xs := by
      rw [e1]
      exact h2.perm.map backV
    have hm : ∀ x ∈ out.map backV, TupL H x (kOf H x) := fun x hx => hk x (pm.mem_iff.mp hx)
    have kp : ∀ b o, s.heap.get? b = some o → (sortedAll s.heap its out.toArray).get? b = some o := fun b o e => sortedAll_old e
    refine ⟨.ref (s.heap.objs.size + 1), upd H (s.heap.objs.size + 1) (.lst (out.map backV)), I.laid (t' := s.toks) kp (Nat.le_succ _) ⟨?_, out, n, vals_back h3, hn⟩, rfl,
      q _ _ _ (paired_of hm) ?_ ?_ pm.length_eq (I.hok.fresh (Nat.le_succ _))⟩
    · rw [pm.length_eq]
      exact hz
    · rw [← ek]
      exact pm.map _
    · rw [List.pairwise_map, List.pairwise_map]
      exact h1
/-! ### rows of years -/
/-- the row of a year at v -/
def RowI (K : PySem.W.Frag) (H : Hp) (v : V) (r : Int × Int) : Prop := ∃ p, v = .ref p ∧ SqT K H p [.int r.1, .int r.2]
theorem RowI.same {K : PySem.W.Frag} {H H' : Hp} {v : V} {r : Int × Int} (h : RowI K H v r) (s : Same H H') : RowI K H' v r := by
  obtain ⟨p, e, h⟩ := h
  exact ⟨p, e, Same.t s h⟩
theorem RowI.gr {K : PySem.W.Frag} {d : Addr} {H H' : Hp} {v : V} {r : Int × Int} (h : RowI K H v r) (g : Gr d H H') : RowI K H' v r := by
  obtain ⟨p, e, h⟩ := h
  exact ⟨p, e, g.t h⟩
/-- [f(year, day) for year, day in seen] -/
theorem lc_rowI {K : PySem.W.Frag} {a D : Addr} {xs : List V} {R : Rw} {f : Int × Int → Int} {i1 i2 : Nat} {te : TE} {vs : List Nat} {σ : L2.St} {H : Hp} {Qd : Hp → Prop} (hS : SqT K H a xs) (hR : Paired (RowI K H) xs R) (hD : H D = none) (hl : R.length < 100000)
    (hw : ∀ x y, wipe (((wipe σ vs).set i1 (some x)).set i2 (some y)) vs = wipe σ vs)
    (he : ∀ r H', Same H H' → ∀ Q : VK, Q (.int (f r)) H' → te (((wipe σ vs).set i1 (some (.int r.1))).set i2 (some (.int r.2))) H' Q)
    (hd : Qd (upd H D (.lst ((R.map f).map V.int)))) :
    ∃ W : Nat → Nat → Hp → Prop, (∃ m, W 0 m (upd H D (.lst []))) ∧ ∀ i m H, W i m H →
      ((Itt K a).stop i H ∧ Qd H) ∨ ((Itt K a).go i H ∧ ∃ Nx : Hp → Prop, (∀ H', Nx H' → ∃ m', m' < m ∧ W (i + 1) m' H') ∧ ∀ x H', (Itt K a).yld i H x H' → gTup K 2 (gCons (gName i1) (gCons (gName i2) gNil)) x (wipe σ vs) H' fun σ2 H2 => wipe σ2 vs = wipe σ vs ∧ tYes σ2 H2 fun b H3 =>
        if b = true then te σ2 H3 fun y H4 => ∃ acc, H4 D = some (.lst acc) ∧ acc.length < sizeLine ∧ Nx (upd H4 D (.lst (acc ++ [y]))) else Nx H3) := by
  have elen : xs.length = R.length := Paired.length hR
  refine lc_tup (xs := xs) (fun i H' => H' = upd H D (.lst (((R.map f).take i).map V.int))) rfl (fun i H' _ p => by subst p; exact Same.t (same_new hD) hS) (fun i x H' hx p => ?_) (fun H' p => ?_)
  · subst p
    obtain ⟨r, hr, q, rfl, rx⟩ := Paired.row hR hx
    refine ⟨q, _, rfl, Same.t (same_new hD) rx, rfl, _, _, rfl, _, _, rfl, rfl, hw _ _, ?_⟩
    show te _ _ _
    refine he r _ (same_new hD) _ ?_
    exact acc_put (take_len (by rw [List.length_map]; exact hl)) (take_put (x := f r) (by rw [List.getElem?_map, hr]; rfl))
  · subst p
    rw [elen, List.take_of_length_le (by rw [List.length_map]; exact Nat.le_refl _)]
    exact hd
end Ly
namespace Ly
open PySem PySem.Spec PyProof.Rows L2
theorem paired_get {α β : Type} {F : α → β → Prop} : ∀ {l : List α} {m : List β}, l.length = m.length → (∀ (i : Nat) x y, l[i]? = some x → m[i]? = some y → F x y) → Paired F l m
  | [], [], _, _ => .nil
  | [], _ :: _, h, _ => by simp at h
  | _ :: _, [], h, _ => by simp at h
  | x :: l, y :: m, h, k => .cons (k 0 x y rfl rfl) (paired_get (by simpa using h) fun i a b h1 h2 => k (i + 1) a b (by simpa using h1) (by simpa using h2))
/-! ### comprehensions over zip of two tuples -/
section
variable {K : PySem.W.Frag} {a b : Addr} {xs ys : List V} {g : TG} {tt : TT} {te : TE} {vs : List Nat} {σ : L2.St} {H1 : Hp} {D : Addr} {Qd : Hp → Prop}
theorem lc_zipT (Pv : Nat → Hp → Prop) (h0 : Pv 0 (upd H1 D (.lst []))) (hl : ∀ i H, Pv i H → SqT K H a xs ∧ SqT K H b ys)
    (hs : ∀ (i : Nat) x y T H, xs[i]? = some x → ys[i]? = some y → H T = none → Pv i H → g (.ref T) (wipe σ vs) (upd H T (.tup [x, y])) fun σ2 H2 => wipe σ2 vs = wipe σ vs ∧ tt σ2 H2 fun b H3 =>
      if b = true then te σ2 H3 fun y H4 => ∃ acc, H4 D = some (.lst acc) ∧ acc.length < sizeLine ∧ Pv (i + 1) (upd H4 D (.lst (acc ++ [y]))) else Pv (i + 1) H3) (hd : ∀ H, Pv (min xs.length ys.length) H → Qd H) :
    ∃ W : Nat → Nat → Hp → Prop, (∃ m, W 0 m (upd H1 D (.lst []))) ∧ ∀ i m H, W i m H →
      ((RZ.ItzT K a b).stop i H ∧ Qd H) ∨ ((RZ.ItzT K a b).go i H ∧ ∃ Nx : Hp → Prop, (∀ H', Nx H' → ∃ m', m' < m ∧ W (i + 1) m' H') ∧ ∀ x H', (RZ.ItzT K a b).yld i H x H' → g x (wipe σ vs) H' fun σ2 H2 => wipe σ2 vs = wipe σ vs ∧ tt σ2 H2 fun b H3 =>
        if b = true then te σ2 H3 fun y H4 => ∃ acc, H4 D = some (.lst acc) ∧ acc.length < sizeLine ∧ Nx (upd H4 D (.lst (acc ++ [y]))) else Nx H3) := by
  refine ⟨fun i m H => m = min xs.length ys.length - i ∧ i ≤ min xs.length ys.length ∧ Pv i H, ⟨min xs.length ys.length, by simp, Nat.zero_le _, h0⟩, ?_⟩
  rintro i m H ⟨rfl, hi, p⟩
  obtain ⟨q1, q2⟩ := hl i H p
  by_cases hlt : i < min xs.length ys.length
  · have l1 : i < xs.length := by omega
    have l2 : i < ys.length := by omega
    refine .inr ⟨⟨xs, ys, xs[i], ys[i], q1, q2, List.getElem?_eq_getElem l1, List.getElem?_eq_getElem l2⟩, Pv (i + 1), fun H' p' => ⟨min xs.length ys.length - (i + 1), by omega, rfl, hlt, p'⟩, fun x H' z => ?_⟩
    obtain ⟨T, u, v, e1, e2, e3, f1, f2⟩ := z
    subst e1 e3
    exact hs i u v T _ (f1 xs q1) (f2 ys q2) e2 p
  · have e : i = min xs.length ys.length := by omega
    subst e
    exact .inl ⟨⟨xs, ys, q1, q2, by omega⟩, hd H p⟩
end
end Ly
namespace Ly
open PySem PySem.Spec PyProof.Rows L2
theorem paired_app {α β : Type} {F : α → β → Prop} : ∀ {l l' : List α} {m m' : List β}, Paired F l m → Paired F l' m' → Paired F (l ++ l') (m ++ m')
  | _, _, _, _, .nil, h => h
  | _, _, _, _, .cons r t, h => .cons r (paired_app t h)
end Ly
set_option Elab.async false
set_option linter.all false
set_option maxRecDepth 100000
set_option maxHeartbeats 4000000
/-! lists of tuples of ints compared -/
namespace Ly
open PySem PySem.Spec PyProof.Rows L2
def tupD (L : List Int) : PyData := .tuple (L.map PyData.int)
theorem dp_tups {K : PySem.W.Frag} {H : Hp} : ∀ {vs : List V} {Ls : List (List Int)}, Paired (TupL H) vs Ls → DpAll K H vs (Ls.map tupD)
  | _, _, .nil => .nil
  | _, _, .cons r t => by
    obtain ⟨p, rfl, h⟩ := r
    exact .cons (.tup (SqT.of h) (dp_ints _)) (dp_tups t)
theorem eqv_tups : ∀ Ls Ms : List (List Int), PyData.eqvAll (Ls.map tupD) (Ms.map tupD) = decide (Ls = Ms)
  | [], [] => by simp [PyData.eqvAll]
  | [], _ :: _ => by simp [PyData.eqvAll]
  | _ :: _, [] => by simp [PyData.eqvAll]
  | a :: r, b :: t => by
    simp only [List.map_cons, PyData.eqvAll, eqv_tups r t]
    have e : PyData.eqv (tupD a) (tupD b) = decide (a = b) := by
      unfold tupD
      rw [← eqv_ints]
      simp only [PyData.eqv]
    rw [e]
    by_cases h : a = b <;> by_cases h' : r = t <;> simp [h, h']
theorem lay_tups : ∀ Ls : List (List Int), PyData.canLayAll0 (Ls.map tupD) = true
  | [] => by simp [PyData.canLayAll0]
  | L :: Ls => by simp [PyData.canLayAll0, tupD, PyData.canLay0, PySem.W.ke_canLayAll0, lay_tups Ls]
theorem dep_tups : ∀ Ls : List (List Int), PyData.depthAll (Ls.map tupD) ≤ 1
  | [] => by simp [PyData.depthAll]
  | L :: Ls => by
    have := dep_tups Ls
    simp only [List.map_cons, PyData.depthAll, tupD, PyData.depth, PySem.W.ke_depthAll]
    omega
theorem sh_tups (Ls : List (List Int)) : SeqAt.shaped (.list (Ls.map tupD)) = true := by
  have := dep_tups Ls
  simp only [SeqAt.shaped, PyData.canLay0, PyData.depth, lay_tups, Bool.true_and]
  exact decide_eq_true (by omega)
section
variable {K : PySem.W.Frag} {H : Hp} {a b : Addr} {xs ys : List V} {Ls Ms : List (List Int)} {Q : VK}
theorem ne_tups (h1 : SqL K H a xs) (k1 : Paired (TupL H) xs Ls) (h2 : SqL K H b ys) (k2 : Paired (TupL H) ys Ms) (q : Q (.bl (!decide (Ls = Ms))) H) : rNeD K (.ref a) (.ref b) H Q :=
  ⟨_, _, .lst h1 (dp_tups k1), .lst h2 (dp_tups k2), sh_tups _, sh_tups _, by
    rw [show PyData.eqv (.list (Ls.map tupD)) (.list (Ms.map tupD)) = decide (Ls = Ms) by rw [← eqv_tups]; simp only [PyData.eqv]]
    exact q⟩
theorem eq_tups (h1 : SqL K H a xs) (k1 : Paired (TupL H) xs Ls) (h2 : SqL K H b ys) (k2 : Paired (TupL H) ys Ms) (q : Q (.bl (decide (Ls = Ms))) H) : rEqD K (.ref a) (.ref b) H Q :=
  ⟨_, _, .lst h1 (dp_tups k1), .lst h2 (dp_tups k2), sh_tups _, sh_tups _, by
    rw [show PyData.eqv (.list (Ls.map tupD)) (.list (Ms.map tupD)) = decide (Ls = Ms) by rw [← eqv_tups]; simp only [PyData.eqv]]
    exact q⟩
end
theorem perm_srt : ∀ {l m : List Int}, l.Perm m → l.Pairwise (· ≤ ·) → m.Pairwise (· ≤ ·) → l = m
  | [], m, h, _, _ => (List.Perm.nil_eq h)
  | x :: l, [], h, _, _ => absurd h.length_eq (by simp)
  | x :: l, y :: m, h, h1, h2 => by
    have a := List.pairwise_cons.mp h1
    have b := List.pairwise_cons.mp h2
    have e : x = y := by
      rcases List.mem_cons.mp (h.mem_iff.mp (List.mem_cons_self (a := x) (l := l))) with e | e
      · exact e
      · rcases List.mem_cons.mp (h.mem_iff.mpr (List.mem_cons_self (a := y) (l := m))) with e' | e'
        · exact e'.symm
        · have := a.1 y e'
          have := b.1 x e
          omega
    subst e
    rw [perm_srt h.cons_inv a.2 b.2]
/-- [f(x) for x in a tuple of ints] -/
theorem lc_mapT {K : PySem.W.Frag} {a : Addr} {ns : List Int} {f : Int → Int} {g : Nat} {te : TE} {vs : List Nat} {σ : L2.St} {H : Hp} {D : Addr} {Qd : Hp → Prop} (hS : SqT K H a (ns.map V.int)) (hD : H D = none) (hl : ns.length < 100000)
    (hw : ∀ x, wipe ((wipe σ vs).set g (some x)) vs = wipe σ vs)
    (he : ∀ (i : Nat) n H', ns[i]? = some n → Same H H' → ∀ Q : VK, Q (.int (f n)) H' → te ((wipe σ vs).set g (some (.int n))) H' Q)
    (hd : Qd (upd H D (.lst ((ns.map f).map V.int)))) :
    ∃ W : Nat → Nat → Hp → Prop, (∃ m, W 0 m (upd H D (.lst []))) ∧ ∀ i m H, W i m H →
      ((Itt K a).stop i H ∧ Qd H) ∨ ((Itt K a).go i H ∧ ∃ Nx : Hp → Prop, (∀ H', Nx H' → ∃ m', m' < m ∧ W (i + 1) m' H') ∧ ∀ x H', (Itt K a).yld i H x H' → gName g x (wipe σ vs) H' fun σ2 H2 => wipe σ2 vs = wipe σ vs ∧ tYes σ2 H2 fun b H3 =>
        if b = true then te σ2 H3 fun y H4 => ∃ acc, H4 D = some (.lst acc) ∧ acc.length < sizeLine ∧ Nx (upd H4 D (.lst (acc ++ [y]))) else Nx H3) := by
  refine lc_tup (xs := ns.map V.int) (fun i H' => H' = upd H D (.lst (((ns.map f).take i).map V.int))) rfl (fun i H' _ p => by subst p; exact Same.t (same_new hD) hS) (fun i x H' hx p => ?_) (fun H' p => ?_)
  · subst p
    rw [List.getElem?_map] at hx
    cases q : ns[i]? with
    | none => rw [q] at hx; cases hx
    | some n =>
      rw [q] at hx
      cases hx
      refine ⟨hw _, ?_⟩
      show te _ _ _
      refine he i n _ q (same_new hD) _ ?_
      exact acc_put (take_len (by rw [List.length_map]; exact hl)) (take_put (x := f n) (by rw [List.getElem?_map, q]; rfl))
  · subst p
    rw [List.length_map, List.take_of_length_le (by rw [List.length_map]; exact Nat.le_refl _)]
    exact hd
end Ly
set_option Elab.async false
set_option linter.all false
set_option maxRecDepth 100000
set_option maxHeartbeats 4000000
/-! while an exception is handled: zip walked to its end, comprehensions -/
namespace Ly
open PySem PySem.Spec PyProof.Rows L2 HotX
section
variable {P : Program} {w : World} {A : Around} {E : Value → Shared → Prop} {s : Shared}
/-- a list's iterator at its end -/
theorem hot_list_end {j a x : Addr} {n : Nat} {xs : Array Value} {Q : Value → Shared → Prop} (hot : HotAt A x s.heap) (xj : x ≠ j) (hj : s.heap.IsListIter j a n) (ha : s.heap.IsList a xs) (hx : xs[n]? = none)
    (fin : ∀ h' e, Heap.ExtBut j s.heap h' → (∃ o, h'.get? e = some o ∧ o.cls = .type "StopIteration") → E (.ref e) { s with heap := h' }) : wpAny (model P w) A (Builtin.SmallTypes.nextOf (.ref j)) Q E s := by
  obtain ⟨hh, ox, vx, ex, dx, cx⟩ := hot
  obtain ⟨oj, ej, cj, dj⟩ := id hj
  obtain ⟨oa, ea, _, na, da⟩ := ha
  unfold Builtin.SmallTypes.nextOf
  refine wpAny_bind (wpAny_callSpecial?_slot (name := Str.ofString "__next__") hj.typeIs slot_listiter_next (wpAny_call_entry slot_listiter_next hj.typeIs entry_listiter_next ?_ (args_listiter_next _)))
  refine wpAny_bind (m := field (.ref j) 0) (wpAny_field ej dj (x := .ref a) rfl ?_)
  show wpAny _ _ (if (Value.ref a == Value.none) = true then _ else _) _ _ s
  have nn : ¬ (Value.ref a == Value.none) = true := fun z => Bool.false_ne_true z
  rw [if_neg nn]
  refine wpAny_bind (m := field (.ref j) 1) (wpAny_field ej dj (x := .int n 0) rfl ?_)
  refine wpAny_bind (m := seqItems? (.ref a)) (wpAny_seqItems ea da ?_)
  simp only [Int.toNat_natCast, hx]
  refine wpAny_bind (wpAny_rule (wpAny_bind (wpAny_setField ej dj (by simp) ?_)))
  refine wpAny_bind (m := newExc (.type "StopIteration") []) ?_
  simp only [newExc, newTuple]
  refine wpAny_bind (wpAny_newObj_type ?_ (by size_fits))
  refine wpAny_bind (m := firstArgMember _ _) (wpAny_of_eq (a := Value.none) (by first | rfl | (simp only [firstArgMember]; rfl)) ?_)
  refine wpAny_newObj_type ?_ (by size_fits)
  have e1 : (s.heap.update j (Obj.mapFields (·.setIfInBounds 0 Value.none))).get? x = some ox := (Heap.get?_update_other _ _ xj.symm).trans ex
  have e2 := Heap.get?_push_of_some (h := s.heap.update j (Obj.mapFields (·.setIfInBounds 0 Value.none))) { cls := .type "tuple", data := .seq ([] : List Value).toArray } e1
  refine raiseNew_hot ⟨hh, ox, vx, Heap.get?_push_of_some _ e2, dx, cx⟩ (Nat.ne_of_lt (Heap.lt_size e2)) (Heap.get?_push_size _ rfl) rfl (by first | (simp; done) | (simp; omega)) ?_
  refine fin _ _ (fun b o hb e => ?_) ⟨_, Heap.get?_update_self _ (Heap.get?_push_size _ rfl) rfl, rfl⟩
  have e3 : (s.heap.update j (Obj.mapFields (·.setIfInBounds 0 Value.none))).get? b = some o := (Heap.get?_update_other _ _ (Ne.symm hb)).trans e
  have e4 := Heap.get?_push_of_some (h := s.heap.update j (Obj.mapFields (·.setIfInBounds 0 Value.none))) { cls := .type "tuple", data := .seq ([] : List Value).toArray } e3
  rw [Heap.get?_update_other _ _ (Nat.ne_of_gt (Heap.lt_size e4))]
  exact Heap.get?_push_of_some _ e4
/-- zip, its first iterator at its end -/
theorem hot_zip_end {z TI TO j k a b x : Addr} {n : Nat} {xs : Array Value} {u v : Value} {Q : Option Value → Shared → Prop} (hot : HotAt A x s.heap) (xj : x ≠ j) (xz : x ≠ z) (D : ZipApart z TI TO j k a b)
    (hz : IsZip s.heap z TI TO .none) (hTI : PySem.IsPair s.heap TI (.ref j) (.ref k)) (hTO : PySem.IsPair s.heap TO u v) (hj : s.heap.IsListIter j a n) (ha : s.heap.IsList a xs) (hx : xs[n]? = none)
    (fin : ∀ h', (∀ c o, c ≠ z → c ≠ TO → c ≠ j → c ≠ k → s.heap.get? c = some o → h'.get? c = some o) → Q none { s with heap := h' }) : wpAny (model P w) A (pyNext (.ref z)) Q E s := by
  have ty : s.TypeIs (.ref z) "zip" := ⟨_, hz, rfl⟩
  unfold pyNext
  refine wpAny_bind (wpAny_attempt (wpAny_callSpecial?_slot (name := Str.ofString "__next__") ty F.slot_zip_next (wpAny_call_entry F.slot_zip_next ty F.entry_zip_next ?_ (F.args_zip_next_1 _))))
  refine wpAny_bind (m := field (.ref z) 2) (wpAny_field hz rfl (x := .bool false) rfl ?_)
  refine wpAny_bind (m := field (.ref z) 3) (wpAny_field hz rfl (x := .ref TI) rfl ?_)
  refine wpAny_bind (wpAny_seqItems hTI rfl ?_)
  refine wpAny_bind (m := Builtin.SmallTypes.ownedTupleIsFree (.ref z)) ?_
  unfold Builtin.SmallTypes.ownedTupleIsFree
  refine wpAny_bind (wpAny_field hz rfl (x := .none) rfl (wpAny_pure ?_))
  simp only [if_true]
  refine wpAny_bind (wpAny_rule (wpAny_bind (wpAny_field hz rfl (x := .ref TO) rfl (wpAny_bind (wpAny_setField_rec hz (by simp) fun h₁ hz₁ hs₁ => ?_)))))
  replace hz₁ : IsZip h₁ z TI TO .ellipsis := hz₁
  refine wpAny_bind ?_
  simp only [List.zipIdx_cons, List.zipIdx_nil, List.forIn_cons, List.forIn_nil]
  refine wpAny_bind (wpAny_bind (wpAny_onRaise ?_))
  obtain ⟨hh, ox, vx, ex, dx, cx⟩ := hot
  refine wpAny_bind (m := Builtin.SmallTypes.nextOf (.ref j)) (hot_list_end (s := { s with heap := h₁ }) ⟨hh, ox, vx, hs₁.extBut _ _ xz ex, dx, cx⟩ xj (hj.extBut hs₁.extBut D.i1z) (ha.extBut hs₁.extBut D.l1z) hx fun h₂ e hs₂ he => ?_)
  obtain ⟨oe, hoe, hce⟩ := he
  have hz₂ : IsZip h₂ z TI TO .ellipsis := hs₂ _ _ D.i1z.symm hz₁
  have hez : e ≠ z := fun q => by subst q; rw [hz₂] at hoe; cases hoe; simp at hce
  refine wpAny_setField_rec hz₂ (by simp) fun h₃ _ hs₃ => ?_
  refine wpAny_bind (wpAny_isInstance (T := "StopIteration") (b := true) ⟨oe, hs₃.extBut _ _ hez hoe, hce⟩ isSubtype_stop (wpAny_pure (fin _ fun c o c1 _ c3 _ q => ?_)))
  exact hs₃.extBut _ _ c1 (hs₂ _ _ c3 (hs₁.extBut _ _ c1 q))
end

section
variable {P : Program} {w : World} {A : Around} {E : Value → Shared → Prop} {s : Shared}
/-- a tuple's iterator at its end -/
theorem hot_tup_end {j a x : Addr} {n : Nat} {xs : Array Value} {Q : Option Value → Shared → Prop} (hot : HotAt A x s.heap) (xj : x ≠ j) (hj : PyProof.Rows.IsTupIter s.heap j a n) (ha : IsTup s.heap a xs) (hx : xs[n]? = none)
    (fin : ∀ h', Heap.ExtBut j s.heap h' → Q none { s with heap := h' }) : wpAny (model P w) A (pyNext (.ref j)) Q E s := by
  obtain ⟨hh, ox, vx, ex, dx, cx⟩ := hot
  obtain ⟨oj, ej, cj, dj⟩ := id hj
  obtain ⟨oa, ea, _, na, da⟩ := ha
  unfold pyNext
  refine wpAny_bind (wpAny_attempt (wpAny_callSpecial?_slot (name := Str.ofString "__next__") hj.typeIs slot_tupleiter_next (wpAny_call_entry slot_tupleiter_next hj.typeIs entry_tupleiter_next ?_ (args_tupleiter_next _))))
  refine wpAny_bind (m := field (.ref j) 0) (wpAny_field ej dj (x := .ref a) rfl ?_)
  show wpAny _ _ (if (Value.ref a == Value.none) = true then _ else _) _ _ s
  have nn : ¬ (Value.ref a == Value.none) = true := fun z => Bool.false_ne_true z
  rw [if_neg nn]
  refine wpAny_bind (m := field (.ref j) 1) (wpAny_field ej dj (x := .int n 0) rfl ?_)
  refine wpAny_bind (m := seqItems? (.ref a)) (wpAny_seqItems ea da ?_)
  simp only [Int.toNat_natCast, hx]
  refine wpAny_bind (wpAny_rule (wpAny_bind (wpAny_setField ej dj (by simp) ?_)))
  refine wpAny_bind (m := newExc (.type "StopIteration") []) ?_
  simp only [newExc, newTuple]
  refine wpAny_bind (wpAny_newObj_type ?_ (by size_fits))
  refine wpAny_bind (m := firstArgMember _ _) (wpAny_of_eq (a := Value.none) (by first | rfl | (simp only [firstArgMember]; rfl)) ?_)
  refine wpAny_newObj_type ?_ (by size_fits)
  have e1 : (s.heap.update j (Obj.mapFields (·.setIfInBounds 0 Value.none))).get? x = some ox := (Heap.get?_update_other _ _ xj.symm).trans ex
  have e2 := Heap.get?_push_of_some (h := s.heap.update j (Obj.mapFields (·.setIfInBounds 0 Value.none))) { cls := .type "tuple", data := .seq ([] : List Value).toArray } e1
  refine raiseNew_hot ⟨hh, ox, vx, Heap.get?_push_of_some _ e2, dx, cx⟩ (Nat.ne_of_lt (Heap.lt_size e2)) (Heap.get?_push_size _ rfl) rfl (by first | (simp; done) | (simp; omega)) ?_
  refine wpAny_bind (wpAny_isInstance (T := "StopIteration") (b := true) ⟨_, Heap.get?_update_self _ (Heap.get?_push_size _ rfl) rfl, rfl⟩ isSubtype_stop (wpAny_pure (fin _ fun b o hb e => ?_)))
  have e3 : (s.heap.update j (Obj.mapFields (·.setIfInBounds 0 Value.none))).get? b = some o := (Heap.get?_update_other _ _ (Ne.symm hb)).trans e
  have e4 := Heap.get?_push_of_some (h := s.heap.update j (Obj.mapFields (·.setIfInBounds 0 Value.none))) { cls := .type "tuple", data := .seq ([] : List Value).toArray } e3
  rw [Heap.get?_update_other _ _ (Nat.ne_of_gt (Heap.lt_size e4))]
  exact Heap.get?_push_of_some _ e4
theorem hot_assign {env : Env} {elts : List Expr} {x1} {pos : Pos} {t x : Addr} {xs : Array Value} {Q : Unit → Shared → Prop} (hot : HotAt A x s.heap) (ht : IsTup s.heap t xs) (hn : (assignEach elts env).length = xs.size) (hst : (assignEach elts env).findIdx? (·.1) = none)
    (fin : ∀ h', Heap.ExtBut s.heap.objs.size s.heap h' → wpAny (model P w) A (assignInOrder ((assignEach elts env).map (·.2)) xs.toList) Q E { s with heap := h' }) : wpAny (model P w) A (assign (.Tuple elts x1 pos) env (.ref t)) Q E s := by
  have ne : t ≠ s.heap.objs.size := by obtain ⟨o, e, _⟩ := ht; exact Nat.ne_of_lt (Heap.lt_size e)
  obtain ⟨hh, ox, vx, ex, dx, cx⟩ := hot
  have xlt := Heap.lt_size ex
  rw [assign_Tuple]
  refine wpAny_bind (wpAny_standAt ?_)
  unfold unpack
  rw [hn, hst]
  refine wpAny_bind (wpAny_holding ?_)
  unfold unpackItems
  refine wpAny_bind ?_
  unfold notIterableAtAll
  refine wpAny_bind (wpAny_specialOf ht.typeIs slot_tuple_iter.lookup (wpAny_pure ?_))
  simp only [Bool.false_eq_true, if_false]
  refine wpAny_bind (wpAny_holding (iter_tuple ht (wpAny_bind (wpAny_holding (draw_tuple ne xs.size 0 _ _ ⟨_, Heap.get?_push_size _ rfl, rfl, rfl⟩ (ht.push _) (by omega) fun h₁ q₁ hs₁ => ?_)))))
  rw [show List.take xs.size (List.drop 0 xs.toList) = xs.toList by rw [List.drop_zero]; exact List.take_of_length_le (by simp), if_neg (by simp)]
  have x1' : h₁.get? x = some ox := hs₁.extBut x ox (Nat.ne_of_lt xlt) (Heap.get?_push_of_some _ ex)
  refine wpAny_bind (wpAny_holding (hot_tup_end (s := { s with heap := h₁ }) ⟨hh, ox, vx, x1', dx, cx⟩ (Nat.ne_of_lt xlt) q₁ ((ht.push _).extBut hs₁.extBut ne) (by simp) fun h₂ he₂ => ?_))
  simp only [Option.isSome_none, Bool.false_eq_true, if_false]
  exact wpAny_pure (fin h₂ fun b o hb e => he₂ b o hb (hs₁.extBut b o hb (Heap.get?_push_of_some _ e)))
end
/-- the handled exception stands in the state of a block's start -/
def HotB (X : Cx) (s : Shared) (H : Hp) (fp : List Addr) : Prop := ∃ (a : Addr) (o : Obj) (vs : Array Value), X.A.handled = some (.ref a) ∧ o.data = .fields vs ∧ vs[2]? = some .none ∧ s.heap.get? a = some o ∧ H a = none ∧ a ∉ frs X.stack ∧ a ∉ fp
theorem pg_tupHot {X : Cx} {s0 : Shared} {H0 : Hp} {scope : Scope} {ce : Env} {fp : List Addr} {es : List Expr} {k n : Nat} {t : TGs} {pos : Pos} (hb : HotB X s0 H0 fp) (h : PGs (X.blk s0 H0 scope ce fp) es t)
    (hn : (assignEach es ce).length = n := by rfl) (hst : (assignEach es ce).findIdx? (·.1) = none := by rfl) : PG (X.blk s0 H0 scope ce fp) (.Tuple es k pos) (gTup X.K n t) := by
  refine ⟨fun pins s σ H v u Q I r hw => ?_⟩
  obtain ⟨a, xs, rfl, hq, hl, hw⟩ := hw
  obtain rfl : u = Value.ref a := r
  obtain ⟨its, rv, ht, hz⟩ := I.tuple hq
  obtain ⟨ea, eo, ev, hh, ed, ec, eg, en, enf, enp⟩ := hb
  refine hot_assign ⟨hh, eo, ev, I.base.keep ea eo eg en enf enp, ed, ec⟩ ht (by rw [List.size_toArray, ← rv.length, hl]; exact hn) hst fun h' hx => ?_
  exact h.run pins _ σ H xs _ Q (I.kept (t' := s.toks) fun b o e => hx b o (Nat.ne_of_lt (Heap.lt_size e)) e) (by simpa using rv) hw

/-! ### zip as it is walked -/
/-- how the walk over two lists stands at the turn n -/
structure ZSt (z ti to j k a b : Addr) (n : Nat) (h : Heap) : Prop where
  zip : IsZip h z ti to .none
  ins : PySem.IsPair h ti (.ref j) (.ref k)
  out : ∃ u v, PySem.IsPair h to u v
  fst : h.IsListIter j a n
  snd : h.IsListIter k b n
abbrev zfp (z ti to j k : Addr) : List Addr := [z, ti, to, j, k]
theorem ZSt.keep {z ti to j k a b : Addr} {n : Nat} {h h' : Heap} (t : ZSt z ti to j k a b n h) (q : ∀ c ∈ zfp z ti to j k, ∀ o, h.get? c = some o → h'.get? c = some o) : ZSt z ti to j k a b n h' := by
  obtain ⟨t1, t2, ⟨u, v, t3⟩, t4, t5⟩ := t
  exact ⟨q z (by simp) _ t1, q ti (by simp) _ t2, ⟨u, v, q to (by simp) _ t3⟩, t4.at fun o e => q j (by simp) o e, t5.at fun o e => q k (by simp) o e⟩
theorem ZSt.obj {z ti to j k a b : Addr} {n : Nat} {h : Heap} (t : ZSt z ti to j k a b n h) : ∀ c ∈ zfp z ti to j k, ∃ o, h.get? c = some o ∧ ∀ v, o.data ≠ .cell v := fun c hc => by
  obtain ⟨t1, t2, ⟨u, v, t3⟩, ⟨o4, e4, _, d4⟩, ⟨o5, e5, _, d5⟩⟩ := t
  have hc' : c = z ∨ c = ti ∨ c = to ∨ c = j ∨ c = k := by simpa [zfp] using hc
  rcases hc' with rfl | rfl | rfl | rfl | rfl
  · exact ⟨_, t1, fun _ e => nomatch e⟩
  · exact ⟨_, t2, fun _ e => nomatch e⟩
  · exact ⟨_, t3, fun _ e => nomatch e⟩
  · exact ⟨o4, e4, fun _ e => by rw [d4] at e; cases e⟩
  · exact ⟨o5, e5, fun _ e => by rw [d5] at e; cases e⟩
section
variable {X : Cx} {pins : List (Addr × Obj)} {σ : L2.St} {H : Hp} {s : Shared} {E : Value → Shared → Prop} {elts : List Expr} {kk : Nat} {tpos : Pos}
theorem hot_item {z ti to j k a b : Addr} {n : Nat} {xs ys : List V} {x y : V} (D : ZipApart z ti to j k a b) (I : Inv X pins σ H s) (hf : ∀ c ∈ zfp z ti to j k, FpOk X pins H c) (t : ZSt z ti to j k a b n s.heap)
    (h1 : SqL X.K H a xs) (h2 : SqL X.K H b ys) (hx : xs[n]? = some x) (hy : ys[n]? = some y) :
    wpAny (model X.prog X.w) X.A (pyNext (.ref z)) (fun r s1 => ∃ u, r = some u ∧ wpAny (model X.prog X.w) X.A (letOwnedTupleGo (.Tuple elts kk tpos) (.ref z) u) (fun _ s2 =>
      ∃ T, u = .ref T ∧ H T = none ∧ Inv X pins σ (upd H T (.tup [x, y])) s2 ∧ ZSt z ti to j k a b (n + 1) s2.heap ∧ ∀ c ∈ zfp z ti to j k, upd H T (.tup [x, y]) c = none) E s1) E s := by
  obtain ⟨t1, t2, ⟨u0, v0, t3⟩, t4, t5⟩ := t
  obtain ⟨is, r1, l1, _⟩ := I.list h1
  obtain ⟨is', r2, l2, _⟩ := I.list h2
  obtain ⟨u, hu, ru⟩ := r1.get hx
  obtain ⟨v, hv, rv⟩ := r2.get hy
  have lz := Heap.lt_size t1
  refine wpAny_pyNext_zip_item D t1 t2 t3 t4 t5 l1.isList l2.isList (x := u) (y := v) (by simpa using hu) (by simpa using hv) fun h' q1 q2 q3 q4 qT qs qk => ⟨_, rfl, wpAny_letOwnedTupleGo_zip (s := { s with heap := h' }) q1 fun h2' z2 sb => ?_⟩
  have qT2 : h2'.get? s.heap.objs.size = some { cls := .type "tuple", data := .seq #[u, v] } := (sb.2 _ (Nat.ne_of_gt lz)).trans qT
  have lt : ∀ c ∈ zfp z ti to j k, c < s.heap.objs.size := fun c hc => by
    obtain ⟨o, e, _⟩ := ZSt.obj ⟨t1, t2, ⟨u0, v0, t3⟩, t4, t5⟩ c hc
    exact Heap.lt_size e
  refine ⟨s.heap.objs.size, rfl, I.fresh, I.turnedNew (t' := s.toks) (ch := zfp z ti to j k) (fun c o hc e => ?_) hf (Nat.le_refl _) ⟨by show 2 ≤ sizeLine; decide, [u, v], .cons ru (.cons rv .nil), ⟨_, qT2, rfl, _, rfl⟩⟩, ⟨z2, ?_, ⟨u, v, (sb.2 _ D.TOz).trans q2⟩, q3.at fun o e => (sb.2 _ D.i1z).trans e, q4.at fun o e => (sb.2 _ D.i2z).trans e⟩, fun c hc => ?_⟩
  · have nc : ∀ d ∈ zfp z ti to j k, c ≠ d := fun d hd e' => hc (e' ▸ hd)
    exact (sb.2 c (nc z (by simp))).trans (qk c o (nc z (by simp)) (nc to (by simp)) (nc j (by simp)) (nc k (by simp)) e)
  · exact (sb.2 _ D.TIz).trans (qk _ _ D.TIz D.TITO D.TIi1 D.TIi2 t2)
  · rw [upd_ne (Nat.ne_of_lt (lt c hc))]
    exact (hf c hc).1
theorem hot_done {z ti to j k a b q : Addr} {n : Nat} {xs : List V} (D : ZipApart z ti to j k a b) (hot : HotAt X.A q s.heap) (nq : q ∉ zfp z ti to j k) (I : Inv X pins σ H s) (hf : ∀ c ∈ zfp z ti to j k, FpOk X pins H c) (t : ZSt z ti to j k a b n s.heap)
    (h1 : SqL X.K H a xs) (hx : xs.length ≤ n) : wpAny (model X.prog X.w) X.A (pyNext (.ref z)) (fun r s1 => r = none ∧ Inv X pins σ H s1) E s := by
  obtain ⟨t1, t2, ⟨u0, v0, t3⟩, t4, t5⟩ := t
  obtain ⟨is, r1, l1, _⟩ := I.list h1
  have el := r1.length
  refine hot_zip_end hot (fun e => nq (by simp [zfp, e])) (fun e => nq (by simp [zfp, e])) D t1 t2 t3 t4 l1.isList (by simp; omega) fun h' hk => ⟨rfl, I.turnedL (t' := s.toks) (ch := zfp z ti to j k) (fun c o hc e => ?_) hf⟩
  have nc : ∀ d ∈ zfp z ti to j k, c ≠ d := fun d hd e' => hc (e' ▸ hd)
  exact hk c o (nc z (by simp)) (nc to (by simp)) (nc j (by simp)) (nc k (by simp)) e
end
/-- the walk over zip(xs, ys) while an exception is handled: it ends where xs ends -/
def ItzH (K : PySem.W.Frag) (a b : Addr) : It := ⟨(Itz K a b).go, (Itz K a b).yld, fun i H => ∃ xs : List V, SqL K H a xs ∧ xs.length ≤ i⟩
def iZipH (K : PySem.W.Frag) (ta : TA) : TI := fun σ H R => ta σ H fun vs H1 => ∃ a b xs ys, vs = [.ref a, .ref b] ∧ SqL K H1 a xs ∧ SqL K H1 b ys ∧ R (ItzH K a b) H1
section
variable {X : Cx}
/-- the comprehension's own part: from the iterator on -/
theorem hot_core {pins : List (Addr × Obj)} {σ : L2.St} {H : Hp} {s : Shared} {Q : VK} {elt iter : Expr} {elts ifs : List Expr} {kk : Nat} {scope : Scope} {own : List (Str × Nat)} {tpos pos : Pos} {g : TG} {tt : TT} {te : TE} {z ti to j k a b ea : Addr} {eo : Obj} {ev : Array Value}
    (hh : X.A.handled = some (.ref ea)) (ed : eo.data = .fields ev) (ec : ev[2]? = some .none) (eg : s.heap.get? ea = some eo) (en : H ea = none) (enf : ea ∉ zfp z ti to j k) (enfr : ea ∉ frs X.stack)
    (hN : X.N.Nodup) (I : Inv X pins σ H s) (ok : BlkOk X.N X.env.scope scope own) (D : ZipApart z ti to j k a b) (t0 : ZSt z ti to j k a b 0 s.heap) (f0 : ∀ c ∈ zfp z ti to j k, FpOk X pins H c)
    (pg : ∀ (s : Shared) (H : Hp) (C : Addr) (cl : List (Str × Addr)) (fp : List Addr), HotB X s H fp → PG (X.blk s H scope (compEnvC scope cl C X.env) fp) (.Tuple elts kk tpos) g)
    (pt : ∀ (s : Shared) (H : Hp) (C : Addr) (cl : List (Str × Addr)) (fp : List Addr), PTs (X.blk s H scope (compEnvC scope cl C X.env) fp) ifs tt)
    (pe : ∀ (s : Shared) (H : Hp) (C : Addr) (cl : List (Str × Addr)) (fp : List Addr), PE (X.blk s H scope (compEnvC scope cl C X.env) fp) elt te)
    (q : ∀ N, H N = none → ∃ W : Nat → Nat → Hp → Prop, (∃ m, W 0 m (upd H N (.lst []))) ∧ ∀ i m H, W i m H →
      ((ItzH X.K a b).stop i H ∧ Q (.ref N) H) ∨ ((ItzH X.K a b).go i H ∧ ∃ Nx : Hp → Prop, (∀ H', Nx H' → ∃ m', m' < m ∧ W (i + 1) m' H') ∧ ∀ x H', (ItzH X.K a b).yld i H x H' → g x (wipe σ (own.map (·.2))) H' fun σ2 H2 => wipe σ2 (own.map (·.2)) = wipe σ (own.map (·.2)) ∧ tt σ2 H2 fun b H3 =>
        if b = true then te σ2 H3 fun y H4 => ∃ acc, H4 N = some (.lst acc) ∧ acc.length < sizeLine ∧ Nx (upd H4 N (.lst (acc ++ [y]))) else Nx H3)) :
    wpAny (model X.prog X.w) X.A (newList []) (fun acc s3 => wpAny (model X.prog X.w) X.A (newFunctionEnv scope X.env.globals (cloFrom X.env.cells scope.names []) [] X.env.qual none .none (some X.env)) (fun cenv s4 =>
      codeAny (model X.prog X.w) X.A (.compStart (.ListComp elt [⟨.Tuple elts kk tpos, iter, ifs, 0⟩] scope pos) 0 (.ref z) acc { cenv with scope := relabel scope X.env }) (compPost (model X.prog X.w) X.A X.xe none (EP X pins σ Q) acc cenv.locals) s4) X.xe s3) X.xe s := by
  refine wpAny_newObj_type (newEnv_comp ?_) (by show 0 ≤ sizeLine; decide)
  obtain ⟨N, eN⟩ : ∃ N, s.heap.objs.size = N := ⟨_, rfl⟩
  have nN : H N = none := I.hok.fresh (Nat.le_of_eq eN)
  obtain ⟨W, ⟨m0, w0⟩, turn⟩ := q N nN
  obtain ⟨s3, es3⟩ : ∃ s3 : Shared, { s with heap := s.heap.push { cls := .type "list", data := .seq ([] : List Value).toArray } } = s3 := ⟨_, rfl⟩
  have k3 : ∀ c o, s.heap.get? c = some o → s3.heap.get? c = some o := fun c o e => by rw [← es3]; exact Heap.get?_push_of_some _ e
  have I3 : Inv X pins σ (upd H N (.lst [])) s3 := by
    have new : s3.heap.get? N = some { cls := .type "list", data := .seq ([] : List Value).toArray } := by rw [← es3, ← eN]; exact Heap.get?_push_size _ rfl
    have J := I.laid (t' := s.toks) (h' := s3.heap) (o := .lst []) k3 (Nat.le_of_eq eN) ⟨Nat.zero_le _, [], 0, .nil, new⟩
    rw [← es3] at J ⊢
    exact J
  have ltf : ∀ c ∈ zfp z ti to j k, c < s.heap.objs.size := fun c hc => by
    obtain ⟨o, e, _⟩ := t0.obj c hc
    exact Heap.lt_size e
  have f3 : ∀ c ∈ zfp z ti to j k, FpOk X pins (upd H N (.lst [])) c ∧ c < s3.heap.objs.size := fun c hc => by
    have lc := ltf c hc
    obtain ⟨o, e, _⟩ := t0.obj c hc
    exact ⟨⟨by rw [upd_ne (by rw [← eN]; exact Nat.ne_of_lt lc)]; exact (f0 c hc).1, (f0 c hc).2⟩, Heap.lt_size (k3 c o e)⟩
  have t3 : ZSt z ti to j k a b 0 s3.heap := t0.keep fun c _ o e => k3 c o e
  have e3 : s3.heap.get? ea = some eo := k3 _ _ eg
  have en3 : upd H N (.lst []) ea = none := by rw [upd_ne (by rw [← eN]; exact Nat.ne_of_lt (Heap.lt_size eg))]; exact en
  have I4 := block_start I3 ok hN f3
  have n3 : ∀ c ∈ zfp z ti to j k, upd H N (.lst []) c = none := fun c hc => (f3 c hc).1.1
  have e4 := es3
  subst e4
  obtain ⟨s3, es3⟩ : ∃ s3 : Shared, { s with heap := s.heap.push { cls := .type "list", data := .seq ([] : List Value).toArray } } = s3 := ⟨_, rfl⟩
  rw [es3] at I3 I4 t3 e3 f3 ⊢
  rw [eN]
  obtain ⟨cl, ecl⟩ : ∃ cl, cellsFrom (s3.heap.objs.size + 1) scope.names (cloFrom X.env.cells scope.names []) = cl := ⟨_, rfl⟩
  have g4 := pg s3 (upd H N (.lst [])) s3.heap.objs.size cl (zfp z ti to j k) ⟨ea, eo, ev, hh, ed, ec, e3, en3, enfr, enf⟩
  have c4 := pt s3 (upd H N (.lst [])) s3.heap.objs.size cl (zfp z ti to j k)
  have v4 := pe s3 (upd H N (.lst [])) s3.heap.objs.size cl (zfp z ti to j k)
  show codeAny _ _ (.compStart (.ListComp elt [⟨.Tuple elts kk tpos, iter, ifs, 0⟩] scope pos) 0 (.ref z) (.ref N) (compEnvC scope (cellsFrom (s3.heap.objs.size + 1) scope.names (cloFrom X.env.cells scope.names [])) s3.heap.objs.size X.env)) (compPost (model X.prog X.w) X.A X.xe none (EP X pins σ Q) (.ref N) s3.heap.objs.size) { s3 with heap := pushCells (s3.heap.push { cls := .type "dict", data := .dict #[] }) scope.names }
  rw [ecl] at I4 ⊢
  obtain ⟨ce, ece⟩ : ∃ ce, compEnvC scope cl s3.heap.objs.size X.env = ce := ⟨_, rfl⟩
  have cL : ce.locals = s3.heap.objs.size := by rw [← ece]; rfl
  rw [ece] at I4 g4 c4 v4 ⊢
  have k4 : ∀ c o, s3.heap.get? c = some o → (pushCells (s3.heap.push { cls := .type "dict", data := .dict #[] }) scope.names).get? c = some o := fun c o e => pushCells_keeps _ _ _ _ (Heap.get?_push_of_some _ e)
  obtain ⟨s4, es4⟩ : ∃ s4 : Shared, { s3 with heap := pushCells (s3.heap.push { cls := .type "dict", data := .dict #[] }) scope.names } = s4 := ⟨_, rfl⟩
  have t4 : ZSt z ti to j k a b 0 s4.heap := t3.keep fun c _ o e => by rw [← es4]; exact k4 c o e
  rw [es4] at I4 ⊢
  obtain ⟨H3, eH3⟩ : ∃ H3, upd H N (.lst []) = H3 := ⟨_, rfl⟩
  rw [eH3] at I3 I4 g4 c4 v4 w0 n3 f3 en3
  have hotB : ∀ {σ' : L2.St} {H' : Hp} {s' : Shared} {pn : List (Addr × Obj)}, Inv (X.blk s3 H3 scope ce (zfp z ti to j k)) pn σ' H' s' → HotAt X.A ea s'.heap := fun {σ' H' s' pn} J =>
    ⟨hh, eo, ev, J.base.keep ea eo e3 en3 enfr enf, ed, ec⟩
  have stat : ∀ {σ' : L2.St} {H' : Hp} {s' : Shared}, Inv (X.blk s3 H3 scope ce (zfp z ti to j k)) [] σ' H' s' → (∀ c ∈ zfp z ti to j k, H' c = none) → ∀ c ∈ zfp z ti to j k, FpOk (X.blk s3 H3 scope ce (zfp z ti to j k)) [] H' c := fun {σ' H' s'} J hn c hc =>
    ⟨hn c hc, (J.ok.exf c hc).1, J.ok.exfs c hc, .inl hc, fun x d e => (J.ok.exf c hc).2 x d e, fun p hp => by cases (show p ∈ ([] : List (Addr × Obj)) from hp)⟩
  have run : codeAny (model X.prog X.w) X.A (.compLoop (.ListComp elt [⟨.Tuple elts kk tpos, iter, ifs, 0⟩] scope pos) 0 (.ref z) (.ref N) ce) (compPost (model X.prog X.w) X.A X.xe none (EP X pins σ Q) (.ref N) s3.heap.objs.size) s4 := by
    refine compLoop_any (fun m s' => ∃ i H', Inv (X.blk s3 H3 scope ce (zfp z ti to j k)) [] (wipe σ (own.map (·.2))) H' s' ∧ ZSt z ti to j k a b i s'.heap ∧ (∀ c ∈ zfp z ti to j k, H' c = none) ∧ W i m H') ?_ m0 ⟨0, H3, I4, t4, n3, w0⟩
    rintro m s5 ⟨i, H5, I5, t5, n5, w5⟩
    rcases turn i m H5 w5 with ⟨⟨xs, h1, hx⟩, qq⟩ | ⟨⟨xs, ys, x, y, h1, h2, hx, hy⟩, Nx, hNx, step⟩
    · refine thnF (hot_done (X := X.blk s3 H3 scope ce (zfp z ti to j k)) D (hotB I5) enf I5 (stat I5 n5) t5 h1 hx) fun r s6 hr6 => ?_
      obtain ⟨rfl, I6⟩ := hr6
      have I7 : Inv X pins σ H5 s6 := I3.call' (ch := zfp z ti to j k) I6.os I6.base I6.hok I6.bare fun c hc => ⟨(f3 c hc).1.2.2.2.1, (f3 c hc).1.2.1, (f3 c hc).1.2.2.2.2.1, (f3 c hc).1.2.2.2.2.2⟩
      have nC : H5 s3.heap.objs.size = none := cL ▸ I6.free
      obtain ⟨mm, hn, _⟩ := I6.loc
      have hn : s6.heap.Ns s3.heap.objs.size mm := cL ▸ hn
      obtain ⟨p0, p1, p2, p3, p4, p5⟩ := I3.fpOk (Nat.le_refl _) nC
      exact ⟨mm, hn, fun h'' sb => ⟨.ref N, H5, I7.turned (t' := s6.toks) (fun c o hc e => (sb.2 c hc).trans e) p0 p1 p3 p4 p5, rfl, qq⟩⟩
    · refine thnF (hot_item (X := X.blk s3 H3 scope ce (zfp z ti to j k)) (elts := elts) (kk := kk) (tpos := tpos) D I5 (stat I5 n5) t5 h1 h2 hx hy) fun r s6 h6 => ?_
      obtain ⟨u, rfl, h6⟩ := h6
      refine thnF h6 fun _ s7 h7 => ?_
      obtain ⟨T, rfl, nT, I7, t7, n7⟩ := h7
      have I7p := I7.pinned (stat I7 n7) t7.obj
      have yl : (ItzH X.K a b).yld i H5 (.ref T) (upd H5 T (.tup [x, y])) := ⟨T, x, y, rfl, nT, rfl, fun l hl => by rw [I5.list_inj hl h1]; exact hx, fun l hl => by rw [I5.list_inj hl h2]; exact hy⟩
      refine thnF (g4.run _ s7 _ _ (.ref T) (.ref T) _ I7p rfl (step _ _ yl)) fun _ s8 h8 => ?_
      obtain ⟨σ8, H8, I8, hw8, q8⟩ := h8
      refine thnF (c4.run _ s8 σ8 H8 _ I8 q8) fun bb s9 h9 => ?_
      obtain ⟨H9, I9, q9⟩ := h9
      have fin : ∀ {s' : Shared} {H' : Hp}, Inv (X.blk s3 H3 scope ce (zfp z ti to j k)) ([] ++ pinsAt (zfp z ti to j k) s7.heap) σ8 H' s' → Nx H' → ∃ m', m' < m ∧ ∃ i H', Inv (X.blk s3 H3 scope ce (zfp z ti to j k)) [] (wipe σ (own.map (·.2))) H' s' ∧ ZSt z ti to j k a b i s'.heap ∧ (∀ c ∈ zfp z ti to j k, H' c = none) ∧ W i m' H' := fun {s' H'} J nx => by
        obtain ⟨m', lm, w'⟩ := hNx H' nx
        have pin' : ∀ c ∈ zfp z ti to j k, ∀ o, s7.heap.get? c = some o → s'.heap.get? c = some o ∧ H' c = none := fun c hc o e => by
          have r := J.pin (c, o) (List.mem_append_right _ (List.mem_append_right _ (mem_pinsAt hc e)))
          exact ⟨r.1, r.2.1⟩
        refine ⟨m', lm, i + 1, H', (J.unpinned (pins := [])).weak (by rw [← hw8, wipe_length]) (fun l v e => (wipe_some (hw8 ▸ e)).1), t7.keep fun c hc o e => (pin' c hc o e).1, fun c hc => ?_, w'⟩
        obtain ⟨o, e, _⟩ := t7.obj c hc
        exact (pin' c hc o e).2
      cases bb with
      | false => exact fin I9 q9
      | true =>
        refine thnF (v4.run _ s9 σ8 H9 _ I9 q9) fun v s10 h10 => ?_
        obtain ⟨yv, H10, I10, r10, acc, hN10, hz10, nx⟩ := h10
        exact app_ok (X := X.blk s3 H3 scope ce (zfp z ti to j k)) I10 hN10 hz10 r10 fun s11 I11 => fin I11 nx
  exact codeAny_compStart_list run (wpAny_pyIter_zip t4.zip run)
theorem pe_lcHot {elt e1 e2 : Expr} {elts ifs : List Expr} {kk : Nat} {scope : Scope} {own : List (Str × Nat)} {pz zpos tpos pos : Pos} {ta : TA} {g : TG} {tt : TT} {te : TE} (hot : L2H.HotC X) (hN : X.N.Nodup) (hgz : Gl X "zip") (hmz : X.mg "zip" = none) (ha : PA X [e1, e2] ta)
    (ok : BlkOk X.N X.env.scope scope own)
    (pg : ∀ (s : Shared) (H : Hp) (C : Addr) (cl : List (Str × Addr)) (fp : List Addr), HotB X s H fp → PG (X.blk s H scope (compEnvC scope cl C X.env) fp) (.Tuple elts kk tpos) g)
    (pt : ∀ (s : Shared) (H : Hp) (C : Addr) (cl : List (Str × Addr)) (fp : List Addr), PTs (X.blk s H scope (compEnvC scope cl C X.env) fp) ifs tt)
    (pe : ∀ (s : Shared) (H : Hp) (C : Addr) (cl : List (Str × Addr)) (fp : List Addr), PE (X.blk s H scope (compEnvC scope cl C X.env) fp) elt te)
    (hfold : ∀ x, foldedSetIterable (.Call (.Name "zip" pz) [e1, e2] [] zpos) X.env x = pure x := by intro _; rfl)
    (hst : starEach [e1, e2] X.env = (false, eval e1 X.env) :: starEach [e2] X.env := by rfl) (hpl : (backTo zpos (starEach [e2] X.env)).any (·.1) = false := by rfl) :
    PE X (.ListComp elt [⟨.Tuple elts kk tpos, .Call (.Name "zip" pz) [e1, e2] [] zpos, ifs, 0⟩] scope pos) (tLc (iZipH X.K ta) g tt te (own.map (·.2))) := by
  refine ⟨fun pins s σ H Q I h => ?_⟩
  have hcells : ∀ y ∈ scope.names, y.2 = .free → ∃ c, X.env.cells.lookup y.1 = some c := fun y hy e => (ok.free y hy e).elim (fun q => I.ok.has _ (.inl q)) fun q => I.ok.has _ (.inr q)
  rw [eval_ListComp]
  refine wpAny_comprehension_free rfl hfold (closure_ok hcells) ok.kind (fun y hy e => by rw [ok.uniq y hy, e]) ?_
  refine Call_ (ld_blt I hgz hmz PyProof.Rows.boot_zip (PyProof.Rows.callWith_type1 (thn (ha.run zpos pins s σ H _ I h) fun us s1 ⟨vs, H1, I1, r1, a, b, xs, ys, ev, hqx, hqy, q⟩ => ?_) hst hpl))
  subst ev
  obtain ⟨u1, u2, rfl, ra, rb⟩ := vals2 r1
  obtain rfl : u1 = Value.ref a := ra
  obtain rfl : u2 = Value.ref b := rb
  obtain ⟨is1, rv1, l1, _⟩ := I1.list hqx
  obtain ⟨is2, rv2, l2, _⟩ := I1.list hqy
  refine call_zip_2 l1.isList l2.isList fun h2 z1 z2 z3 z4 z5 hsz hk => wpAny_pyIter_zip z1 ?_
  have I2 : Inv X pins σ H1 { s1 with heap := h2 } := I1.kept (t' := s1.toks) hk
  have D := PySem.W.ktu_apart s1.heap.objs.size a b l1.lt l2.lt
  have fr : ∀ c ∈ zfp (s1.heap.objs.size + 4) (s1.heap.objs.size + 2) (s1.heap.objs.size + 3) s1.heap.objs.size (s1.heap.objs.size + 1), s1.heap.objs.size ≤ c := fun c hc => by
    have hc' : c = s1.heap.objs.size + 4 ∨ c = s1.heap.objs.size + 2 ∨ c = s1.heap.objs.size + 3 ∨ c = s1.heap.objs.size ∨ c = s1.heap.objs.size + 1 := by simpa [zfp] using hc
    show (s1.heap.objs.size : Nat) ≤ (c : Nat)
    rcases hc' with rfl | rfl | rfl | rfl | rfl
    · exact Nat.le_add_right _ _
    · exact Nat.le_add_right _ _
    · exact Nat.le_add_right _ _
    · exact Nat.le_refl _
    · exact Nat.le_add_right _ _
  have f2 : ∀ c ∈ zfp (s1.heap.objs.size + 4) (s1.heap.objs.size + 2) (s1.heap.objs.size + 3) s1.heap.objs.size (s1.heap.objs.size + 1), FpOk X pins H1 c := fun c hc => I1.fpOk (fr c hc) (I1.hok.fresh (fr c hc))
  have t2 : ZSt (s1.heap.objs.size + 4) (s1.heap.objs.size + 2) (s1.heap.objs.size + 3) s1.heap.objs.size (s1.heap.objs.size + 1) a b 0 h2 := ⟨z1, z2, ⟨_, _, z3⟩, z4, z5⟩
  -- the handled one stands in the state, apart from the walk's own
  obtain ⟨⟨ea, eo⟩, ⟨hh, ev, ed, ec⟩, emem⟩ := hot
  have ep := I1.pin (ea, eo) (List.mem_append_left _ emem)
  have elt1 : ea < s1.heap.objs.size := Heap.lt_size ep.1
  have enf : ea ∉ zfp (s1.heap.objs.size + 4) (s1.heap.objs.size + 2) (s1.heap.objs.size + 3) s1.heap.objs.size (s1.heap.objs.size + 1) := fun hc => Nat.lt_irrefl _ (Nat.lt_of_lt_of_le elt1 (fr _ hc))
  have enfr : ea ∉ frs X.stack := fun hm => (List.mem_cons.mp (I1.stkSub ea hm)).elim ep.2.2.1 ep.2.2.2.1
  have e2 : h2.get? ea = some eo := hk _ _ ep.1
  exact hot_core hh ed ec e2 ep.2.1 enf enfr hN I2 ok D t2 f2 pg pt pe q
end
end Ly
set_option Elab.async false
set_option linter.all false
set_option maxRecDepth 100000
set_option maxHeartbeats 4000000
/-! refusals: their classes, their names -/
namespace Ly
open PySem PySem.Spec PyProof.Rows L2
abbrev veB : List Value := [.type "ValueError", .type "Exception", .type "BaseException", .type "object"]
/-- what the written part must say of an error's class -/
def ecB (K : PySem.W.Frag) (C : Addr) : Bool :=
  PySem.W.keepIn K (.ref C) && (PySem.W.subIn K (.ref C) (.type "BaseException") == some true && (PySem.W.typeIn K (.ref C) == some (.type "type") && (PySem.W.excIn K C veB "ValueError.__new__" && (PySem.W.hasDictIn K C &&
  (PySem.W.findIn K (.ref C) "__getattribute__" == some (some (.builtin "BaseException.__getattribute__")) && (PySem.W.findIn K (.ref C) "__getattr__" == some none && (PySem.W.findIn K (.ref C) "__class__" == some (some (.builtin "object.__class__")) &&
  (PySem.W.specialIn K (.builtin "object.__class__") "__get__" == some (some (.builtin "getset_descriptor.__get__")) && (PySem.W.takesIn K (.builtin "object.__class__") == some true && PySem.W.mroIn K C (.type "object") == some true)))))))))
structure Ec (K : PySem.W.Frag) (C : Addr) : Prop where
  kp : PySem.W.keepIn K (.ref C) = true
  sub : PySem.W.subIn K (.ref C) (.type "BaseException") = some true
  ty : PySem.W.typeIn K (.ref C) = some (.type "type")
  ex : PySem.W.excIn K C veB "ValueError.__new__" = true
  cc : ExcC K C
theorem ec_of {K : PySem.W.Frag} {C : Addr} (h : ecB K C = true) : Ec K C := by
  unfold ecB at h
  simp only [Bool.and_eq_true, beq_iff_eq] at h
  obtain ⟨h1, h2, h3, h4, h5, h6, h7, h8, h9, h10, h11⟩ := h
  exact ⟨h1, h2, h3, h4, h6, h7, h2, h5, h8, h9, h10, h11⟩
def errs : List String := ["NoLand", "NoYear", "NoDay", "NoPlace", "NoWeek", "NoName", "NoSeen", "NoNumber", "NothingLeft"]
/-- which classes an error of the class at D is of -/
def kinB (K : PySem.W.Frag) (D CY : Addr) (dn : String) (Cs : List Addr) : Bool :=
  PySem.W.kitOne K (.ref D) (.type "ValueError") == some true && (PySem.W.exmOne K (.ref D) (.ref CY) == some true && (errs.zip Cs).all fun p => PySem.W.kitOne K (.ref D) (.ref p.2) == some (p.1 == dn))

/-- the errors' classes as they stand in the module -/
structure Ers (K : PySem.W.Frag) (mg : Str → Option Value) (cY c0 c1 c2 c3 c4 c5 c6 c7 c8 : Addr) : Prop where
  mY : mg "YearError" = some (.ref cY)
  m0 : mg "NoLand" = some (.ref c0)
  m1 : mg "NoYear" = some (.ref c1)
  m2 : mg "NoDay" = some (.ref c2)
  m3 : mg "NoPlace" = some (.ref c3)
  m4 : mg "NoWeek" = some (.ref c4)
  m5 : mg "NoName" = some (.ref c5)
  m6 : mg "NoSeen" = some (.ref c6)
  m7 : mg "NoNumber" = some (.ref c7)
  m8 : mg "NothingLeft" = some (.ref c8)
  ec : ∀ C ∈ [c0, c1, c2, c3, c4, c5, c6, c7, c8], ecB K C = true
  kin : ∀ p ∈ errs.zip [c0, c1, c2, c3, c4, c5, c6, c7, c8], kinB K p.2 cY p.1 [c0, c1, c2, c3, c4, c5, c6, c7, c8] = true
theorem kin_of {K : PySem.W.Frag} {D CY : Addr} {dn : String} {Cs : List Addr} (h : kinB K D CY dn Cs = true) : PySem.W.kitOne K (.ref D) (.type "ValueError") = some true ∧ PySem.W.exmOne K (.ref D) (.ref CY) = some true ∧ ∀ p ∈ errs.zip Cs, PySem.W.kitOne K (.ref D) (.ref p.2) = some (p.1 == dn) := by
  unfold kinB at h
  rw [Bool.and_eq_true, Bool.and_eq_true, List.all_eq_true, beq_iff_eq, beq_iff_eq] at h
  exact ⟨h.1, h.2.1, fun p hp => beq_iff_eq.mp (h.2.2 p hp)⟩
/-- a def called while an exception is handled: p is that one -/
theorem run_hot {P : Program} {w : World} {K : PySem.W.Frag} {mg : Str → Option Value} {base : Heap} {x qual : Str} {st : Stmt} {f : Addr} {fd : FuncData} {N ps : List Str} {k : Nat} (F : Fun K x qual st f fd) (S : FnScope N ps (defScope st))
    {A : Around} {outer : List Env} {s : Shared} {H : Hp} {args : Args} {us : List Value} {vs : List V} {Q : VK} {p : Addr × Obj} (hr : L2H.RoomH (k + 1) A) (hp : L2H.PinOk outer H s p) (e0 : Env0 P w K mg base A outer s H)
    (hb : BindsTo s fd args (ps.zip us)) (r : Vals vs us) (hl : vs.length = ps.length)
    (hbody : ∀ cdv, L2H.RoomH k (A.deeper (envOfC qual (defScope st) s.heap.objs.size f cdv)) → ∃ t, PSs (L2H.cxH CX0 P w K mg base N qual (defScope st) f cdv A outer s H E0 p) (defBody st) t ∧ t { nx := fun _ H' => Q .non H', rt := Q } (start N vs) H) :
    codeAny (model P w) A (.call (.ref f) args) (CR CX0 outer P w H s Q E0) s := by
  obtain ⟨oc, od, kV, doc, pm, an, cdv, ct, osl, rfl, lk, hcd⟩ := F.ex
  have kin : K.In s.heap := e0.mod.kin.keeps fun b o e => (e0.bs b o e).1
  refine codeAny_call_function hr.depth (kin _ _ lk) rfl S.co S.gen rfl (PySem.W.codeRec_of kin hcd) (hb _ _ _ _ (wpAny_newFunctionEnv_cells S.kind (fun y hy => (S.par y.1 (List.of_mem_zip (show (y.1, y.2) ∈ ps.zip us from hy)).1).imp id fun q => ⟨q, PySem.W.cellsFrom_some _ _ _ (.inl q)⟩) fun env he s1 hx => ?_))
  subst he
  obtain ⟨t, ht, q⟩ := hbody cdv (hr.deeper _)
  refine ⟨(e0.mod.nolimit.keeps fun b o e => (e0.bs b o e).1).keeps hx.toInCall.keep, codeAny_func (wpAny_mono (ht.run [] s1 _ H _ (L2H.inv_startH (CX := CX0) (E := E0) S hp e0 hl r hx) q) (fun fl s' z => ?_) fun e s' z => z)⟩
  cases fl with
  | ret u =>
    obtain ⟨v, σ', H', J, rv, q'⟩ := z
    exact ⟨v, H', J.os, J.bare, J.base, J.hok, rv, q'⟩
  | next =>
    obtain ⟨σ', H', J, q'⟩ := z
    exact ⟨.non, H', J.os, J.bare, J.base, J.hok, rfl, q'⟩
  | brk => exact z.elim fun _ z => z.elim fun _ z => z.2.elim
  | cont => exact z.elim fun _ z => z.elim fun _ z => z.2.elim
/-- isinstance(e, c), e the pinned exception -/
theorem call_isP {X : Cx} {a D : Addr} {oe : Obj} (C : ExcC X.K D) (hz : L2N.Zn (.ref D) none oe) (hf : ∃ vs, oe.data = .fields vs) (hp : (a, oe) ∈ X.pn) : CallR X (.builtin "isinstance") (rIsE X.K D a) := by
  intro pins s σ H xs us Q I r h
  obtain ⟨c, cv, b, rfl, hcv, e, q⟩ := h
  obtain ⟨u1, u2, rfl, r1, r2⟩ := vals2 r
  obtain rfl : u1 = Value.ref a := r1
  obtain rfl := hcv _ r2
  obtain ⟨vs, hv⟩ := hf
  have J : PySem.W.InstAt s.heap a oe D none := by
    have g := (I.pin (a, oe) (List.mem_append_left _ hp)).1
    obtain ⟨h1, h2, _⟩ := hz
    obtain ⟨oc, od, oda, osl⟩ := oe
    cases h1
    cases h2
    cases hv
    exact ⟨g, rfl, rfl, trivial⟩
  refine PySem.W.kia_one (PySem.W.handS_kitx_exc C.hg C.hk C.hs C.hd C.ha C.hn C.ht C.hm) I.kIn J e (fun z => by cases z) fun tk => ?_
  exact ⟨.bl b, H, I.kept (t' := tk) (fun _ _ z => z), rfl, q⟩
/-- the names that are met -/
def sel : List Str → List Bool → List Str
  | x :: xs, b :: bs => if b = true then x :: sel xs bs else sel xs bs
  | _, _ => []
theorem sel_snoc : ∀ {xs : List Str} {bs : List Bool} {x : Str} {b : Bool}, xs.length = bs.length → sel (xs ++ [x]) (bs ++ [b]) = sel xs bs ++ if b = true then [x] else []
  | [], [], x, b, _ => by cases b <;> rfl
  | [], _ :: _, _, _, h => by simp at h
  | _ :: _, [], _, _, h => by simp at h
  | y :: xs, c :: bs, x, b, h => by
    have ih := sel_snoc (x := x) (b := b) (show xs.length = bs.length by simpa using h)
    cases c
    · show sel (xs ++ [x]) (bs ++ [b]) = sel xs bs ++ _
      exact ih
    · show y :: sel (xs ++ [x]) (bs ++ [b]) = (y :: sel xs bs) ++ _
      rw [ih]; rfl
theorem sel_len : ∀ (xs : List Str) (bs : List Bool), (sel xs bs).length ≤ xs.length
  | [], _ => by simp [sel]
  | _ :: _, [] => by simp [sel]
  | x :: xs, b :: bs => by
    have := sel_len xs bs
    cases b
    · show (sel xs bs).length ≤ _
      simp; omega
    · show (x :: sel xs bs).length ≤ _
      simp; omega
/-- [name for name, good in zip(names, met) if good], while an exception is handled -/
theorem lc_sel {K : PySem.W.Frag} {a b : Addr} {xs : List Str} {bs : List Bool} {i1 i2 : Nat} {tt : TT} {te : TE} {vs : List Nat} {σ : L2.St} {H : Hp} {D : Addr} {Qd : Hp → Prop} (h1 : SqL K H a (xs.map V.str)) (h2 : SqL K H b (bs.map V.bl)) (hD : H D = none) (nt : NoT H) (hl : xs.length = bs.length) (hx : xs.length < 100000)
    (hw : ∀ x y, wipe (((wipe σ vs).set i1 (some x)).set i2 (some y)) vs = wipe σ vs)
    (ht : ∀ x c H' (Q : Bool → Hp → Prop), Q c H' → tt (((wipe σ vs).set i1 (some (.str x))).set i2 (some (.bl c))) H' Q)
    (he : ∀ x c H' (Q : VK), Q (.str x) H' → te (((wipe σ vs).set i1 (some (.str x))).set i2 (some (.bl c))) H' Q)
    (hd : ∀ H', Same H H' → NoT H' → H' D = some (.lst ((sel xs bs).map V.str)) → Qd H') :
    ∃ W : Nat → Nat → Hp → Prop, (∃ m, W 0 m (upd H D (.lst []))) ∧ ∀ i m H, W i m H →
      ((ItzH K a b).stop i H ∧ Qd H) ∨ ((ItzH K a b).go i H ∧ ∃ Nx : Hp → Prop, (∀ H', Nx H' → ∃ m', m' < m ∧ W (i + 1) m' H') ∧ ∀ x H', (ItzH K a b).yld i H x H' → gTup K 2 (gCons (gName i1) (gCons (gName i2) gNil)) x (wipe σ vs) H' fun σ2 H2 => wipe σ2 vs = wipe σ vs ∧ tt σ2 H2 fun b H3 =>
        if b = true then te σ2 H3 fun y H4 => ∃ acc, H4 D = some (.lst acc) ∧ acc.length < sizeLine ∧ Nx (upd H4 D (.lst (acc ++ [y]))) else Nx H3) := by
  refine ⟨fun i m H' => m = xs.length - i ∧ i ≤ xs.length ∧ Same H H' ∧ NoT H' ∧ H' D = some (.lst ((sel (xs.take i) (bs.take i)).map V.str)), ⟨xs.length, by simp, Nat.zero_le _, same_new hD, nt.lst, upd_same⟩, ?_⟩
  rintro i m H' ⟨rfl, hi, s1, n1, d1⟩
  have q1 := Same.l s1 h1
  have q2 := Same.l s1 h2
  by_cases lt : i < xs.length
  · have ex : (xs.map V.str)[i]? = some (.str xs[i]) := by rw [List.getElem?_map, List.getElem?_eq_getElem lt]; rfl
    have eb : (bs.map V.bl)[i]? = some (.bl (bs[i]'(by omega))) := by rw [List.getElem?_map, List.getElem?_eq_getElem (by omega)]; rfl
    refine .inr ⟨⟨_, _, _, _, q1, q2, ex, eb⟩, fun H' => Same H H' ∧ NoT H' ∧ H' D = some (.lst ((sel (xs.take (i + 1)) (bs.take (i + 1))).map V.str)), fun H2 p => ⟨xs.length - (i + 1), by omega, rfl, lt, p⟩, fun x H2 y => ?_⟩
    obtain ⟨T, u, v, rfl, nT, rfl, f1, f2⟩ := y
    have eu := f1 _ q1
    have ev := f2 _ q2
    rw [ex] at eu
    rw [eb] at ev
    cases eu
    cases ev
    have stp : sel (xs.take (i + 1)) (bs.take (i + 1)) = sel (xs.take i) (bs.take i) ++ if (bs[i]'(by omega)) = true then [xs[i]] else [] := by
      rw [List.take_succ, List.take_succ, List.getElem?_eq_getElem lt, List.getElem?_eq_getElem (show i < bs.length by omega)]
      exact sel_snoc (by rw [List.length_take, List.length_take]; omega)
    have s2 := s1.trans (same_new (o := .tup [.str xs[i], .bl (bs[i]'(by omega))]) nT)
    have d2 := same_new (o := .tup [.str xs[i], .bl (bs[i]'(by omega))]) nT _ _ d1
    refine ⟨T, _, rfl, SqT.of upd_same, rfl, _, _, rfl, _, _, rfl, rfl, hw _ _, ht _ _ _ _ ?_⟩
    rw [stp]
    generalize bs[i]'(by omega) = c at s2 d2 ⊢
    have sl := sel_len (xs.take i) (bs.take i)
    rw [List.length_take] at sl
    cases c with
    | true =>
      refine iteT (he _ _ _ _ ⟨_, d2, by rw [List.length_map]; exact sz_small (by omega), fun b o e => ?_, n1.tup.lst, ?_⟩)
      · by_cases cb : b = D
        · subst cb; rw [hD] at e; cases e
        · rw [upd_ne cb]; exact s2 b o e
      · rw [upd_same, if_pos rfl, List.map_append]; rfl
    | false =>
      refine iteF ⟨s2, n1.tup, ?_⟩
      rw [d2, if_neg (by decide), List.append_nil]
  · have e : i = xs.length := by omega
    subst e
    refine .inl ⟨⟨_, q1, by rw [List.length_map]; exact Nat.le_refl _⟩, hd H' s1 n1 ?_⟩
    rw [d1, List.take_length, hl, List.take_length]
end Ly
set_option Elab.async false
set_option linter.all false
set_option maxRecDepth 100000
set_option maxHeartbeats 4000000
/-! closures: made, lent, called -/
namespace Ly
open PySem PySem.Spec PyProof.Rows L2 LamX
/-- an object that stays as it is -/
def fz (o : Obj) : HO := .frz o (.own 0)
theorem pl_fz (o : Obj) : Pl (fz o) = true := rfl
theorem fz_ok {P : Program} {w : World} {H : Hp} {h : Heap} {a : Addr} {o : Obj} (e : h.get? a = some o) : ObjOk P w H h a (fz o) := ⟨e, o, e⟩
theorem fz_get {P : Program} {w : World} {H : Hp} {h : Heap} {a : Addr} {o : Obj} (k : HOk P w H h) (e : H a = some (fz o)) : h.get? a = some o := (k a _ e).1

/-! ### part of the heap put away, and taken again -/
/-- what stands in H of the addresses in D, else H' -/
noncomputable def ovr (D : Addr → Prop) (H H' : Hp) : Hp := fun b => open Classical in if D b then H b else H' b
theorem ovr_in {D : Addr → Prop} {H H' : Hp} {b : Addr} (h : D b) : ovr D H H' b = H b := by unfold ovr; exact if_pos h
theorem ovr_out {D : Addr → Prop} {H H' : Hp} {b : Addr} (h : ¬ D b) : ovr D H H' b = H' b := by unfold ovr; exact if_neg h
/-- what is tracked stays so in a heap that says the same of what it leans on -/
theorem hok_of {P : Program} {w : World} {H H' : Hp} {h h' : Heap} {a : Addr} {o : HO} (k : ObjOk P w H h a o) (hh : ∀ d v, (d = a ∨ H d = some (.own a)) → h.get? d = some v → h'.get? d = some v) (ho : ∀ d, H d = some (.own a) → H' d = some (.own a)) (ht : ∀ d xs, H d = some (.tup xs) → H' d = some (.tup xs)) : ObjOk P w H' h' a o :=
  k.stay hh ho ht
section
variable {P : Program} {w : World} {D : Addr → Prop} {H Hd H' : Hp} {h h' : Heap} {fs : List Addr}
/-- Hd is H without D; what is in D is kept frozen -/
structure Put (D : Addr → Prop) (H Hd : Hp) : Prop where
  out : ∀ b, ¬ D b → Hd b = H b
  off : ∀ b, D b → Hd b = none
  frz : ∀ b, D b → ∃ o, H b = some (fz o)
theorem Put.mk' (f : ∀ b, D b → ∃ o, H b = some (fz o)) : Put D H (ovr D (fun _ => none) H) := ⟨fun b n => ovr_out n, fun b d => ovr_in d, f⟩
theorem Put.sub (p : Put D H Hd) {b : Addr} {o : HO} (e : Hd b = some o) : H b = some o ∧ ¬ D b := by
  by_cases d : D b
  · rw [p.off b d] at e; cases e
  · exact ⟨(p.out b d).symm.trans e, d⟩
theorem Put.hok (p : Put D H Hd) (k : HOk P w H h) : HOk P w Hd h := fun a o e => by
  obtain ⟨e', n⟩ := p.sub e
  have own : ∀ d, H d = some (.own a) → Hd d = some (.own a) := fun d q => by
    rw [p.out d fun z => by obtain ⟨ob, q'⟩ := p.frz d z; rw [q] at q'; cases q']
    exact q
  have tup : ∀ d xs, H d = some (.tup xs) → Hd d = some (.tup xs) := fun d xs q => by
    rw [p.out d fun z => by obtain ⟨ob, q'⟩ := p.frz d z; rw [q] at q'; cases q']
    exact q
  exact (k a o e').stay (fun _ _ _ q => q) own tup
/-- behind a run from Hd: D is taken again -/
theorem Put.back (p : Put D H Hd) (k : HOk P w H h) (u : Un fs [] Hd H' h h') (k' : HOk P w H' h') (nf : ∀ b, D b → b ∉ fs) : Un fs [] H (ovr D H H') h h' ∧ HOk P w (ovr D H H') h' := by
  have at_ : ∀ b, D b → ∃ o, H b = some (fz o) ∧ h.get? b = some o ∧ h'.get? b = some o ∧ H' b = none := fun b d => by
    obtain ⟨o, e⟩ := p.frz b d
    have g := fz_get k e
    exact ⟨o, e, g, u.keep b o g (p.off b d) (nf b d) (by simp), u.free b o g (p.off b d) (by simp)⟩
  constructor
  · refine ⟨fun b o e n hb _ => ?_, fun b o e n hb _ => ?_, fun b o e n _ => ?_, fun b o e _ => u.there b o e (by simp), fun b xs e => ?_, fun b o v e => ?_, fun b ps e => ?_⟩
    · have nd : ¬ D b := fun d => by obtain ⟨o', e', _⟩ := at_ b d; rw [n] at e'; cases e'
      exact u.keep b o e ((p.out b nd).trans n) hb (by simp)
    · have nd : ¬ D b := fun d => nf b d hb
      exact u.slot b o e ((p.out b nd).trans n) hb (by simp)
    · have nd : ¬ D b := fun d => by obtain ⟨o', e', _⟩ := at_ b d; rw [n] at e'; cases e'
      rw [ovr_out nd]
      exact u.free b o e ((p.out b nd).trans n) (by simp)
    · have nd : ¬ D b := fun d => by obtain ⟨o', e', _⟩ := at_ b d; rw [e] at e'; cases e'
      rw [ovr_out nd]
      exact u.tups b xs ((p.out b nd).trans e)
    · by_cases d : D b
      · rw [ovr_in d]; exact e
      · rw [ovr_out d]
        exact u.frzs b o v ((p.out b d).trans e)
    · have nd : ¬ D b := fun d => by obtain ⟨o', e', _⟩ := at_ b d; rw [e] at e'; cases e'
      rw [ovr_out nd]
      exact u.tbls b ps ((p.out b nd).trans e)
  · intro a o e
    by_cases d : D a
    · rw [ovr_in d] at e
      obtain ⟨o', e', _, g, _⟩ := at_ a d
      rw [e] at e'
      cases e'
      exact fz_ok g
    · rw [ovr_out d] at e
      have nd : ∀ b u, H' b = some u → ¬ D b := fun b u q z => by obtain ⟨o', _, _, _, q'⟩ := at_ b z; rw [q] at q'; cases q'
      exact (k' a o e).stay (fun _ _ _ q => q) (fun b q => by rw [ovr_out (nd b _ q)]; exact q) fun b xs q => by rw [ovr_out (nd b _ q)]; exact q
/-- .. that raised -/
theorem Put.backX (p : Put D H Hd) {B : Heap} (k : HOk P w H h) (u : UB fs Hd H' h B h') (k' : HOk P w H' B) (nf : ∀ b, D b → b ∉ fs) : UB fs H (ovr D H H') h B h' ∧ HOk P w (ovr D H H') B ∧ ∀ b, D b → ∃ o, B.get? b = some o := by
  have at_ : ∀ b, D b → ∃ o, H b = some (fz o) ∧ h.get? b = some o ∧ B.get? b = some o ∧ H' b = none := fun b d => by
    obtain ⟨o, e⟩ := p.frz b d
    have g := fz_get k e
    exact ⟨o, e, g, u.keep b o g (p.off b d) (nf b d), u.free b o g (p.off b d)⟩
  refine ⟨⟨fun b o e n hb => ?_, fun b o e hb => u.slot b o e hb, fun b o e n => ?_, fun b o e hb => u.there b o e hb, fun b xs e => ?_, fun b o v e => ?_, fun b ps e => ?_⟩, fun a o e => ?_, fun b d => ?_⟩
  · have nd : ¬ D b := fun d => by obtain ⟨o', e', _⟩ := at_ b d; rw [n] at e'; cases e'
    exact u.keep b o e ((p.out b nd).trans n) hb
  · have nd : ¬ D b := fun d => by obtain ⟨o', e', _⟩ := at_ b d; rw [n] at e'; cases e'
    rw [ovr_out nd]
    exact u.free b o e ((p.out b nd).trans n)
  · have nd : ¬ D b := fun d => by obtain ⟨o', e', _⟩ := at_ b d; rw [e] at e'; cases e'
    rw [ovr_out nd]
    exact u.tups b xs ((p.out b nd).trans e)
  · by_cases d : D b
    · rw [ovr_in d]; exact e
    · rw [ovr_out d]
      exact u.frzs b o v ((p.out b d).trans e)
  · have nd : ¬ D b := fun d => by obtain ⟨o', e', _⟩ := at_ b d; rw [e] at e'; cases e'
    rw [ovr_out nd]
    exact u.tbls b ps ((p.out b nd).trans e)
  · by_cases d : D a
    · rw [ovr_in d] at e
      obtain ⟨o', e', _, g, _⟩ := at_ a d
      rw [e] at e'
      cases e'
      exact fz_ok g
    · rw [ovr_out d] at e
      have nd : ∀ b u, H' b = some u → ¬ D b := fun b u q z => by obtain ⟨o', _, _, _, q'⟩ := at_ b z; rw [q] at q'; cases q'
      exact (k' a o e).stay (fun _ _ _ q => q) (fun b q => by rw [ovr_out (nd b _ q)]; exact q) fun b xs q => by rw [ovr_out (nd b _ q)]; exact q
  · obtain ⟨o, _, _, g, _⟩ := at_ b d
    exact ⟨o, g⟩
/-- behind a run from H, where Hd was meant: D is put away again -/
theorem Put.drop (p : Put D H Hd) (k : HOk P w H h) (u : Un fs [] H H' h h') (k' : HOk P w H' h') (nf : ∀ b, D b → b ∉ fs) : Un fs [] Hd (ovr D (fun _ => none) H') h h' ∧ HOk P w (ovr D (fun _ => none) H') h' := by
  have at_ : ∀ b, D b → ∃ o, H b = some (fz o) ∧ h.get? b = some o ∧ h'.get? b = some o ∧ H' b = some (fz o) := fun b d => by
    obtain ⟨o, e⟩ := p.frz b d
    have e' := u.frzs b o _ e
    exact ⟨o, e, fz_get k e, fz_get k' e', e'⟩
  constructor
  · refine ⟨fun b o e n hb _ => ?_, fun b o e n hb _ => ?_, fun b o e n _ => ?_, fun b o e _ => u.there b o e (by simp), fun b xs e => ?_, fun b o v e => ?_, fun b ps e => ?_⟩
    · by_cases d : D b
      · obtain ⟨o', _, g, g', _⟩ := at_ b d
        rw [e] at g
        cases g
        exact g'
      · exact u.keep b o e ((p.out b d).symm.trans n) hb (by simp)
    · exact u.slot b o e ((p.out b fun d => nf b d hb).symm.trans n) hb (by simp)
    · by_cases d : D b
      · exact ovr_in d
      · rw [ovr_out d]
        exact u.free b o e ((p.out b d).symm.trans n) (by simp)
    · obtain ⟨e', d⟩ := p.sub e
      rw [ovr_out d]
      exact u.tups b xs e'
    · obtain ⟨e', d⟩ := p.sub e
      rw [ovr_out d]
      exact u.frzs b o v e'
    · obtain ⟨e', d⟩ := p.sub e
      rw [ovr_out d]
      exact u.tbls b ps e'
  · intro a o e
    by_cases d : D a
    · rw [ovr_in d] at e; cases e
    · rw [ovr_out d] at e
      have nd : ∀ b u, H' b = some u → (∀ ob, u ≠ fz ob) → ¬ D b := fun b v q n z => by obtain ⟨o', _, _, _, q'⟩ := at_ b z; rw [q] at q'; exact n _ (Option.some.inj q')
      exact (k' a o e).stay (fun _ _ _ q => q) (fun b q => by rw [ovr_out (nd b _ q fun ob z => by cases z)]; exact q) fun b xs q => by rw [ovr_out (nd b _ q fun ob z => by cases z)]; exact q
end
/-! ### a lambda is made -/
abbrev lamO (q : Str) (params : Arguments) (body : Expr) (scope : Scope) (cl : List (Str × Addr)) (pm : Value) (c' : Addr) (ctv : Value) : Obj := PySem.W.kla_obj "<lambda>" q params body scope cl pm c' ctv
section
variable {X : Cx} {pins : List (Addr × Obj)} {σ : L2.St} {H : Hp} {s : Shared}
theorem lam_new {T : List (Addr × Str)} {c P : Addr} {params : Arguments} {body : Expr} {scope : Scope} {pos : Pos} {E : Value → Shared → Prop} {Q : Value → Shared → Prop} (I : Inv X pins σ H s) (TB : TabB X.base X.mg c P) (hcode : X.env.code = .ref c)
    (hm : (P, X.env.qual ++ "<lambda>") ∈ T) (hu : ∀ p ∈ T, p.1 = P → p.2 = X.env.qual ++ "<lambda>") (hT : Tabs T H) (hdef : defaultsOf params X.env = ([], [])) (hfree : ∀ y ∈ scope.names, y.2 = .free → ∃ c, X.env.cells.lookup y.1 = some c)
    (fin : ∀ (f c' : Addr) (pm ctv : Value) (H1 : Hp) (s' : Shared), ExtN H H1 → Tabs T H1 → H1 f = none → H1 c' = some (CodeO c' (X.env.qual ++ "<lambda>")) → (NoT H → NoT H1) →
      Inv X pins σ (upd H1 f (fz (lamO (X.env.qual ++ "<lambda>") params body scope (cloFrom X.env.cells scope.names []) pm c' ctv))) s' → Q (.ref f) s') :
    wpAny (model X.prog X.w) X.A (eval (.Lambda params body scope pos) X.env) Q E s := by
  obtain ⟨ps, hP, ht, ha⟩ := hT _ hm
  have bP : s.heap.BuiltinsAt X.mg P := TB.bm.keeps I.bk
  have gP : s.heap.get? P = some { cls := .none, data := .fields ps } := I.hok P _ hP
  refine PySem.W.kla_eval hdef ?_
  cases hc : codeAmong pos ps.toList with
  | some cv =>
    obtain ⟨c', rfl, co⟩ := ha pos cv hc
    refine PySem.W.kla_makeFunctionHit (c := c) (P := P) (closure_ok hfree) I.ok.glob (I.mod.glob.keeps I.bk) hcode (TB.code.keeps I.bk) gP ht hc bP fun ctv h' tk hx hz => ?_
    have J : Inv X pins σ H { s with heap := h', toks := tk } := I.kept hx
    exact fin h'.objs.size c' _ ctv H _ (ExtN.refl H) hT (I.hok.fresh hz) co (fun n => n) (J.laid (t' := tk) (fun b o e => Heap.get?_push_of_some _ e) (Nat.le_refl _) (fz_ok (Heap.get?_push_size _ rfl)))
  | none =>
    refine PySem.W.kla_makeFunction (c := c) (P := P) (closure_ok hfree) I.ok.glob (I.mod.glob.keeps I.bk) hcode (TB.code.keeps I.bk) gP ht hc TB.gP bP fun c' ctv h' tk hx hge hlt hrec htb => ?_
    obtain ⟨c2, oc, vs, t, e2, hoc, hd, hv⟩ := hrec
    cases e2
    have nC : H c' = none := I.hok.fresh hge
    have J := inv_table (t' := tk) (more := #[rawInt pos.line, rawInt pos.col, .ref c']) (h' := h') I hP (fun b o hb e => hx b o hb e) htb hge ⟨oc, vs, t, hoc, hd, hv⟩
    have hE : ExtN H (upd (upd H P (.tbl (ps ++ #[rawInt pos.line, rawInt pos.col, .ref c']))) c' (CodeO c' (X.env.qual ++ "<lambda>"))) := fun b o e n => by
      have nb : b ≠ P := fun z => n ps (Option.some.inj (e.symm.trans (z ▸ hP)))
      rw [upd_ne (ne_of_none e nC), upd_ne nb]
      exact e
    have eL : (ps ++ #[rawInt pos.line, rawInt pos.col, .ref c']).toList = ps.toList ++ [rawInt pos.line, rawInt pos.col, .ref c'] := by simp
    refine fin h'.objs.size c' _ ctv _ _ hE (fun p hp => ?_) ?_ upd_same (fun n => (n.upd (show Pl (.tbl _) = true from rfl)).upd rfl) (J.laid (t' := tk) (fun b o e => Heap.get?_push_of_some _ e) (Nat.le_refl _) (fz_ok (Heap.get?_push_size _ rfl)))
    · by_cases hb : p.1 = P
      · rw [hu p hp hb, hb]
        refine ⟨_, by rw [upd_ne (ne_of_none hP nC), upd_same], by rw [eL]; exact PySem.TriplesOk_snoc _ _ _ _ ht, fun p' cv hcv => ?_⟩
        rw [eL] at hcv
        rcases among_app _ ht hcv with z | z
        · obtain ⟨c0, e1, e2⟩ := ha p' cv z
          exact ⟨c0, e1, hE _ _ e2 codeO_ne⟩
        · exact ⟨c', z, upd_same⟩
      · obtain ⟨ps', a1, a2, a3⟩ := hT p hp
        refine ⟨ps', by rw [upd_ne (ne_of_none a1 nC), upd_ne hb]; exact a1, a2, fun p' cv hcv => ?_⟩
        obtain ⟨c0, e1, e2⟩ := a3 p' cv hcv
        exact ⟨c0, e1, hE _ _ e2 codeO_ne⟩
    · exact J.hok.fresh (Nat.le_refl _)
end
/-- the closure at f: its own object, its cells, the values in them -/
structure CloAt (H : Hp) (N : List Str) (σ : L2.St) (f : Addr) (q : Str) (params : Arguments) (body : Expr) (scope : Scope) (cl : List (Str × Addr)) : Prop where
  fn : ∃ (pm : Value) (c' : Addr) (ctv : Value), H f = some (fz (lamO q params body scope cl pm c' ctv)) ∧ H c' = some (CodeO c' q)
  cells : ∀ y c, cl.lookup y = some c → ∃ o u, H c = some (fz o) ∧ o.data = .cell u
  vals : ∀ (i : Nat) y v, N[i]? = some y → σ[i]? = some (some v) → scope.names.lookup y = some .free → ∃ c o u, cl.lookup y = some c ∧ H c = some (fz o) ∧ o.data = .cell (some u) ∧ RelV v u
  inj : ∀ y z c, cl.lookup y = some c → cl.lookup z = some c → y = z
  has : ∀ y ∈ scope.names, y.2 = .free → ∃ c, cl.lookup y.1 = some c
theorem CloAt.keep {H H' : Hp} {N : List Str} {σ : L2.St} {f : Addr} {q : Str} {params : Arguments} {body : Expr} {scope : Scope} {cl : List (Str × Addr)} (k : CloAt H N σ f q params body scope cl)
    (s : ∀ b o, H b = some o → ((∃ ob, o = fz ob) ∨ ∃ c q, o = CodeO c q) → H' b = some o) : CloAt H' N σ f q params body scope cl := by
  obtain ⟨⟨pm, c', ctv, e1, e2⟩, h2, h3, h4, h5⟩ := k
  refine ⟨⟨pm, c', ctv, s _ _ e1 (.inl ⟨_, rfl⟩), s _ _ e2 (.inr ⟨_, _, rfl⟩)⟩, fun y c e => ?_, fun i y v a b c => ?_, h4, h5⟩
  · obtain ⟨o, u, q1, q2⟩ := h2 y c e
    exact ⟨o, u, s _ _ q1 (.inl ⟨_, rfl⟩), q2⟩
  · obtain ⟨c, o, u, q1, q2, q3⟩ := h3 i y v a b c
    exact ⟨c, o, u, q1, s _ _ q2 (.inl ⟨_, rfl⟩), q3⟩
/-- a lambda's scope: captured names and globals -/
structure LamT (scope : Scope) : Prop where
  kind : scope.kind = .function
  co : scope.isCoroutine = false
  gen : scope.isGenerator = false
  own : ∀ y ∈ scope.names, y.2 ≠ .local ∧ y.2 ≠ .cell
def cellD (cl : List (Str × Addr)) : Addr → Prop := fun b => ∃ y, cl.lookup y = some b
/-- the context of a lambda's body -/
def clCx (P : Program) (w : World) (K : PySem.W.Frag) (mg : Str → Option Value) (base : Heap) (N : List Str) (q : Str) (scope : Scope) (cl : List (Str × Addr)) (f c' : Addr) (A : Around) (outer : List Env) (s : Shared) (H : Hp) (E : XK) : Cx where
  prog := P
  w := w
  K := K
  mg := mg
  base := base
  A := A.deeper (PySem.W.envX q scope s.heap.objs.size f (.ref c') cl)
  N := N
  s_0 := s
  H_0 := H
  env := PySem.W.envX q scope s.heap.objs.size f (.ref c') cl
  outer := outer
  stack := PySem.W.envX q scope s.heap.objs.size f (.ref c') cl :: outer
  ex := []
  fn := fun _ => false
  calm := true
  pn := []
  xe := fun e s' => wpAny (model P w) (A.deeper (PySem.W.envX q scope s.heap.objs.size f (.ref c') cl)) (leaving (PySem.W.envX q scope s.heap.objs.size f (.ref c') cl) e) (fun _ s'' => L2N.CX P w outer H s E e s'') (fun e' s'' => L2N.CX P w outer H s E e' s'') s'
theorem clo_run {P : Program} {w : World} {K : PySem.W.Frag} {mg : Str → Option Value} {base : Heap} {N : List Str} {σ : L2.St} {f : Addr} {q : Str} {params : Arguments} {body : Expr} {scope : Scope} {cl : List (Str × Addr)} {k : Nat} {t : XK → TE} (L : LamT scope) (hlen : σ.length = N.length)
    (hbind : ∀ (pm cv ctv : Value), bindArgs (PySem.W.kla_fn "<lambda>" q params body scope cl pm cv ctv) ⟨[], []⟩ = pure [])
    (hbody : ∀ (c' : Addr) (A : Around) (outer : List Env) (s : Shared) (H : Hp) (E : XK), Room k (A.deeper (PySem.W.envX q scope s.heap.objs.size f (.ref c') cl)) → PE (clCx P w K mg base N q scope cl f c' A outer s H E) body (t E))
    {A : Around} {outer : List Env} {s : Shared} {H : Hp} {Q : VK} {E : XK} (hr : Room (k + 1) A) (e0 : Env0 P w K mg base A outer s H) (C : CloAt H N σ f q params body scope cl)
    (ht : t (fun cls d H' => E cls d (ovr (cellD cl) H H')) σ (ovr (cellD cl) (fun _ => none) H) (fun v H' => Q v (ovr (cellD cl) H H'))) :
    codeAny (model P w) A (.call (.ref f) ⟨[], []⟩) (CR (L2N.CX P w) outer P w H s Q E) s := by
  obtain ⟨⟨pm, c', ctv, hf, hc⟩, hcells, hvals, hinj, hhas⟩ := C
  have gf := fz_get e0.hok hf
  obtain ⟨⟨oc, vs, tq, hoc, hdc, hvc⟩, _, _⟩ := e0.hok c' _ hc
  have pt : Put (cellD cl) H (ovr (cellD cl) (fun _ => none) H) := Put.mk' fun b ⟨y, e⟩ => by
    obtain ⟨o, u, q1, _⟩ := hcells y b e
    exact ⟨o, q1⟩
  have off : ∀ b, H b = none → ovr (cellD cl) (fun _ => none) H b = none := fun b e => by
    by_cases d : cellD cl b
    · exact ovr_in d
    · rw [ovr_out d]; exact e
  have nfr : ∀ b, cellD cl b → b ∉ frs outer := fun b d hb => by
    obtain ⟨o, e⟩ := pt.frz b d
    rw [e0.frf b hb] at e
    cases e
  have lim : s.heap.NoLimit := e0.mod.nolimit.keeps fun b o e => (e0.bs b o e).1
  refine PySem.W.kla_callFunE hr.depth gf rfl L.co L.gen rfl ⟨c', oc, vs, tq, rfl, hoc, hdc, hvc⟩ ?_
  rw [hbind]
  refine wpAny_pure (wpAny_newFunctionEnv (fun y hy => (L.own y hy).2) (fun y hy => absurd hy (by simp)) (fun h₁ hns hsb => ⟨lim.fresh _ hsb, ?_⟩) L.kind)
  show codeAny _ _ (.expr body (PySem.W.envX q scope s.heap.objs.size f (.ref c') cl)) _ _
  have kp : ∀ b o, s.heap.get? b = some o → h₁.get? b = some o := fun b o e => hsb.extBut b o (Nat.ne_of_lt (Heap.lt_size e)) (Heap.get?_push_of_some _ e)
  generalize hHd : ovr (cellD cl) (fun _ => none) H = Hd at pt off ht
  have J : Inv (clCx P w K mg base N q scope cl f c' A outer s Hd (fun cls d H' => E cls d (ovr (cellD cl) H H'))) [] σ Hd { s with heap := h₁, toks := s.toks + ([] : List (Str × Value)).length } := by
    have no : ∀ b : Addr, ¬ b ∈ ([] : List Addr) := fun b z => by cases z
    have noP : ∀ p : Addr × Obj, ¬ p ∈ ([] : List (Addr × Obj)) := fun b z => by cases z
    refine ⟨⟨e0.mod, L.kind, rfl, rfl, Nat.le_refl _, hinj, fun y hy => ?_, fun y c z _ => Bool.noConfusion (show false = true from z), fun _ => hr.hd, Around.frames_deeper e0.frames, .inr ⟨rfl, rfl⟩, fun b z => absurd z (no b), fun b o e => ⟨(e0.bs b o e).1, off b (e0.bs b o e).2⟩, e0.bsz, fun b _ _ => no b, fun b z => absurd z (no b), e0.funs, fun b hb => off b (e0.frf b hb)⟩,
      rfl, e0.bare, Un.kept kp, ⟨_, hns, fun i y v e1 e2 e3 => ?_⟩, fun y c e => ?_, off _ (e0.hok.fresh (Nat.le_refl _)), fun y c e => pt.off c ⟨y, e⟩, fun p hp => absurd hp (noP p), (pt.hok e0.hok).kept kp, hlen⟩
    · have hy : scope.names.lookup y = some .cell ∨ scope.names.lookup y = some .free := hy
      rcases hy with hy | hy
      · exact absurd rfl (L.own _ (PySem.mem_of_lookup hy)).2
      · exact hhas _ (PySem.mem_of_lookup hy) rfl
    · have e3 : Vis scope y := e3
      rcases e3 with z | z | z
      · exact absurd rfl (L.own _ (PySem.mem_of_lookup z)).1
      · exact absurd rfl (L.own _ (PySem.mem_of_lookup z)).2
      · obtain ⟨c, o, u, q1, q2, q3, q4⟩ := hvals i y v e1 e2 z
        exact ⟨u, q4, .inr ⟨.inr z, c, q1, o, kp _ _ (fz_get e0.hok q2), q3⟩⟩
    · obtain ⟨o, u, q1, q2⟩ := hcells y c e
      exact ⟨u, o, kp _ _ (fz_get e0.hok q1), q2⟩
  refine PySem.W.kla_codeExpr (wpAny_mono ((hbody c' A outer s Hd _ (hr.deeper _)).run [] _ _ Hd _ J ht) (fun v s' z => ?_) fun e s' z => ?_)
  · obtain ⟨v', H', J', rv, z⟩ := z
    obtain ⟨b1, b2⟩ := pt.back e0.hok J'.base J'.hok nfr
    exact ⟨v', _, J'.os, J'.bare, b1, b2, rv, z⟩
  · have conv : ∀ e s'', L2N.CX P w outer Hd s (fun cls d H' => E cls d (ovr (cellD cl) H H')) e s'' → L2N.CX P w outer H s E e s'' := fun e s'' x => by
      obtain ⟨a, B, H', cls, d, rfl, fl, hok, ub, na, os, ag, hE⟩ := x
      obtain ⟨b1, b2, b3⟩ := pt.backX e0.hok ub hok nfr
      refine ⟨a, B, _, cls, d, rfl, fl, b2, b1, ?_, os, ag, hE⟩
      rw [ovr_out fun z => by obtain ⟨o, g⟩ := b3 a z; rw [fl.2.1] at g; cases g]
      exact na
    exact wpAny_mono z (fun _ s'' x => conv e s'' x) fun e' s'' x => conv e' s'' x
end Ly
set_option Elab.async false
set_option linter.all false
set_option maxRecDepth 100000
set_option maxHeartbeats 4000000
/-! a def called with the frame's cells lent; a lambda handed to _law_try -/
namespace Ly
open PySem PySem.Spec PyProof.Rows L2 LamX
/-- the frame's cells are lent -/
structure Lent (X : Cx) (σ : L2.St) (H Hc : Hp) : Prop where
  ok : X.Ok
  len : σ.length = X.N.length
  put : Put (cellD X.env.cells) Hc H
  cells : ∀ y c, X.env.cells.lookup y = some c → ∃ o u, Hc c = some (fz o) ∧ o.data = .cell u
  vals : ∀ (i : Nat) y v, X.N[i]? = some y → σ[i]? = some (some v) → X.env.scope.names.lookup y = some .cell ∨ X.env.scope.names.lookup y = some .free → ∃ c o u, X.env.cells.lookup y = some c ∧ Hc c = some (fz o) ∧ o.data = .cell (some u) ∧ RelV v u
section
variable {X : Cx} {pins : List (Addr × Obj)} {σ : L2.St} {H : Hp} {s : Shared}
theorem lend (I : Inv X pins σ H s) : ∃ Hc, Lent X σ H Hc ∧ HOk X.prog X.w Hc s.heap := by
  have at_ : ∀ b, cellD X.env.cells b → ∃ o u, s.heap.get? b = some o ∧ o.data = .cell u ∧ H b = none := fun b ⟨y, e⟩ => by
    obtain ⟨u, o, g, d⟩ := I.cell y b e
    exact ⟨o, u, g, d, I.freeC y b e⟩
  have hc : ∀ b o, s.heap.get? b = some o → cellD X.env.cells b → ovr (cellD X.env.cells) (fun b => (s.heap.get? b).map fz) H b = some (fz o) := fun b o g d => by
    rw [ovr_in d, g]; rfl
  refine ⟨ovr (cellD X.env.cells) (fun b => (s.heap.get? b).map fz) H, ⟨I.ok, I.len, ⟨fun b n => (ovr_out n).symm, fun b d => ?_, fun b d => ?_⟩, fun y c e => ?_, fun i y v e1 e2 e3 => ?_⟩, fun a o e => ?_⟩
  · obtain ⟨_, _, _, _, n⟩ := at_ b d
    exact n
  · obtain ⟨o, u, g, _⟩ := at_ b d
    exact ⟨o, hc b o g d⟩
  · obtain ⟨o, u, g, q, _⟩ := at_ c ⟨y, e⟩
    exact ⟨o, u, hc c o g ⟨y, e⟩, q⟩
  · obtain ⟨m, hn, hl⟩ := I.loc
    obtain ⟨u, r, q⟩ := hl i y v e1 e2 (.inr e3)
    rcases q with ⟨k, _⟩ | ⟨_, c, e, o, g, d⟩
    · have k : X.env.scope.names.lookup y = some .local := k
      rcases e3 with e3 | e3 <;> rw [k] at e3 <;> cases e3
    · exact ⟨c, o, u, e, hc c o g ⟨y, e⟩, d, r⟩
  · by_cases d : cellD X.env.cells a
    · obtain ⟨o', u, g, _⟩ := at_ a d
      rw [hc a o' g d] at e
      cases e
      exact fz_ok g
    · rw [ovr_out d] at e
      have nd : ∀ b u, H b = some u → ¬ cellD X.env.cells b := fun b u q z => by obtain ⟨_, _, _, _, n⟩ := at_ b z; rw [n] at q; cases q
      exact (I.hok a o e).stay (fun _ _ _ q => q) (fun b q => by rw [ovr_out (nd b _ q)]; exact q) fun b xs q => by rw [ovr_out (nd b _ q)]; exact q
theorem cell_nofr (I : Inv X pins σ H s) (hca : ∀ y c, X.env.cells.lookup y = some c → X.s_0.heap.objs.size ≤ c) : ∀ b, cellD X.env.cells b → b ∉ frs X.stack := fun b ⟨y, e⟩ hb => by
  rcases List.mem_cons.mp (I.stkSub b hb) with z | z
  · exact I.cne y b e z
  · obtain ⟨_, o, g, _⟩ := I.ok.funs.mem z
    exact Nat.lt_irrefl _ (Nat.lt_of_lt_of_le (Heap.lt_size g) (hca y b e))
theorem lent_env {Hc : Hp} (I : Inv X pins σ H s) (hca : ∀ y c, X.env.cells.lookup y = some c → X.s_0.heap.objs.size ≤ c) (L : Lent X σ H Hc) (k : HOk X.prog X.w Hc s.heap) : Env0 X.prog X.w X.K X.mg X.base X.A X.stack s Hc := by
  obtain ⟨a1, a2, a3, a4, a5, a6, a7, a8⟩ := I.env0
  refine ⟨a1, a2, fun b o e => ⟨(a3 b o e).1, ?_⟩, a4, a5, fun b hb => ?_, k, a8⟩
  · rw [← L.put.out b fun ⟨y, c⟩ => Nat.lt_irrefl _ (Nat.lt_of_lt_of_le (Nat.lt_of_lt_of_le (Heap.lt_size e) I.ok.bsz) (hca y b c))]
    exact (a3 b o e).2
  · rw [← L.put.out b fun d => cell_nofr I hca b d hb]
    exact a6 b hb
end
def tLend (X : Cx) (sp : Sp) (t : TA) : TE := fun σ H Q => t σ H fun vs H1 => ∀ Hc, Lent X σ H1 Hc → sp vs Hc (fun v H' => Q v (ovr (cellD X.env.cells) (fun _ => none) H')) E0
section
variable {X : Cx} {k j : Nat} {ps : List Str} {sp : Sp} {x : Str} {p pos : Pos} {e : Expr} {es : List Expr} {t : TA}
theorem pe_callLend (D : Df X.prog X.w X.K X.mg X.base CX0 x k ps sp) (hr : Room j X.A) (hj : k ≤ j) (hg : Gl X x) (hca : ∀ y c, X.env.cells.lookup y = some c → X.s_0.heap.objs.size ≤ c) (ha : PA X (e :: es) t)
    (hdb : (x == ("__debug__" : Str)) = false := by decide) (he : starEach (e :: es) X.env = (false, eval e X.env) :: starEach es X.env := by rfl) (hpl : (backTo pos (starEach es X.env)).any (·.1) = false := by rfl) :
    PE X (.Call (.Name x p) (e :: es) [] pos) (tLend X sp t) := by
  obtain ⟨f, fd, F, hm, hk, hb⟩ := D
  refine ⟨fun pins s σ H Q I h => wpAny_Call_Name_kw (ld_glob I hg hm (PySem.W.callWith_K (h₀ := X.base) I.ok.mod.kin hk (thn (ha.run pos pins s σ H _ I h) fun us s1 hh => ?_) he hpl) hdb)⟩
  obtain ⟨vs, H1, I1, r, q⟩ := hh
  obtain ⟨Hc, L, hok⟩ := lend I1
  have q' := q Hc L
  have hl : us.length = ps.length := by rw [← r.length]; exact F.len _ _ _ _ q'
  have b := hb s1 us I1.kIn (by rw [List.append_nil]; exact hl)
  rw [List.append_nil] at b
  refine ⟨I1.kIn, wpAny_call (codeAny_mono (F.run X.A X.stack s1 Hc ⟨us, []⟩ us vs _ _ (hr.mono hj) (lent_env I1 hca L hok) b r q') fun r s' z => ?_)⟩
  cases r with
  | error e => exact (show False from z).elim
  | ok fl =>
    cases fl with
    | ret u =>
      obtain ⟨v, H', os, bare, un, hok', rv, q2⟩ := z
      obtain ⟨d1, d2⟩ := L.put.drop hok un hok' (cell_nofr I1 hca)
      exact I1.after ⟨v, _, os, bare, d1, d2, rv, q2⟩
    | next => exact False.elim z
    | brk => exact False.elim z
    | cont => exact False.elim z
end
/-- a lambda as a value -/
def tLamE (X : Cx) (T : List (Addr × Str)) (params : Arguments) (body : Expr) (scope : Scope) : TE := fun _ H Q => Tabs T H ∧ ∀ (f c' : Addr) (pm ctv : Value) (H1 : Hp), ExtN H H1 → Tabs T H1 → (NoT H → NoT H1) → H1 f = none → H1 c' = some (CodeO c' (X.env.qual ++ "<lambda>")) →
  Q (.ref f) (upd H1 f (fz (lamO (X.env.qual ++ "<lambda>") params body scope (cloFrom X.env.cells scope.names []) pm c' ctv)))
section
variable {X : Cx} {T : List (Addr × Str)} {c P : Addr} {params : Arguments} {body : Expr} {scope : Scope} {pos : Pos}
theorem pe_lam (TB : TabB X.base X.mg c P) (hcode : X.env.code = .ref c) (hm : (P, X.env.qual ++ "<lambda>") ∈ T) (hu : ∀ p ∈ T, p.1 = P → p.2 = X.env.qual ++ "<lambda>") (hdef : defaultsOf params X.env = ([], [])) (LS : LamS X.env.scope scope) :
    PE X (.Lambda params body scope pos) (tLamE X T params body scope) := by
  refine ⟨fun pins s σ H Q I h => lam_new I TB hcode hm hu h.1 hdef (LS.has I.ok) fun f c' pm ctv H1 s' a1 a2 a3 a4 a5 J => ⟨.ref f, _, J, rfl, h.2 f c' pm ctv H1 a1 a2 a5 a3 a4⟩⟩
/-- the closure's cells are the frame's -/
theorem clo_mem (LS : LamS X.env.scope scope) (ok : X.Ok) {y : Str} {c : Addr} (e : (cloFrom X.env.cells scope.names []).lookup y = some c) : X.env.cells.lookup y = some c := by
  rcases cloFrom_mem (PySem.mem_of_lookup e) with hm | ⟨h1, h2⟩
  · cases hm
  · obtain ⟨c1, hc⟩ := LS.has ok _ h1 rfl
    have hc : X.env.cells.lookup y = some c1 := hc
    rw [hc] at h2
    rw [hc]
    exact congrArg some h2.symm
theorem clo_of {σ : L2.St} {H Hc : Hp} {f c' : Addr} {pm ctv : Value} {q : Str} (L : Lent X σ H Hc) (LS : LamS X.env.scope scope) (hf : H f = some (fz (lamO q params body scope (cloFrom X.env.cells scope.names []) pm c' ctv))) (hc : H c' = some (CodeO c' q)) :
    CloAt Hc X.N σ f q params body scope (cloFrom X.env.cells scope.names []) := by
  have up : ∀ b o, H b = some o → Hc b = some o := fun b o e => by
    obtain ⟨e', _⟩ := L.put.sub e
    exact e'
  have look : ∀ {y}, (y, NameKind.free) ∈ scope.names → ∃ c, (cloFrom X.env.cells scope.names []).lookup y = some c := fun {y} hy => mem_lookup (cloFrom_has (cells := X.env.cells) (acc := []) hy)
  refine ⟨⟨pm, c', ctv, up _ _ hf, up _ _ hc⟩, fun y c e => L.cells y c (clo_mem LS L.ok e), fun i y v e1 e2 e3 => ?_, fun y z c e1 e2 => L.ok.inj y z c (clo_mem LS L.ok e1) (clo_mem LS L.ok e2), fun y hy e => ?_⟩
  · obtain ⟨c, e⟩ := look (PySem.mem_of_lookup e3)
    obtain ⟨c2, o, u, q1, q2⟩ := L.vals i y v e1 e2 (LS.free _ (PySem.mem_of_lookup e3) rfl)
    have e' := clo_mem LS L.ok e
    rw [q1] at e'
    cases e'
    exact ⟨_, o, u, e, q2⟩
  · obtain ⟨y1, y2⟩ := y
    cases e
    exact look hy
end
/-! ### _law_try -/
/-- an error of the class at D, by its name -/
def Rf (K : PySem.W.Frag) (mg : Str → Option Value) (D : Addr) (dn : String) : Prop := ∃ cY c0 c1 c2 c3 c4 c5 c6 c7 c8, Ers K mg cY c0 c1 c2 c3 c4 c5 c6 c7 c8 ∧ (dn, D) ∈ errs.zip [c0, c1, c2, c3, c4, c5, c6, c7, c8]
/-- how the thing at f answers where it is called with H -/
def Door (P : Program) (w : World) (K : PySem.W.Frag) (mg : Str → Option Value) (base : Heap) (k : Nat) (H : Hp) (f : Addr) (R : VK → XK → Prop) : Prop :=
  (∃ o, H f = some (fz o) ∧ ∃ fd, o.data = .func fd) ∧ ∀ (A : Around) (outer : List Env) (s : Shared) (Q : VK) (E : XK), Room k A → Env0 P w K mg base A outer s H → R Q E → codeAny (model P w) A (.call (.ref f) ⟨[], []⟩) (CR (L2N.CX P w) outer P w H s Q E) s
def kinS (dn : String) : Str := Str.ofString (dn ++ "+")
def sp_law_try (P : Program) (w : World) (K : PySem.W.Frag) (mg : Str → Option Value) (base : Heap) (k : Nat) : Sp := fun vs H Q _ => ∃ (f : Addr) (R : VK → XK → Prop), vs = [.ref f] ∧ Door P w K mg base k H f R ∧
  ∀ (Q' : VK) (E' : XK), (∀ v H', (∀ p, H' p = none → Q (.ref p) (upd H' p (.tup [.str "told", v]))) → Q' v H') → (∀ D dn H', Rf K mg D dn → NoT H' → (∀ H2, Same H' H2 → NoT H2 → Q (.str (kinS dn)) H2) → E' (.ref D) none H') → R Q' E'
theorem Rf.at {K : PySem.W.Frag} {mg : Str → Option Value} {D : Addr} {dn : String} {cY c0 c1 c2 c3 c4 c5 c6 c7 c8 : Addr} (r : Rf K mg D dn) (E : Ers K mg cY c0 c1 c2 c3 c4 c5 c6 c7 c8) : (dn, D) ∈ errs.zip [c0, c1, c2, c3, c4, c5, c6, c7, c8] := by
  obtain ⟨dY, d0, d1, d2, d3, d4, d5, d6, d7, d8, F, h⟩ := r
  have u : ∀ {x : Str} {a b : Addr}, mg x = some (.ref a) → mg x = some (.ref b) → a = b := fun h1 h2 => by
    rw [h1] at h2
    exact Value.ref.inj (Option.some.inj h2)
  cases u E.m0 F.m0
  cases u E.m1 F.m1
  cases u E.m2 F.m2
  cases u E.m3 F.m3
  cases u E.m4 F.m4
  cases u E.m5 F.m5
  cases u E.m6 F.m6
  cases u E.m7 F.m7
  cases u E.m8 F.m8
  exact h
/-- a() where a holds such a thing -/
theorem pe_door {X : Cx} {W : WX} {k j i : Nat} {a : Str} {p1 p2 : Pos} (hr : Room j X.A) (hj : k ≤ j) (tk : L2N.Takes X W) (hN : X.N[i]? = some a) (hv : Vis X.env.scope a) (hd : (a == ("__debug__" : Str)) = false := by decide) (hcd : (a == ("__classdict__" : Str)) = false := by decide) :
    PE X (.Call (.Name a p1) [] [] p2) (fun σ H Q => ∃ (f : Addr) (R : VK → XK → Prop), σ[i]? = some (some (.ref f)) ∧ Door X.prog X.w X.K X.mg X.base k H f R ∧ R Q (fun cls d H' => W cls d σ H')) := by
  refine ⟨fun pins s σ H Q I h => ?_⟩
  obtain ⟨f, R, hs, ⟨⟨o, ho, fd, hfd⟩, run⟩, q⟩ := h
  refine wpAny_Call_Name_kw (thn ((pe_var (pos := p1) (i := i) hN hv hd hcd).run pins s σ H (fun v H1 => v = .ref f ∧ H1 = H) I ⟨.ref f, hs, rfl, rfl⟩) fun u s1 hh => ?_)
  obtain ⟨v, H1, I1, r1, rfl, rfl⟩ := hh
  obtain rfl : u = Value.ref f := r1
  have g := fz_get I1.hok ho
  obtain ⟨oc, od, dt, osl⟩ := o
  cases hfd
  refine PySem.W.callWith_F0 ⟨_, _, _, _, g⟩ (wpAny_call (codeAny_mono (run X.A X.stack s1 Q _ (hr.mono hj) I1.env0 q) fun r s' z => ?_))
  cases r with
  | error e => exact tk _ _ (L2N.XE.of_call (W := W) I1 (fun cls d H' h => h) z)
  | ok fl =>
    cases fl with
    | ret u => exact I1.after z
    | next => exact False.elim z
    | brk => exact False.elim z
    | cont => exact False.elim z
/-! ### _law_try(lambda: ..) -/
/-- what stood (and was not frozen) is as H' says -/
def KeptZ (Hb H' H2 : Hp) : Prop := ∀ b o o', Hb b = some o' → (∀ ob, o' ≠ fz ob) → H' b = some o → H2 b = some o
def tTryLam (K : PySem.W.Frag) (mg : Str → Option Value) (T : List (Addr × Str)) (t : XK → TE) : TE := fun σ H Q => NoT H ∧ Tabs T H ∧ ∀ Hb, ExtN H Hb → Tabs T Hb → NoT Hb → ∀ (E' : XK) (Q' : VK),
  (∀ D dn H', Rf K mg D dn → NoT H' → (∀ H2, KeptZ Hb H' H2 → NoT H2 → Q (.str (kinS dn)) H2) → E' (.ref D) none H') → (∀ v H', NoT H' → (∀ b ob, Hb b = some (fz ob) → H' b = some (fz ob)) → (∀ H2 p, KeptZ Hb H' H2 → NoT H2 → H2 p = some (.tup [.str "told", v]) → Q (.ref p) H2) → Q' v H') → t E' σ Hb Q'
theorem noT_ovr {D : Addr → Prop} {H H' : Hp} (n : NoT H) (n' : NoT H') : NoT (ovr D H H') := fun b o e => by
  by_cases d : D b
  · rw [ovr_in d] at e; exact n b o e
  · rw [ovr_out d] at e; exact n' b o e
theorem noT_none : NoT (fun _ => none) := fun b o e => by cases e
section
variable {X : Cx} {T : List (Addr × Str)} {c P : Addr} {params : Arguments} {body : Expr} {scope : Scope} {p lpos pos : Pos} {k j i : Nat} {t : XK → TE}
theorem pe_tryLam (D : Df X.prog X.w X.K X.mg X.base CX0 "_law_try" j ["door"] (sp_law_try X.prog X.w X.K X.mg X.base (k + 1))) (hr : Room i X.A) (hj : j ≤ i) (hg : Gl X "_law_try") (hca : ∀ y c, X.env.cells.lookup y = some c → X.s_0.heap.objs.size ≤ c)
    (TB : TabB X.base X.mg c P) (hcode : X.env.code = .ref c) (hm : (P, X.env.qual ++ "<lambda>") ∈ T) (hu : ∀ p ∈ T, p.1 = P → p.2 = X.env.qual ++ "<lambda>") (hdef : defaultsOf params X.env = ([], [])) (LS : LamS X.env.scope scope)
    (hbind : ∀ (q : Str) (cl : List (Str × Addr)) (pm cv ctv : Value), bindArgs (PySem.W.kla_fn "<lambda>" q params body scope cl pm cv ctv) ⟨[], []⟩ = pure [])
    (hbody : ∀ (cl : List (Str × Addr)) (f c' : Addr) (A : Around) (outer : List Env) (s : Shared) (H : Hp) (E : XK), Room k (A.deeper (PySem.W.envX (X.env.qual ++ "<lambda>") scope s.heap.objs.size f (.ref c') cl)) → PE (clCx X.prog X.w X.K X.mg X.base X.N (X.env.qual ++ "<lambda>") scope cl f c' A outer s H E) body (t E)) :
    PE X (.Call (.Name "_law_try" p) [.Lambda params body scope lpos] [] pos) (tTryLam X.K X.mg T t) := by
  refine ⟨fun pins s σ H Q I h => ?_⟩
  refine (pe_callLend (e := .Lambda params body scope lpos) (es := []) (p := p) (pos := pos) D hr hj hg hca (pa_cons (pe_lam TB hcode hm hu hdef LS) pa_nil)).run pins s σ H Q I ?_
  obtain ⟨nt, hT, h⟩ := h
  refine ⟨hT, fun f c' pm ctv H1 eN T1 n1 hfn hco Hc L => ?_⟩
  have ntf : NoT (upd H1 f (fz (lamO (X.env.qual ++ "<lambda>") params body scope (cloFrom X.env.cells scope.names []) pm c' ctv))) := (n1 nt).upd (pl_fz _)
  have sf : ∀ b o, H1 b = some o → upd H1 f (fz (lamO (X.env.qual ++ "<lambda>") params body scope (cloFrom X.env.cells scope.names []) pm c' ctv)) b = some o := fun b o e => by rw [upd_ne (ne_of_none e hfn)]; exact e
  have C := clo_of (q := X.env.qual ++ "<lambda>") L LS upd_same (sf _ _ hco)
  have LT : LamT scope := ⟨LS.kind, LS.co, LS.gen, LS.own⟩
  generalize upd H1 f (fz (lamO (X.env.qual ++ "<lambda>") params body scope (cloFrom X.env.cells scope.names []) pm c' ctv)) = Hf at L sf ntf
  have subD : ∀ b, cellD (cloFrom X.env.cells scope.names []) b → cellD X.env.cells b := fun b ⟨y, e⟩ => ⟨y, clo_mem LS L.ok e⟩
  generalize cloFrom X.env.cells scope.names [] = cl at C subD
  have nc : ∀ b, cellD X.env.cells b → ∃ o, Hc b = some (fz o) := fun b d => L.put.frz b d
  have ntc : NoT Hc := fun b o e => by
    by_cases d : cellD X.env.cells b
    · obtain ⟨ob, q⟩ := nc b d
      rw [q] at e
      cases e
      rfl
    · rw [← L.put.out b d] at e
      exact ntf b o e
  have up : ∀ b o, H1 b = some o → ovr (cellD cl) (fun _ => none) Hc b = some o := fun b o e => by
    obtain ⟨e', d⟩ := L.put.sub (sf b o e)
    rw [ovr_out fun z => d (subD b z)]
    exact e'
  refine ⟨f, fun Q E => t (fun cls d H' => E cls d (ovr (cellD cl) Hc H')) σ (ovr (cellD cl) (fun _ => none) Hc) (fun v H' => Q v (ovr (cellD cl) Hc H')), rfl, ⟨?_, fun A outer s Q E hr' e0 q => clo_run LT L.len (fun pm cv ctv => hbind _ _ pm cv ctv) (fun c' A outer s H E hr2 => hbody cl f c' A outer s H E hr2) hr' e0 C q⟩, ?_⟩
  · obtain ⟨⟨pm, c2, ctv, e, _⟩, _⟩ := C
    exact ⟨_, e, _, rfl⟩
  · have key : ∀ H' H'', Same (ovr (cellD cl) Hc H') H'' → KeptZ (ovr (cellD cl) (fun _ => none) Hc) H' (ovr (cellD X.env.cells) (fun _ => none) H'') := fun H' H'' s b o o' e1 e2 e3 => by
      have d1 : ¬ cellD cl b := fun d => by rw [ovr_in d] at e1; cases e1
      rw [ovr_out d1] at e1
      have d2 : ¬ cellD X.env.cells b := fun d => by
        obtain ⟨ob, q⟩ := nc b d
        rw [q] at e1
        exact e2 ob (Option.some.inj e1).symm
      rw [ovr_out d2]
      exact s b o (by rw [ovr_out d1]; exact e3)
    intro Q' E' hQ hE
    refine h (ovr (cellD cl) (fun _ => none) Hc) (fun b o e n => up b o (eN b o e n)) (T1.ext up) (noT_ovr noT_none ntc) _ _ (fun D dn H' hRf n' hq => hE D dn _ hRf (noT_ovr ntc n') fun H2 s2 n2 => hq _ (key H' H2 s2) (noT_ovr noT_none n2)) fun v H' n' hfz hq => hQ v _ fun p hp => ?_
    have nd : ¬ cellD X.env.cells p := fun d => by
      obtain ⟨ob, q⟩ := nc p d
      by_cases d1 : cellD cl p
      · rw [ovr_in d1, q] at hp
        cases hp
      · rw [ovr_out d1, hfz p ob (by rw [ovr_out d1]; exact q)] at hp
        cases hp
    refine hq _ p (fun b o o' e1 e2 e3 => ?_) (noT_ovr noT_none ((noT_ovr ntc n').upd rfl)) (by rw [ovr_out nd, upd_same])
    have k := key H' _ (Same.refl _) b o o' e1 e2 e3
    by_cases d2 : cellD X.env.cells b
    · rw [ovr_in d2] at k
      cases k
    · rw [ovr_out d2] at k ⊢
      rw [upd_ne (ne_of_none k hp)]
      exact k
end
end Ly
set_option Elab.async false
set_option linter.all false
set_option maxRecDepth 100000
set_option maxHeartbeats 4000000
/-! defs that refuse; defs that make lambdas; a law's entry -/
namespace Ly
open PySem PySem.Spec PyProof.Rows L2 LamX
section
variable {P : Program} {w : World} {K : PySem.W.Frag} {mg : Str → Option Value} {base : Heap} {k : Nat} {f : Addr} {fd : FuncData} {ps : List Str} {sp : Sp}
/-- a def that may refuse -/
theorem Fun.okN {x qual : Str} {st : Stmt} {N : List Str} (F : Fun K x qual st f fd) (S : FnScope N ps (defScope st)) (len : ∀ vs H Q E, sp vs H Q E → vs.length = ps.length)
    (hbody : ∀ (cdv : Value) (A : Around) (outer : List Env) (s : Shared) (H : Hp) (vs : List V) (Q : VK) (E : XK), Room k (A.deeper (envOfC qual (defScope st) s.heap.objs.size f cdv)) → sp vs H Q E →
      ∃ t, PSs (cxOf (L2N.CX P w) P w K mg base N qual (defScope st) f cdv A outer s H E) (defBody st) t ∧ t { nx := fun _ H' => Q .non H', rt := Q } (start N vs) H) : FnOk P w K mg base (L2N.CX P w) (k + 1) f fd ps sp := by
  obtain ⟨oc, od, kV, doc, pm, an, cdv, ct, osl, rfl, lk, hcd⟩ := F.ex
  exact fn_of lk hcd S len fun A outer s H vs Q E => hbody cdv A outer s H vs Q E
/-- a def by its text, its code object at c -/
structure FunC (K : PySem.W.Frag) (x qual : Str) (st : Stmt) (f : Addr) (fd : FuncData) (c : Addr) : Prop where
  ex : ∃ (oc : Value) (od : Option Addr) (kV doc pm : Value) (an : Option Addr) (ct : Value) (osl : Array (Option Value)),
    fd = PySem.W.fnOf x qual (defArgs st) (defBody st) (defScope st) .none kV doc pm an (.ref c) ct ∧ K.lookup f = some ⟨oc, od, .func fd, osl⟩ ∧ PySem.W.codeIn K (.ref c) qual = true
  kp : PySem.W.keepIn K (.ref f) = true
theorem funC_mk {x qual : Str} {st : Stmt} {c : Addr} {oc : Value} {od : Option Addr} {kV doc pm : Value} {an : Option Addr} {ct : Value} {osl : Array (Option Value)} (l : K.lookup f = some ⟨oc, od, .func (PySem.W.fnOf x qual (defArgs st) (defBody st) (defScope st) .none kV doc pm an (.ref c) ct), osl⟩)
    (e : PySem.W.codeIn K (.ref c) qual = true) (q : PySem.W.keepIn K (.ref f) = true) : FunC K x qual st f (PySem.W.fnOf x qual (defArgs st) (defBody st) (defScope st) .none kV doc pm an (.ref c) ct) c := ⟨⟨oc, od, kV, doc, pm, an, ct, osl, rfl, l, e⟩, q⟩
theorem FunC.ok {x qual : Str} {st : Stmt} {N : List Str} {c : Addr} (F : FunC K x qual st f fd c) (S : FnScope N ps (defScope st)) (len : ∀ vs H Q E, sp vs H Q E → vs.length = ps.length)
    (hbody : ∀ (A : Around) (outer : List Env) (s : Shared) (H : Hp) (vs : List V) (Q : VK) (E : XK), Room k (A.deeper (envOfC qual (defScope st) s.heap.objs.size f (.ref c))) → sp vs H Q E →
      ∃ t, PSs (cxOf CX0 P w K mg base N qual (defScope st) f (.ref c) A outer s H E).nox (defBody st) t ∧ t { nx := fun _ H' => Q .non H', rt := Q } (start N vs) H) : FnOk P w K mg base CX0 (k + 1) f fd ps sp := by
  obtain ⟨oc, od, kV, doc, pm, an, ct, osl, rfl, lk, hcd⟩ := F.ex
  refine fn_of lk hcd S len fun A outer s H vs Q E hr hsp => ?_
  obtain ⟨t, h, q⟩ := hbody A outer s H vs Q E hr hsp
  exact ⟨t, h.nox, q⟩
/-- the def x, its code object at c -/
def Tc (K : PySem.W.Frag) (mg : Str → Option Value) (x : Str) (st : Stmt) (ps : List Str) (c : Addr) : Prop := ∃ (f : Addr) (fd : FuncData), FunC K x x st f fd c ∧ mg x = some (.ref f) ∧ Binds K fd ps []
end
theorem cells_ge : ∀ (names : List (Str × NameKind)) (n : Nat) (acc : List (Str × Addr)) {y : Str} {c : Addr}, (y, c) ∈ cellsFrom n names acc → (y, c) ∈ acc ∨ n ≤ c
  | [], n, acc, y, c, h => .inl h
  | (x, k) :: r, n, acc, y, c, h => by
    unfold cellsFrom at h
    split at h
    · rcases cells_ge r (n + 1) _ h with z | z
      · rcases List.mem_cons.mp z with e | e
        · cases e
          exact .inr (Nat.le_refl _)
        · exact .inl e
      · exact .inr (Nat.le_of_succ_le z)
    · exact cells_ge r n acc h
/-- a def's own cells are new -/
theorem cells_new {scope : Scope} {n : Nat} {y : Str} {c : Addr} (e : (cellsFrom (n + 1) scope.names []).lookup y = some c) : n ≤ c := by
  rcases cells_ge _ _ _ (PySem.mem_of_lookup e) with z | z
  · cases z
  · exact Nat.le_of_succ_le z
/-! ### all but the tables -/
theorem ExtN.t {K : PySem.W.Frag} {H H' : Hp} {a : Addr} {xs : List V} (e : ExtN H H') (h : SqT K H a xs) : SqT K H' a xs := by
  rcases h with (h | ⟨o, h⟩) | h
  · exact .inl (.inl (e _ _ h fun _ z => nomatch z))
  · exact .inl (.inr ⟨o, e _ _ h fun _ z => nomatch z⟩)
  · exact .inr h
theorem ExtN.l {K : PySem.W.Frag} {H H' : Hp} {a : Addr} {xs : List V} (e : ExtN H H') (h : SqL K H a xs) : SqL K H' a xs := by
  rcases h with (h | ⟨o, h⟩) | h
  · exact .inl (.inl (e _ _ h fun _ z => nomatch z))
  · exact .inl (.inr ⟨o, e _ _ h fun _ z => nomatch z⟩)
  · exact .inr h
theorem Same.ext {H H' : Hp} (s : Same H H') : ExtN H H' := ExtN.of s
theorem tabs_same {T : List (Addr × Str)} {H H' : Hp} (t : Tabs T H) (s : Same H H') : Tabs T H' := t.ext s
theorem tabs_gr {T : List (Addr × Str)} {d : Addr} {H H' : Hp} (t : Tabs T H) (g : Gr d H H') : Tabs T H' := fun p hp => by
  obtain ⟨ps, h1, h2, h3⟩ := t p hp
  refine ⟨ps, g.keep _ _ (g.ne h1 fun _ z => nomatch z) h1, h2, fun pos cv hc => ?_⟩
  obtain ⟨c, e1, e2⟩ := h3 pos cv hc
  exact ⟨c, e1, g.keep _ _ (g.ne e2 fun _ z => by unfold CodeO at z; cases z) e2⟩
/-- what stood, but the frozen ones, stands behind a refusal that left H' -/
theorem KeptZ.of {H Hb H' H2 : Hp} (k : KeptZ Hb H' H2) (e : ∀ b o, H b = some o → (∀ ps, o ≠ .tbl ps) → Hb b = some o) (s : Same Hb H') {b : Addr} {o : HO} (h : H b = some o) (n : ∀ ps, o ≠ .tbl ps) (n' : ∀ ob, o ≠ fz ob) : H2 b = some o :=
  k b o o (e b o h n) n' (s _ _ (e b o h n))
theorem tabs_kept {T : List (Addr × Str)} {Hb H' H2 : Hp} (t : Tabs T Hb) (k : KeptZ Hb H' H2) (s : Same Hb H') : Tabs T H2 := fun p hp => by
  obtain ⟨ps, h1, h2, h3⟩ := t p hp
  refine ⟨ps, k _ _ _ h1 (fun _ z => by cases z) (s _ _ h1), h2, fun pos cv hc => ?_⟩
  obtain ⟨c, e1, e2⟩ := h3 pos cv hc
  exact ⟨c, e1, k _ _ _ e2 (fun _ z => by unfold CodeO fz at z; cases z) (s _ _ e2)⟩
/-! ### a law's entry: nothing but the script and the tables is looked at -/
def sp_entry (K : PySem.W.Frag) (cs : List Addr) : Sp := fun vs H Q _ => ∃ (a : Addr) (ns : List Int), vs = [.ref a] ∧ SqL K H a (ns.map V.int) ∧ ns.length ≤ 63 ∧ NoT H ∧ (∀ p ∈ cs, H p = some (.tbl #[])) ∧ ∀ H', Q (.bl true) H'
def sp_start (K : PySem.W.Frag) (cs : List Addr) : Sp := fun vs H Q _ => ∃ (a : Addr) (ns : List Int), vs = [.ref a] ∧ SqL K H a (ns.map V.int) ∧ ns.length ≤ 63 ∧ (∀ p ∈ cs, H p = some (.tbl #[])) ∧ ∀ H', Q (.bl true) H'
theorem fn_entry {P : Program} {w : World} {K : PySem.W.Frag} {mg : Str → Option Value} {base : Heap} {k : Nat} {f : Addr} {fd : FuncData} {x : Str} {cs : List Addr} (F : FnOk P w K mg base CX0 k f fd [x] (sp_entry K cs)) : FnOk P w K mg base CX0 k f fd [x] (sp_start K cs) := by
  refine ⟨fun vs H Q E h => ?_, fun A outer s H args us vs Q E hr e0 hb r h => ?_⟩
  · obtain ⟨a, ns, rfl, _⟩ := h; rfl
  obtain ⟨a, ns, rfl, hS, hl, hT, q⟩ := h
  -- what is kept: the tables, and the script where it is tracked
  have go : ∀ Kp : Addr → Prop, (∀ b, Kp b → (∃ ps, H b = some (.tbl ps)) ∨ (∃ xs, H b = some (.lst xs)) ∨ ∃ o xs, H b = some (.frz o (.lst xs))) → (∀ p ∈ cs, Kp p) → SqL K (ovr Kp H fun _ => none) a (ns.map V.int) →
      codeAny (model P w) A (.call (.ref f) args) (CR CX0 outer P w H s Q E) s := fun Kp hK hKt hS0 => by
    have out : ∀ b, H b = none → ovr Kp H (fun _ => none) b = none := fun b e => by
      by_cases d : Kp b
      · rw [ovr_in d]; exact e
      · exact ovr_out d
    have ok0 : HOk P w (ovr Kp H fun _ => none) s.heap := fun b o e => by
      by_cases d : Kp b
      · rw [ovr_in d] at e
        have z := e0.hok b o e
        rcases hK b d with ⟨ps, q'⟩ | ⟨xs, q'⟩ | ⟨ob, xs, q'⟩ <;> rw [e] at q' <;> cases q' <;> exact z
      · rw [ovr_out d] at e; cases e
    have nt0 : NoT (ovr Kp H fun _ => none) := fun b o e => by
      by_cases d : Kp b
      · rw [ovr_in d] at e
        rcases hK b d with ⟨ps, q'⟩ | ⟨xs, q'⟩ | ⟨ob, xs, q'⟩ <;> rw [e] at q' <;> cases q' <;> rfl
      · rw [ovr_out d] at e; cases e
    have e0' : Env0 P w K mg base A outer s (ovr Kp H fun _ => none) := ⟨e0.frames, e0.mod, fun b o e => ⟨(e0.bs b o e).1, out b (e0.bs b o e).2⟩, e0.bsz, e0.funs, fun b hb => out b (e0.frf b hb), ok0, e0.bare⟩
    refine codeAny_mono (F.run A outer s _ args us _ (fun v _ => v = .bl true) E hr e0' hb r ⟨a, ns, rfl, hS0, hl, nt0, fun p hp => by rw [ovr_in (hKt p hp)]; exact hT p hp, fun _ => rfl⟩) fun r s' z => ?_
    cases r with
    | error e => exact (show False from z).elim
    | ok fl =>
      cases fl with
      | next => exact False.elim z
      | brk => exact False.elim z
      | cont => exact False.elim z
      | ret u =>
        obtain ⟨v, H', os, bare, un, hok', rv, rfl⟩ := z
        have at_ : ∀ b o, H b = some o → ¬ Kp b → (∃ ob, s.heap.get? b = some ob ∧ s'.heap.get? b = some ob) ∧ H' b = none := fun b o e d => by
          obtain ⟨ob, g⟩ := objOk_get (e0.hok b o e)
          have n0 : ovr Kp H (fun _ => none) b = none := ovr_out d
          have nf : b ∉ frs outer := fun hb => by rw [e0.frf b hb] at e; cases e
          exact ⟨⟨ob, g, un.keep b ob g n0 nf (by simp)⟩, un.free b ob g n0 (by simp)⟩
        have kO : ∀ b, H b ≠ none ∧ ¬ Kp b → ∃ o, H b = some o := fun b h => Option.ne_none_iff_exists'.mp h.1
        have notD : ∀ b o, H' b = some o → ¬ (H b ≠ none ∧ ¬ Kp b) := fun b o e d => by
          obtain ⟨o', e'⟩ := kO b d
          rw [(at_ b o' e' d.2).2] at e
          cases e
        have inD : ∀ b o, H b = some o → (∀ ps, o ≠ .tbl ps) → (∀ xs, o ≠ .lst xs) → (∀ ob u, o ≠ .frz ob u) → H b ≠ none ∧ ¬ Kp b := fun b o e n1 n2 n3 => ⟨by rw [e]; simp, fun d => by
          rcases hK b d with ⟨ps, q'⟩ | ⟨xs, q'⟩ | ⟨ob, xs, q'⟩ <;> rw [e] at q' <;> cases q'
          · exact n1 _ rfl
          · exact n2 _ rfl
          · exact n3 _ _ rfl⟩
        refine ⟨.bl true, ovr (fun b => H b ≠ none ∧ ¬ Kp b) H H', os, bare, ⟨fun b o e n hb _ => un.keep b o e (out b n) hb (by simp), fun b o e n hb _ => un.slot b o e (out b n) hb (by simp), fun b o e n _ => ?_, fun b o e _ => un.there b o e (by simp), fun b xs e => ?_, fun b o u e => ?_, fun b ps e => ?_⟩, fun b o e => ?_, rv, q _⟩
        · rw [ovr_out fun d => d.1 n]
          exact un.free b o e (out b n) (by simp)
        · rw [ovr_in (inD b _ e (fun _ z => nomatch z) (fun _ z => nomatch z) fun _ _ z => nomatch z)]
          exact e
        · by_cases d : Kp b
          · rw [ovr_out fun z => z.2 d]
            exact un.frzs b o u (by rw [ovr_in d]; exact e)
          · rw [ovr_in ⟨by rw [e]; simp, d⟩]
            exact e
        · by_cases d : Kp b
          · rw [ovr_out fun z => z.2 d]
            exact un.tbls b ps (by rw [ovr_in d]; exact e)
          · rw [ovr_in ⟨by rw [e]; simp, d⟩]
            exact ⟨#[], by rw [e]; simp⟩
        · by_cases d : H b ≠ none ∧ ¬ Kp b
          · rw [ovr_in d] at e
            refine (e0.hok b o e).stay (fun c v hc g => ?_) (fun c e' => by rw [ovr_in (inD c _ e' (fun _ z => nomatch z) (fun _ z => nomatch z) fun _ _ z => nomatch z)]; exact e') fun c xs e' => by rw [ovr_in (inD c _ e' (fun _ z => nomatch z) (fun _ z => nomatch z) fun _ _ z => nomatch z)]; exact e'
            have dc : ∃ o', H c = some o' ∧ ¬ Kp c := by
              rcases hc with rfl | hc
              · exact ⟨o, e, d.2⟩
              · exact ⟨_, hc, (inD c _ hc (fun _ z => nomatch z) (fun _ z => nomatch z) fun _ _ z => nomatch z).2⟩
            obtain ⟨o', ec, dk⟩ := dc
            obtain ⟨⟨ob, g1, g2⟩, _⟩ := at_ c o' ec dk
            rw [g] at g1
            cases g1
            exact g2
          · rw [ovr_out d] at e
            exact (hok' b o e).stay (fun _ _ _ g => g) (fun c e' => by rw [ovr_out (notD c _ e')]; exact e') fun c xs e' => by rw [ovr_out (notD c _ e')]; exact e'
  rcases hS with (h | ⟨o, h⟩) | h
  · exact go (fun b => b ∈ cs ∨ b = a) (fun b d => d.elim (fun m => .inl ⟨_, hT b m⟩) fun e => .inr (.inl ⟨_, e ▸ h⟩)) (fun p hp => .inl hp) (.inl (.inl ((ovr_in (Or.inr rfl)).trans h)))
  · exact go (fun b => b ∈ cs ∨ b = a) (fun b d => d.elim (fun m => .inl ⟨_, hT b m⟩) fun e => .inr (.inr ⟨_, _, e ▸ h⟩)) (fun p hp => .inl hp) (.inl (.inr ⟨o, (ovr_in (Or.inr rfl)).trans h⟩))
  · exact go (fun b => b ∈ cs) (fun b m => .inl ⟨_, hT b m⟩) (fun p hp => hp) (.inr h)
end Ly
set_option Elab.async false
set_option linter.all false
set_option maxRecDepth 100000
set_option maxHeartbeats 4000000
/-! rows of years picked; odds and ends for the lands told back -/
namespace Ly
open PySem PySem.Spec PyProof.Rows L2
theorem un65 {k : Nat} {A : Around} (r : Room k A) : A.units + 65 < cLine := by have := r.un; omega
/-- [row for row in seen if p(row)] -/
theorem lc_rowF {K : PySem.W.Frag} {a D : Addr} {xs : List V} {R : Rw} {p : Int × Int → Bool} {g : Nat} {tt : TT} {te : TE} {vs : List Nat} {σ : L2.St} {H : Hp} {Qd : Hp → Prop} (hS : SqT K H a xs) (hR : Paired (RowI K H) xs R) (hD : H D = none) (hl : R.length < 100000)
    (hw : ∀ x, wipe ((wipe σ vs).set g (some x)) vs = wipe σ vs)
    (ht : ∀ q r H', r ∈ R → Same H H' → SqT K H' q [.int r.1, .int r.2] → ∀ Q : Bool → Hp → Prop, Q (p r) H' → tt ((wipe σ vs).set g (some (.ref q))) H' Q)
    (he : ∀ x H' (Q : VK), Q x H' → te ((wipe σ vs).set g (some x)) H' Q)
    (hd : ∀ ys, Paired (RowI K H) ys (R.filter p) → Qd (upd H D (.lst ys))) :
    ∃ W : Nat → Nat → Hp → Prop, (∃ m, W 0 m (upd H D (.lst []))) ∧ ∀ i m H, W i m H →
      ((Itt K a).stop i H ∧ Qd H) ∨ ((Itt K a).go i H ∧ ∃ Nx : Hp → Prop, (∀ H', Nx H' → ∃ m', m' < m ∧ W (i + 1) m' H') ∧ ∀ x H', (Itt K a).yld i H x H' → gName g x (wipe σ vs) H' fun σ2 H2 => wipe σ2 vs = wipe σ vs ∧ tt σ2 H2 fun b H3 =>
        if b = true then te σ2 H3 fun y H4 => ∃ acc, H4 D = some (.lst acc) ∧ acc.length < sizeLine ∧ Nx (upd H4 D (.lst (acc ++ [y]))) else Nx H3) := by
  have elen : xs.length = R.length := Paired.length hR
  refine lc_tup (xs := xs) (fun i H' => ∃ ys, Paired (RowI K H) ys ((R.take i).filter p) ∧ H' = upd H D (.lst ys)) ⟨[], .nil, rfl⟩ (fun i H' _ q => by obtain ⟨ys, _, rfl⟩ := q; exact Same.t (same_new hD) hS) (fun i x H' hx q => ?_) (fun H' q => ?_)
  · obtain ⟨ys, hy, rfl⟩ := q
    obtain ⟨r, hr, q, rfl, rx⟩ := Paired.row hR hx
    have st : (R.take (i + 1)).filter p = (R.take i).filter p ++ if p r = true then [r] else [] := by
      rw [List.take_succ, hr, List.filter_append]
      congr 1
      by_cases c : p r = true <;> simp [c]
    refine ⟨hw _, ?_⟩
    refine ht q r _ (List.mem_of_getElem? hr) (same_new hD) (Same.t (same_new hD) rx) _ ?_
    rw [st]
    by_cases c : p r = true
    · rw [if_pos c, if_pos c]
      refine he _ _ _ ⟨ys, upd_same, ?_, ys ++ [.ref q], Paired.snoc ⟨q, rfl, rx⟩ hy, upd_upd⟩
      have e1 := Paired.length hy
      have e2 := List.length_filter_le p (R.take i)
      rw [List.length_take] at e2
      rw [sizeLine_eq]
      omega
    · rw [if_neg c, if_neg c, List.append_nil]
      exact ⟨ys, hy, rfl⟩
  · obtain ⟨ys, hy, rfl⟩ := q
    rw [elen, List.take_length] at hy
    exact hd ys hy
/-! ### how many there are -/
theorem manyL_le {a z : Int × Int} {d t b : Int} (hb : 1 ≤ b) : manyL a z d t b ≤ b.toNat := by
  unfold manyL
  split <;> omega
theorem shL_len {R : Rw} {a : Int × Int} {d t b : Int} {k : Nat} : (shL R a d t b k).length ≤ k := by
  have := flatN_len (f := fun i : Nat => if (begB R d t b (lowL a d t b + i) && decide (gcdI b t = 1)) = true then [[d, t, b, lowL a d t b + i]] else []) (m := 1) (k := k) fun i _ => by
    split <;> simp
  unfold shL
  omega
theorem tpL_len {R : Rw} {a z : Int × Int} {d b : Int} (hb : 1 ≤ b) (hB : b ≤ 8) {k : Nat} (hk : k ≤ 8) : (tpL R a z d b k).length ≤ 64 := by
  have := flatN_len (f := fun t : Nat => shL R a d t b (manyL a z d t b)) (m := 8) (k := k) fun i _ => by
    have h1 := shL_len (R := R) (a := a) (d := d) (t := (i : Int)) (b := b) (k := manyL a z d i b)
    have h2 := manyL_le (a := a) (z := z) (d := d) (t := (i : Int)) hb
    omega
  unfold tpL
  omega
theorem btL_len {R : Rw} {a z : Int × Int} {d : Int} {k : Nat} (hk : k ≤ 8) : (btL R a z d k).length ≤ 512 := by
  have := flatN_len (f := fun j : Nat => tpL R a z d (1 + j) (1 + j)) (m := 64) (k := k) fun i hi => tpL_len (by omega) (by omega) (by omega)
  unfold btL
  omega
theorem dyL_len {R : Rw} {a z : Int × Int} {most k : Nat} (hm : most ≤ 8) (hk : k ≤ 59) : (dyL R a z most k).length ≤ 30208 := by
  have := flatN_len (f := fun j : Nat => btL R a z (1 + j) most) (m := 512) (k := k) fun i hi => btL_len hm
  unfold dyL
  omega
theorem dp_rows {K : PySem.W.Frag} {H : Hp} : ∀ {vs : List V} {R : Rw}, Paired (RowI K H) vs R → DpAll K H vs ((R.map fun r => [r.1, r.2]).map tupD)
  | _, _, .nil => .nil
  | _, _, .cons r t => by
    obtain ⟨p, rfl, h⟩ := r
    exact .cons (.tup h (dp_ints [_, _])) (dp_rows t)
/-- rows == [] -/
theorem eq_rows0 {K : PySem.W.Frag} {H : Hp} {a b : Addr} {xs : List V} {R : Rw} {Q : VK} (h1 : SqL K H a xs) (k1 : Paired (RowI K H) xs R) (h2 : SqL K H b []) (q : Q (.bl (decide (R = []))) H) : rEqD K (.ref a) (.ref b) H Q :=
  ⟨_, _, .lst h1 (dp_rows k1), .lst h2 .nil, sh_tups _, sh_tups [], by
    rw [show PyData.eqv (.list ((R.map fun r => [r.1, r.2]).map tupD)) (.list []) = decide (R = []) by
      have e := eqv_tups (R.map fun r => [r.1, r.2]) []
      rw [show PyData.eqv (.list ((R.map fun r => [r.1, r.2]).map tupD)) (.list []) = PyData.eqvAll ((R.map fun r => [r.1, r.2]).map tupD) ([].map tupD) by simp only [PyData.eqv, List.map_nil], e]
      cases R <;> simp]
    exact q⟩
theorem begB_flt {R : Rw} {d t b s : Int} : decide (R.filter (fun r => !decide (fday d t b s r.1 = r.2)) = []) = begB R d t b s := by
  by_cases c : begB R d t b s = true
  · rw [c]
    refine decide_eq_true ?_
    rw [List.filter_eq_nil_iff]
    intro r hr
    simp [begB_iff.mp c r hr]
  · rw [show begB R d t b s = false by simpa using c]
    refine decide_eq_false fun z => c (begB_iff.mpr fun r hr => ?_)
    have := List.filter_eq_nil_iff.mp z r hr
    simpa using this
end Ly
set_option Elab.async false
set_option linter.all false
set_option maxRecDepth 100000
set_option maxHeartbeats 4000000
/-! what stays behind a lambda's call; tuples cut and joined -/
namespace Ly
open PySem PySem.Spec PyProof.Rows L2
/-- what neither a table nor a frozen cell is -/
def keepO : HO → Bool
  | .tbl _ => false
  | .frz _ (.own _) => false
  | _ => true
def FlatB (B : Hp) : Prop := ∀ b o, B b = some o → keepO o = true
def flatH (H : Hp) : Hp := fun b => match H b with
  | some o => if keepO o = true then some o else none
  | none => none
theorem flat_eq {H : Hp} {b : Addr} {o : HO} (h : H b = some o) (k : keepO o = true) : flatH H b = some o := by
  unfold flatH
  rw [h]
  show (if keepO o = true then some o else none) = some o
  rw [if_pos k]
theorem flat_in {H : Hp} {b : Addr} {o : HO} (h : flatH H b = some o) : H b = some o ∧ keepO o = true := by
  unfold flatH at h
  cases e : H b with
  | none => rw [e] at h; cases h
  | some o' =>
    rw [e] at h
    change (if keepO o' = true then some o' else none) = some o at h
    split at h
    · rename_i c
      cases h
      exact ⟨rfl, c⟩
    · cases h
theorem flat_b (H : Hp) : FlatB (flatH H) := fun b o h => (flat_in h).2
theorem flat_same (H : Hp) : Same (flatH H) H := fun b o h => (flat_in h).1
theorem flat_t {K : PySem.W.Frag} {H : Hp} {a : Addr} {xs : List V} (h : SqT K H a xs) : SqT K (flatH H) a xs := by
  rcases h with (h | ⟨o, h⟩) | h
  · exact .inl (.inl (flat_eq h rfl))
  · exact .inl (.inr ⟨o, flat_eq h rfl⟩)
  · exact .inr h
theorem flat_l {K : PySem.W.Frag} {H : Hp} {a : Addr} {xs : List V} (h : SqL K H a xs) : SqL K (flatH H) a xs := by
  rcases h with (h | ⟨o, h⟩) | h
  · exact .inl (.inl (flat_eq h rfl))
  · exact .inl (.inr ⟨o, flat_eq h rfl⟩)
  · exact .inr h
theorem flat_row {K : PySem.W.Frag} {H : Hp} {v : V} {r : Int × Int} (h : RowI K H v r) : RowI K (flatH H) v r := by
  obtain ⟨p, e, h⟩ := h
  exact ⟨p, e, flat_t h⟩
theorem flat_ext {B H Hb : Hp} (f : FlatB B) (s : Same B H) (e : LamX.ExtN H Hb) : Same B Hb := fun b o h => e b o (s b o h) fun ps z => by
  have := f b o h
  rw [z] at this
  cases this
theorem flat_kept {B Hb H2 : Hp} (f : FlatB B) (s : Same B Hb) (k : KeptZ Hb Hb H2) : Same B H2 := fun b o h => k b o o (s b o h) (fun ob z => by
  have := f b o h
  rw [z] at this
  cases this) (s b o h)
/-! ### tuples -/
theorem cutV_whole {xs : List V} {lo hi : Option Int} (h : HT.sIx xs.length 0 lo = 0 ∧ HT.sIx xs.length xs.length hi = xs.length) : cutV xs lo hi = xs := by
  unfold cutV
  rw [h.1, h.2]
  simp
section
variable {K : PySem.W.Frag} {H : Hp} {a b : Addr} {xs ys : List V} {Q : VK}
theorem slA_of {lo hi : Option Int} (h : SqT K H a xs) (nt : NoT H) (q : ∀ p H', Same H H' → NoT H' → SqT K H' p (cutV xs lo hi) → Q (.ref p) H') : rSlA K (.ref a) lo hi H Q :=
  ⟨a, xs, rfl, h, fun e => q a H (Same.refl _) nt (by rw [cutV_whole e]; exact h), fun _ p hp => q p _ (same_new hp) nt.tup (SqT.of upd_same)⟩
theorem catA_of (h1 : SqT K H a xs) (h2 : SqT K H b ys) (hz : xs.length + ys.length ≤ sizeLine) (nt : NoT H) (q : ∀ p H', Same H H' → NoT H' → SqT K H' p (xs ++ ys) → Q (.ref p) H') : L2.rCatA K (.ref a) (.ref b) H Q :=
  ⟨a, b, xs, ys, rfl, rfl, h1, h2, hz, fun e => q b H (Same.refl _) nt (by subst e; exact h2), fun _ e => q a H (Same.refl _) nt (by subst e; rw [List.append_nil]; exact h1), fun _ _ p hp => q p _ (same_new hp) nt.tup (SqT.of upd_same)⟩
end
theorem paired_take {α β : Type} {F : α → β → Prop} : ∀ {l : List α} {m : List β} (k : Nat), Paired F l m → Paired F (l.take k) (m.take k)
  | _, _, 0, _ => .nil
  | _, _, _ + 1, .nil => .nil
  | _, _, k + 1, .cons r t => .cons r (paired_take k t)
theorem paired_drop {α β : Type} {F : α → β → Prop} : ∀ {l : List α} {m : List β} (k : Nat), Paired F l m → Paired F (l.drop k) (m.drop k)
  | _, _, 0, h => h
  | _, _, _ + 1, .nil => .nil
  | _, _, k + 1, .cons _ t => paired_drop k t
theorem paired_rev {α β : Type} {F : α → β → Prop} : ∀ {l : List α} {m : List β}, Paired F l m → Paired F l.reverse m.reverse
  | _, _, .nil => .nil
  | _, _, .cons r t => by
    rw [List.reverse_cons, List.reverse_cons]
    exact Paired.snoc r (paired_rev t)
theorem sm_tups {K : PySem.W.Frag} {H : Hp} {a b : Addr} {xs ys : List V} {Ls : List (List Int)} (h1 : SqL K H a xs) (k1 : Paired (TupL H) xs Ls) (h2 : SqL K H b ys) (k2 : Paired (TupL H) ys Ls) : Sm K H 3 (.ref a) (.ref b) := by
  refine .lst h1 h2 (by rw [Paired.length k1, Paired.length k2]) fun i x y hx hy => ?_
  obtain ⟨L, hL, p, rfl, hp⟩ := Paired.row k1 hx
  obtain ⟨M, hM, q, rfl, hq⟩ := Paired.row k2 hy
  rw [hL] at hM
  cases hM
  refine .tup (SqT.of hp) (SqT.of hq) rfl fun j u v hu hv => ?_
  rw [hu] at hv
  cases hv
  rw [List.getElem?_map] at hu
  cases e : L[j]? with
  | none => rw [e] at hu; cases hu
  | some n =>
    rw [e] at hu
    cases hu
    exact .int _ _
theorem sh_tup1 (L : List Int) : SeqAt.shaped (tupD L) = true := sh_tints L
theorem any_tups (L : List Int) : ∀ Ms : List (List Int), ((Ms.map tupD).any fun z => PyData.eqv z (tupD L)) = decide (L ∈ Ms)
  | [] => by simp
  | M :: Ms => by
    have e : PyData.eqv (tupD M) (tupD L) = decide (M = L) := by
      unfold tupD
      rw [← eqv_ints]
      simp only [PyData.eqv]
    rw [List.map_cons, List.any_cons, e, any_tups L Ms]
    by_cases c : M = L
    · subst c; simp
    · have c' : ¬ L = M := fun z => c z.symm
      simp [c, c']
/-- [(y, f y) for y in ys] -/
theorem lc_pairs {K : PySem.W.Frag} {a : Addr} {ns : List Int} {f : Int → Int} {g : Nat} {te : TE} {vs : List Nat} {σ : L2.St} {H : Hp} {D : Addr} {Qd : Hp → Prop} (hS : SqL K H a (ns.map V.int)) (nt : NoT H) (hD : H D = none) (hl : ns.length < 100000)
    (hw : ∀ x, wipe ((wipe σ vs).set g (some x)) vs = wipe σ vs)
    (he : ∀ n H', n ∈ ns → Same H H' → ∀ Q : VK, (∀ p, H' p = none → Q (.ref p) (upd H' p (.tup [.int n, .int (f n)]))) → te ((wipe σ vs).set g (some (.int n))) H' Q)
    (hd : ∀ xs H', Same H H' → NoT H' → H' D = some (.lst xs) → Paired (RowI K H') xs (ns.map fun n => (n, f n)) → Qd H') :
    ∃ W : Nat → Nat → Hp → Prop, (∃ m, W 0 m (upd H D (.lst []))) ∧ ∀ i m H, W i m H →
      ((Itl K a).stop i H ∧ Qd H) ∨ ((Itl K a).go i H ∧ ∃ Nx : Hp → Prop, (∀ H', Nx H' → ∃ m', m' < m ∧ W (i + 1) m' H') ∧ ∀ x H', (Itl K a).yld i H x H' → gName g x (wipe σ vs) H' fun σ2 H2 => wipe σ2 vs = wipe σ vs ∧ tYes σ2 H2 fun b H3 =>
        if b = true then te σ2 H3 fun y H4 => ∃ acc, H4 D = some (.lst acc) ∧ acc.length < sizeLine ∧ Nx (upd H4 D (.lst (acc ++ [y]))) else Nx H3) := by
  refine lc_list (xs := ns.map V.int) (fun i H' => ∃ xs, Same H H' ∧ NoT H' ∧ H' D = some (.lst xs) ∧ Paired (RowI K H') xs ((ns.map fun n => (n, f n)).take i)) ⟨[], same_new hD, nt.lst, upd_same, .nil⟩ (fun i H' _ p => by obtain ⟨xs, s, _⟩ := p; exact Same.l s hS) (fun i x H' hx p => ?_) (fun H' p => ?_)
  · obtain ⟨xs, s1, nt1, h1, hP⟩ := p
    rw [List.getElem?_map] at hx
    cases q : ns[i]? with
    | none => rw [q] at hx; cases hx
    | some n =>
      rw [q] at hx
      cases hx
      refine ⟨hw _, ?_⟩
      show te _ _ _
      refine he n _ (List.mem_of_getElem? q) s1 _ fun p hp => ?_
      have sp := same_new (o := .tup [.int n, .int (f n)]) hp
      have gr : Gr D H' (upd (upd H' p (.tup [.int n, .int (f n)])) D (.lst (xs ++ [.ref p]))) := ((Gr.refl h1).new hp rfl).put
      have xl : xs.length ≤ i := by
        rw [Paired.length hP, List.length_take]
        omega
      have il : i < ns.length := (List.getElem?_eq_some_iff.mp q).1
      refine ⟨xs, sp _ _ h1, sz_small (by omega), xs ++ [.ref p], fun b o e => gr.keep b o (ne_of_none e hD) (s1 b o e), (nt1.tup).lst, upd_same, ?_⟩
      rw [List.take_succ, List.getElem?_map, q]
      refine Paired.snoc ⟨p, rfl, SqT.of ?_⟩ (Paired.mapP hP fun _ _ r => r.gr gr)
      rw [upd_ne (ne_of_none h1 hp).symm, upd_same]
  · obtain ⟨xs, s1, nt1, h1, hP⟩ := p
    rw [List.length_map, List.take_of_length_le (by rw [List.length_map]; exact Nat.le_refl _)] at hP
    exact hd xs H' s1 nt1 h1 hP
/-! ### the years that are drawn -/
theorem years_of {ms ns : List Int} {far : Int} (hf : 0 < far) (hm : ∀ m ∈ ms, -far ≤ m ∧ m ≤ far) (hp : ns.Pairwise (· < ·)) (hn : ∀ k : Int, k ∈ ns ↔ decide (k ∈ ms ++ [-far, far]) = true) :
    2 ≤ (ns.take 6).length ∧ (ns.take 6).length ≤ 6 ∧ (ns.take 6).Pairwise (· < ·) ∧ ∀ y ∈ ns.take 6, -far ≤ y ∧ y ≤ far := by
  have h1 : -far ∈ ns := (hn _).mpr (decide_eq_true (by simp))
  have h2 : far ∈ ns := (hn _).mpr (decide_eq_true (by simp))
  have l2 : 2 ≤ ns.length := by
    match ns, h1, h2 with
    | [x], h1, h2 =>
      rw [List.mem_singleton] at h1 h2
      omega
    | _ :: _ :: _, _, _ => simp
  refine ⟨by rw [List.length_take]; omega, by rw [List.length_take]; omega, hp.take, fun y hy => ?_⟩
  have hy := of_decide_eq_true ((hn y).mp (List.mem_of_mem_take hy))
  rcases List.mem_append.mp hy with h | h
  · exact hm y h
  · simp only [List.mem_cons, List.not_mem_nil, or_false] at h
    rcases h with rfl | rfl <;> omega
end Ly
set_option Elab.async false
set_option linter.all false
set_option maxRecDepth 100000
set_option maxHeartbeats 4000000
/-! a class with its own == and its own length -/
namespace Ly
open PySem PySem.Spec PyProof.Rows L2
structure Rq (K : PySem.W.Frag) (C : Addr) : Prop where
  cls : PySem.W.findIn K (.ref C) "__class__" = some (some (.builtin "object.__class__"))
  get : PySem.W.specialIn K (.builtin "object.__class__") "__get__" = some (some (.builtin "getset_descriptor.__get__"))
  tk : PySem.W.takesIn K (.builtin "object.__class__") = some true
  mro : PySem.W.mroIn K C (.type "object") = some true
  nl : PySem.W.kitOne K (.type "list") (.ref C) = some false
  nf : PySem.W.notFirst K C (.type "list") = true
theorem ty_ins {K : PySem.W.Frag} {H : Hp} {C a dx : Addr} {fs : List (Str × V)} (q : Rq K C) (c : Cls K C) (e : H a = some (.ins C dx fs)) : TyX K H (.ref a) (.ref C) := .base (.ins e c q.cls q.get q.tk q.mro)
theorem kit_self {K : PySem.W.Frag} {C : Addr} : PySem.W.kitOne K (.ref C) (.ref C) = some true := by
  unfold PySem.W.kitOne
  rw [if_pos (beq_self_eq_true _)]
section
variable {X : Cx} {CX : CXT} {k j : Nat} {ps : List Str} {sp : Sp} {E : XK} {m : Str} {apos pos : Pos} {o : Expr} {ta : TE} {C : Addr}
theorem pe_meth0D {pl : Sem Bool} (D : Dm X.prog X.w X.K X.mg X.base CX C m k ps sp) (c : Cls X.K C) (hr : Room j X.A) (hj : k ≤ j) (hx : Passes CX X E) (he : PE X o ta)
    (ht : eval (.Call (.Attribute o m apos) [] [] pos) X.env = (do
      let ov ← eval o X.env
      standAt apos.atName
      let (f, first) ← holding [ov] (getMethod ov m pl)
      callWith pos f first (backTo pos (starEach [] X.env)) (backToKw pos (keywordEach [] X.env))) := by rfl) :
    PE X (.Call (.Attribute o m apos) [] [] pos) (tMeth C m sp [] E ta tNil) := by
  obtain ⟨f, fd, F, hm, hb⟩ := D
  exact pe_meth0 he c hm F (hr.mono hj) hb .nil hx ht
/-- x == y, the class's own -/
def rEqO (C : Addr) (sp : Sp) (E : XK) : R2 := fun x y H Q => ∃ a dx fs, x = .ref a ∧ H a = some (.ins C dx fs) ∧ ((∃ b dy gs, y = .ref b ∧ H b = some (.ins C dy gs)) ∨ ∃ b ys, y = .ref b ∧ H b = some (.lst ys)) ∧
  sp [x, y] H (fun v H' => ∃ c, v = .bl c ∧ Q (.bl c) H') E
theorem op_eqO (D : Dm X.prog X.w X.K X.mg X.base CX C "__eq__" k ps sp) (q : Rq X.K C) (hr : Room j X.A) (hj : k ≤ j) (hx : Passes CX X E) : OpR X (compareOp .Eq) (rEqO C sp E) := by
  intro pins s σ H x y u v Q I rx ry h
  obtain ⟨f, fd, F, hm, hb⟩ := D
  obtain ⟨a, dx, fs, rfl, ha, hy, hsp⟩ := h
  obtain rfl : u = Value.ref a := rx
  obtain ⟨mA, J, _⟩ := ins_get I.hok ha
  obtain ⟨od, J, _⟩ := J.look
  obtain ⟨m, hF⟩ := I.fr
  show wpAny (model X.prog X.w) X.A (richCompare .Eq (.ref a) v) (EP X pins σ Q) X.xe s
  obtain ⟨tb, hl, hn⟩ : ∃ tb, PySem.W.Looks (model X.prog X.w) s.heap (typeOf v) tb ∧ PySem.W.notFirst X.K C tb = true := by
    rcases hy with ⟨b, dy, gs, rfl, hb'⟩ | ⟨b, ys, rfl, hb'⟩
    · obtain rfl : v = Value.ref b := ry
      obtain ⟨mB, J', _⟩ := ins_get I.hok hb'
      obtain ⟨od', J', _⟩ := J'.look
      exact ⟨.ref C, J'.type, by simp [PySem.W.notFirst]⟩
    · obtain rfl : v = Value.ref b := ry
      obtain ⟨_, its, _, n, e⟩ := I.hok _ _ hb'
      exact ⟨.type "list", (PySem.W.Looks.ld e).andThen .now, q.nf⟩
  refine PySem.W.cmp_K (op := .Eq) (tb := tb) (hr.mono hj).units0 hF I.ok.mod.kin J hl hn hm.at_ hm.fn ?_
  refine wpAny_mono (run_fn (us := [.ref a, v]) (vs := [.ref a, y]) F (hr.mono hj) hb .nil hx I (.cons rfl (.cons ry .nil)) hsp) (fun r s' z => ?_) fun _ _ e => e
  obtain ⟨vv, H', I', rv, c, rfl, qq⟩ := z
  obtain rfl : r = Value.bool c := rv
  exact ⟨.bl c, H', I', rfl, qq⟩
/-- len(x), the class's own -/
def rLenO (C : Addr) (sp : Sp) (E : XK) : List V → Hp → VK → Prop := fun vs H Q => ∃ a dx fs, vs = [.ref a] ∧ H a = some (.ins C dx fs) ∧ sp [.ref a] H (fun v H' => ∃ n : Int, v = .int n ∧ 0 ≤ n ∧ n < 1000000 ∧ Q (.int n) H') E
theorem call_lenO (D : Dm X.prog X.w X.K X.mg X.base CX C "__len__" k ps sp) (hr : Room j X.A) (hj : k + 1 ≤ j) (hx : Passes CX X E) : CallR X (.builtin "len") (rLenO C sp E) := by
  intro pins s σ H vs us Q I r h
  obtain ⟨f, fd, F, hm, hb⟩ := D
  obtain ⟨a, dx, fs, rfl, ha, hsp⟩ := h
  obtain ⟨u, rfl, ru⟩ := vals1 r
  obtain rfl : u = Value.ref a := ru
  obtain ⟨mA, J, _⟩ := ins_get I.hok ha
  obtain ⟨od, J, _⟩ := J.look
  obtain ⟨m, hF⟩ := I.fr
  refine PySem.W.len_K hF I.ok.mod.kin J hm.at_ hm.fn ?_
  have e0 : Env0 X.prog X.w X.K X.mg X.base X.A.in1 X.stack s H := by
    have e := I.env0
    exact ⟨e.frames, e.mod, e.bs, e.bsz, e.funs, e.frf, e.hok, e.bare⟩
  have hl := F.len _ _ _ _ hsp
  refine wpAny_call (codeAny_mono (F.run X.A.in1 X.stack s H ⟨[.ref a], []⟩ [.ref a] [.ref a] _ E (Room.in1 (hr.mono hj)) e0 (by
    have := hb s [.ref a] I.kIn (by simpa using hl)
    simpa using this) (.cons rfl .nil) hsp) fun r s' hq => ?_)
  cases r with
  | error e => exact hx pins σ H s e s' I hq
  | ok fl =>
    cases fl with
    | ret v =>
      obtain ⟨z, H', I', rz, n, rfl, n0, n1, qq⟩ := I.after hq
      obtain ⟨tk, rfl⟩ := (show ∃ t, v = Value.int n t from rz)
      exact ⟨⟨n0, by omega⟩, .int n, H', I'.tok _, ⟨_, rfl⟩, qq⟩
    | next => exact False.elim hq
    | brk => exact False.elim hq
    | cont => exact False.elim hq
end
end Ly
set_option Elab.async false
set_option linter.all false
set_option maxRecDepth 100000
set_option maxHeartbeats 4000000
/-! rows of realms as data -/
namespace Ly
open PySem PySem.Spec PyProof.Rows L2
def oD : Option Int → PyData
  | none => .none
  | some n => .int n
def l4 (L : L4) : List Int := [L.1, L.2.1, L.2.2.1, L.2.2.2]
def rowD (r : RwL) : PyData := .tuple [oD r.1, tupD (l4 r.2)]
theorem dp_o {K : PySem.W.Frag} {H : Hp} : ∀ o : Option Int, Dp K H (oV o) (oD o)
  | none => .non
  | some n => .int n
theorem dp_row {K : PySem.W.Frag} {H : Hp} {v : V} {r : RwL} (h : RowAt K H v r) : Dp K H v (rowD r) := by
  obtain ⟨p, q, rfl, h1, h2, _⟩ := h
  exact .tup h1 (.cons (dp_o _) (.cons (.tup (show SqT K H q ((l4 r.2).map V.int) from h2) (dp_ints _)) .nil))
theorem dp_rowsL {K : PySem.W.Frag} {H : Hp} : ∀ {vs : List V} {R : List RwL}, Paired (RowAt K H) vs R → DpAll K H vs (R.map rowD)
  | _, _, .nil => .nil
  | _, _, .cons r t => .cons (dp_row r) (dp_rowsL t)
theorem lay_row (r : RwL) : PyData.canLay0 (rowD r) = true := by
  obtain ⟨o, L⟩ := r
  cases o <;> simp [rowD, oD, tupD, PyData.canLay0, PyData.canLayAll0, PySem.W.ke_canLayAll0]
theorem lay_rows : ∀ R : List RwL, PyData.canLayAll0 (R.map rowD) = true
  | [] => by simp [PyData.canLayAll0]
  | r :: R => by simp [PyData.canLayAll0, lay_row, lay_rows R]
theorem dep_row (r : RwL) : PyData.depth (rowD r) ≤ 2 := by
  obtain ⟨o, L⟩ := r
  cases o <;> simp [rowD, oD, tupD, PyData.depth, PyData.depthAll, PySem.W.ke_depthAll]
theorem dep_rows : ∀ R : List RwL, PyData.depthAll (R.map rowD) ≤ 2
  | [] => by simp [PyData.depthAll]
  | r :: R => by
    have := dep_rows R
    have := dep_row r
    simp only [List.map_cons, PyData.depthAll]
    omega
theorem sh_rows (R : List RwL) : SeqAt.shaped (.list (R.map rowD)) = true := by
  have := dep_rows R
  simp only [SeqAt.shaped, PyData.canLay0, PyData.depth, lay_rows, Bool.true_and]
  exact decide_eq_true (by omega)
theorem eqv_row (r : RwL) : PyData.eqv (rowD r) (rowD r) = true := by
  obtain ⟨o, L⟩ := r
  have e : PyData.eqv (tupD (l4 L)) (tupD (l4 L)) = true := by
    unfold tupD
    rw [show PyData.eqv (.tuple ((l4 L).map PyData.int)) (.tuple ((l4 L).map PyData.int)) = PyData.eqvAll ((l4 L).map PyData.int) ((l4 L).map PyData.int) by simp only [PyData.eqv], eqv_ints]
    exact decide_eq_true rfl
  have e0 : PyData.eqv (oD o) (oD o) = true := by
    cases o with
    | none => simp [oD, PyData.eqv]
    | some n => exact ev_int n
  show PyData.eqv (.tuple [oD o, tupD (l4 L)]) (.tuple [oD o, tupD (l4 L)]) = true
  simp only [PyData.eqv, PyData.eqvAll, e, e0, Bool.and_self]
theorem eqv_rows_same : ∀ R : List RwL, PyData.eqvAll (R.map rowD) (R.map rowD) = true
  | [] => by simp [PyData.eqvAll]
  | r :: R => by simp only [List.map_cons, PyData.eqvAll, eqv_row, eqv_rows_same R, Bool.and_self]
theorem eqv_len : ∀ {l m : List PyData}, l.length ≠ m.length → PyData.eqvAll l m = false
  | [], [], h => absurd rfl h
  | [], _ :: _, _ => by simp [PyData.eqvAll]
  | _ :: _, [], _ => by simp [PyData.eqvAll]
  | x :: l, y :: m, h => by
    have := eqv_len (l := l) (m := m) (by simpa using h)
    simp only [PyData.eqvAll, this, Bool.and_false]
/-- two lists of rows compared -/
theorem eq_rowsL {K : PySem.W.Frag} {H : Hp} {a b : Addr} {xs ys : List V} {R S : List RwL} {Q : VK} (h1 : SqL K H a xs) (k1 : Paired (RowAt K H) xs R) (h2 : SqL K H b ys) (k2 : Paired (RowAt K H) ys S) (hd : R = S ∨ R.length ≠ S.length)
    (qt : R = S → Q (.bl true) H) (qf : R.length ≠ S.length → Q (.bl false) H) : rEqD K (.ref a) (.ref b) H Q := by
  refine ⟨_, _, .lst h1 (dp_rowsL k1), .lst h2 (dp_rowsL k2), sh_rows _, sh_rows _, ?_⟩
  rcases hd with rfl | hd
  · rw [show PyData.eqv (.list (R.map rowD)) (.list (R.map rowD)) = true by simp only [PyData.eqv, eqv_rows_same]]
    exact qt rfl
  · rw [show PyData.eqv (.list (R.map rowD)) (.list (S.map rowD)) = false by simp only [PyData.eqv]; exact eqv_len (by simpa using hd)]
    exact qf hd
theorem sm_row {K : PySem.W.Frag} {H : Hp} {v u : V} {r : RwL} (h : RowAt K H v r) (h' : RowAt K H u r) : Sm K H 2 v u := by
  obtain ⟨p, q, rfl, h1, h2, _⟩ := h
  obtain ⟨p', q', rfl, h1', h2', _⟩ := h'
  have so : ∀ o : Option Int, Sm K H 1 (oV o) (oV o) := fun o => by
    cases o with
    | none => exact .non _
    | some n => exact .int _ _
  refine .tup h1 h1' rfl fun i x y hx hy => ?_
  match i, hx, hy with
  | 0, hx, hy => cases hx; cases hy; exact so _
  | 1, hx, hy =>
    cases hx; cases hy
    refine .tup h2 h2' rfl fun j u v hu hv => ?_
    rw [hu] at hv
    cases hv
    match j, hu with
    | 0, hu => cases hu; exact .int _ _
    | 1, hu => cases hu; exact .int _ _
    | 2, hu => cases hu; exact .int _ _
    | 3, hu => cases hu; exact .int _ _
    | _ + 4, hu => cases hu
  | _ + 2, hx, _ => cases hx
theorem sm_rows {K : PySem.W.Frag} {H : Hp} {a b : Addr} {xs ys : List V} {R : List RwL} (h1 : SqL K H a xs) (k1 : Paired (RowAt K H) xs R) (h2 : SqL K H b ys) (k2 : Paired (RowAt K H) ys R) : Sm K H 3 (.ref a) (.ref b) := by
  refine .lst h1 h2 (by rw [Paired.length k1, Paired.length k2]) fun i x y hx hy => ?_
  obtain ⟨r, hr, h⟩ := Paired.row k1 hx
  obtain ⟨r', hr', h'⟩ := Paired.row k2 hy
  rw [hr] at hr'
  cases hr'
  exact sm_row h h'
end Ly
set_option Elab.async false
set_option linter.all false
set_option maxRecDepth 100000
set_option maxHeartbeats 4000000
/-! a lambda handed to _law_try that may change things and make new ones -/
namespace Ly
open PySem PySem.Spec PyProof.Rows L2 LamX
/-- all that H' says (but the frozen ones) -/
def KeptA (H' H2 : Hp) : Prop := ∀ b o, H' b = some o → (∀ ob, o ≠ fz ob) → H2 b = some o
/-- the frame's cells are no tracked things behind an expression -/
theorem pe_free {X : Cx} {e : Expr} {t : TE} (h : PE X e t) : PE X e (fun σ H Q => t σ H fun v H' => (∀ b, cellD X.env.cells b → H' b = none) → Q v H') := by
  refine ⟨fun pins s σ H Q I q => thn (h.run pins s σ H _ I q) fun v s1 z => ?_⟩
  obtain ⟨x, H1, I1, r1, q1⟩ := z
  exact ⟨x, H1, I1, r1, q1 fun b ⟨y, e⟩ => I1.freeC y b e⟩
def tTryLam2 (K : PySem.W.Frag) (mg : Str → Option Value) (T : List (Addr × Str)) (t : XK → TE) : TE := fun σ H Q => NoT H ∧ Tabs T H ∧ ∀ Hb, ExtN H Hb → Tabs T Hb → NoT Hb → ∀ (E' : XK) (Q' : VK),
  (∀ D dn H', Rf K mg D dn → NoT H' → (∀ H2, KeptZ Hb H' H2 → NoT H2 → Q (.str (kinS dn)) H2) → E' (.ref D) none H') → (∀ v H', NoT H' → (∀ b ob, Hb b = some (fz ob) → H' b = some (fz ob)) → (∀ H2 p, KeptA H' H2 → NoT H2 → H2 p = some (.tup [.str "told", v]) → Q (.ref p) H2) → Q' v H') → t E' σ Hb Q'
section
variable {X : Cx} {T : List (Addr × Str)} {c P : Addr} {params : Arguments} {body : Expr} {scope : Scope} {p lpos pos : Pos} {k j i : Nat} {t : XK → TE}
theorem pe_tryLam2 (D : Df X.prog X.w X.K X.mg X.base CX0 "_law_try" j ["door"] (sp_law_try X.prog X.w X.K X.mg X.base (k + 1))) (hr : Room i X.A) (hj : j ≤ i) (hg : Gl X "_law_try") (hca : ∀ y c, X.env.cells.lookup y = some c → X.s_0.heap.objs.size ≤ c)
    (TB : TabB X.base X.mg c P) (hcode : X.env.code = .ref c) (hm : (P, X.env.qual ++ "<lambda>") ∈ T) (hu : ∀ p ∈ T, p.1 = P → p.2 = X.env.qual ++ "<lambda>") (hdef : defaultsOf params X.env = ([], [])) (LS : LamS X.env.scope scope)
    (hbind : ∀ (q : Str) (cl : List (Str × Addr)) (pm cv ctv : Value), bindArgs (PySem.W.kla_fn "<lambda>" q params body scope cl pm cv ctv) ⟨[], []⟩ = pure [])
    (hbody : ∀ (cl : List (Str × Addr)) (f c' : Addr) (A : Around) (outer : List Env) (s : Shared) (H : Hp) (E : XK), Room k (A.deeper (PySem.W.envX (X.env.qual ++ "<lambda>") scope s.heap.objs.size f (.ref c') cl)) → PE (clCx X.prog X.w X.K X.mg X.base X.N (X.env.qual ++ "<lambda>") scope cl f c' A outer s H E) body (t E)) :
    PE X (.Call (.Name "_law_try" p) [.Lambda params body scope lpos] [] pos) (tTryLam2 X.K X.mg T t) := by
  refine ⟨fun pins s σ H Q I h => ?_⟩
  refine (pe_callLend (e := .Lambda params body scope lpos) (es := []) (p := p) (pos := pos) D hr hj hg hca (pa_cons (pe_lam TB hcode hm hu hdef LS) pa_nil)).run pins s σ H Q I ?_
  obtain ⟨nt, hT, h⟩ := h
  refine ⟨hT, fun f c' pm ctv H1 eN T1 n1 hfn hco Hc L => ?_⟩
  have ntf : NoT (upd H1 f (fz (lamO (X.env.qual ++ "<lambda>") params body scope (cloFrom X.env.cells scope.names []) pm c' ctv))) := (n1 nt).upd (pl_fz _)
  have sf : ∀ b o, H1 b = some o → upd H1 f (fz (lamO (X.env.qual ++ "<lambda>") params body scope (cloFrom X.env.cells scope.names []) pm c' ctv)) b = some o := fun b o e => by rw [upd_ne (ne_of_none e hfn)]; exact e
  have C := clo_of (q := X.env.qual ++ "<lambda>") L LS upd_same (sf _ _ hco)
  have LT : LamT scope := ⟨LS.kind, LS.co, LS.gen, LS.own⟩
  generalize upd H1 f (fz (lamO (X.env.qual ++ "<lambda>") params body scope (cloFrom X.env.cells scope.names []) pm c' ctv)) = Hf at L sf ntf
  have subD : ∀ b, cellD (cloFrom X.env.cells scope.names []) b → cellD X.env.cells b := fun b ⟨y, e⟩ => ⟨y, clo_mem LS L.ok e⟩
  generalize cloFrom X.env.cells scope.names [] = cl at C subD
  have nc : ∀ b, cellD X.env.cells b → ∃ o, Hc b = some (fz o) := fun b d => L.put.frz b d
  have ntc : NoT Hc := fun b o e => by
    by_cases d : cellD X.env.cells b
    · obtain ⟨ob, q⟩ := nc b d
      rw [q] at e
      cases e
      rfl
    · rw [← L.put.out b d] at e
      exact ntf b o e
  have up : ∀ b o, H1 b = some o → ovr (cellD cl) (fun _ => none) Hc b = some o := fun b o e => by
    obtain ⟨e', d⟩ := L.put.sub (sf b o e)
    rw [ovr_out fun z => d (subD b z)]
    exact e'
  refine ⟨f, fun Q E => t (fun cls d H' => E cls d (ovr (cellD cl) Hc H')) σ (ovr (cellD cl) (fun _ => none) Hc) (fun v H' => (∀ b, cellD cl b → H' b = none) → Q v (ovr (cellD cl) Hc H')), rfl, ⟨?_, fun A outer s Q E hr' e0 q => clo_run LT L.len (fun pm cv ctv => hbind _ _ pm cv ctv) (t := fun E σ H Q => t E σ H fun v H' => (∀ b, cellD cl b → H' b = none) → Q v H') (fun c' A outer s H E hr2 => pe_free (hbody cl f c' A outer s H E hr2)) hr' e0 C q⟩, ?_⟩
  · obtain ⟨⟨pm, c2, ctv, e, _⟩, _⟩ := C
    exact ⟨_, e, _, rfl⟩
  · have key : ∀ H' H'', Same (ovr (cellD cl) Hc H') H'' → KeptZ (ovr (cellD cl) (fun _ => none) Hc) H' (ovr (cellD X.env.cells) (fun _ => none) H'') := fun H' H'' s b o o' e1 e2 e3 => by
      have d1 : ¬ cellD cl b := fun d => by rw [ovr_in d] at e1; cases e1
      rw [ovr_out d1] at e1
      have d2 : ¬ cellD X.env.cells b := fun d => by
        obtain ⟨ob, q⟩ := nc b d
        rw [q] at e1
        exact e2 ob (Option.some.inj e1).symm
      rw [ovr_out d2]
      exact s b o (by rw [ovr_out d1]; exact e3)
    intro Q' E' hQ hE
    refine h (ovr (cellD cl) (fun _ => none) Hc) (fun b o e n => up b o (eN b o e n)) (T1.ext up) (noT_ovr noT_none ntc) _ _ (fun D dn H' hRf n' hq => hE D dn _ hRf (noT_ovr ntc n') fun H2 s2 n2 => hq _ (key H' H2 s2) (noT_ovr noT_none n2)) fun v H' n' hfz hq fr => hQ v _ fun p hp => ?_
    have nd : ¬ cellD X.env.cells p := fun d => by
      obtain ⟨ob, q⟩ := nc p d
      by_cases d1 : cellD cl p
      · rw [ovr_in d1, q] at hp
        cases hp
      · rw [ovr_out d1, hfz p ob (by rw [ovr_out d1]; exact q)] at hp
        cases hp
    refine hq _ p (fun b o e1 e2 => ?_) (noT_ovr noT_none ((noT_ovr ntc n').upd rfl)) (by rw [ovr_out nd, upd_same])
    have d1 : ¬ cellD cl b := fun d => by rw [fr b d] at e1; cases e1
    have d2 : ¬ cellD X.env.cells b := fun d => by
      obtain ⟨ob, q⟩ := nc b d
      have := hfz b ob (by rw [ovr_out d1]; exact q)
      rw [e1] at this
      exact e2 ob (Option.some.inj this)
    have k : ovr (cellD cl) Hc H' b = some o := by rw [ovr_out d1]; exact e1
    rw [ovr_out d2, upd_ne (ne_of_none k hp)]
    exact k
end
end Ly
set_option Elab.async false
set_option linter.all false
set_option maxRecDepth 100000
set_option maxHeartbeats 4000000
/-! a realm's rows: plain mathematics -/
namespace Ly
open PySem PySem.Spec PyProof.Rows L2
theorem noPart {σ : L2.St} {H : Hp} {Q : Option Int → Hp → Prop} (h : Q none H) : tNoPart σ H Q := h
theorem flt_pre {α : Type} {p : α → Bool} : ∀ {l : List α}, l.Pairwise (fun a b => p b = true → p a = true) → l.filter p = l.take (l.filter p).length
  | [], _ => rfl
  | x :: l, h => by
    have h' := List.pairwise_cons.mp h
    by_cases c : p x = true
    · rw [List.filter_cons_of_pos c, List.length_cons, List.take_succ_cons, ← flt_pre h'.2]
    · have e : l.filter p = [] := by
        rw [List.filter_eq_nil_iff]
        intro b hb z
        exact c (h'.1 b hb z)
      rw [List.filter_cons_of_neg c, e]
      rfl
/-- rows as they come by deeds -/
structure RowsS (R : List RwL) : Prop where
  hd : ∃ L r, R = (none, L) :: r
  inc : R.Pairwise (fun a b => ∃ n, b.1 = some n ∧ ∀ m, a.1 = some m → m < n)
  ok : ∀ r ∈ R, OkL r.2
  far : ∀ r ∈ R, ∀ n, r.1 = some n → -1000000000 ≤ n ∧ n ≤ 1000000000
theorem land_at {R : List RwL} (h : RowsS R) (n : Int) : ∃ (j : Nat) (r : RwL), landOf R n = (j : Int) ∧ R[j]? = some r ∧ (R.filter (Ly.inR n)).getLast? = some r ∧ OkL r.2 := by
  have pre := flt_pre (p := Ly.inR n) (l := R) (h.inc.imp fun {a b} z hb => by
    obtain ⟨m, e, hm⟩ := z
    obtain ⟨o, L⟩ := a
    obtain ⟨o', L'⟩ := b
    cases e
    cases o with
    | none => rfl
    | some k =>
      have := hm k rfl
      have hb : m ≤ n := of_decide_eq_true hb
      exact decide_eq_true (show k ≤ n by omega))
  obtain ⟨L, r, rfl⟩ := h.hd
  have l1 : 1 ≤ ((((none : Option Int), L) :: r).filter (Ly.inR n)).length := by
    rw [List.filter_cons_of_pos (show Ly.inR n (none, L) = true from rfl), List.length_cons]
    omega
  have le := List.length_filter_le (Ly.inR n) (((none : Option Int), L) :: r)
  generalize hR : ((none : Option Int), L) :: r = R at pre l1 le h ⊢
  generalize hk : (R.filter (Ly.inR n)).length = k at pre l1 le
  have lt : k - 1 < R.length := by omega
  refine ⟨k - 1, R[k - 1], ?_, List.getElem?_eq_getElem lt, ?_, h.ok _ (List.getElem_mem lt)⟩
  · unfold landOf
    rw [hk]
    omega
  · rw [List.getLast?_eq_getElem?, hk, pre, List.getElem?_take_of_lt (by omega)]
    exact List.getElem?_eq_getElem lt
theorem hit_iff {R : List RwL} {y pl : Int} {i : Nat} {r : RwL} (hk : OkL r.2) (hp : 0 ≤ pl) : hitR R y pl i r = true ↔ pl < fdL r.2 (y + 1) - fdL r.2 y ∧ landOf R (fdL r.2 y + pl) = (i : Int) := by
  obtain ⟨o, d, t, b, s⟩ := r
  have hk : LandOk d t b s := hk
  unfold hitR
  rw [Bool.and_eq_true, decide_eq_true_iff, decide_eq_true_iff]
  show (yof d t b s (fday d t b s y + pl) = y ∧ fday d t b s y + pl - fday d t b s (yof d t b s (fday d t b s y + pl)) = pl) ∧ _ ↔ pl < fday d t b s (y + 1) - fday d t b s y ∧ _
  constructor
  · rintro ⟨⟨h1, h2⟩, h3⟩
    refine ⟨?_, h3⟩
    have := yof_high hk (fday d t b s y + pl)
    rw [h1] at this
    omega
  · rintro ⟨h1, h3⟩
    have e := yof_eq hk (y := y) (m := fday d t b s y + pl) (by omega) (by omega)
    refine ⟨⟨e, ?_⟩, h3⟩
    rw [e]
    omega
theorem mem_dayR {R : List RwL} {y pl x : Int} : ∀ {i : Nat}, x ∈ dayR R y pl i ↔ ∃ j r, j < i ∧ R[j]? = some r ∧ hitR R y pl j r = true ∧ x = fdL r.2 y + pl
  | 0 => by
    constructor
    · intro h; exact absurd (show x ∈ ([] : List Int) from h) (by simp)
    · rintro ⟨j, r, h, _⟩; omega
  | i + 1 => by
    have ih := mem_dayR (R := R) (y := y) (pl := pl) (x := x) (i := i)
    have back : (∃ j r, j < i ∧ R[j]? = some r ∧ hitR R y pl j r = true ∧ x = fdL r.2 y + pl) → ∃ j r, j < i + 1 ∧ R[j]? = some r ∧ hitR R y pl j r = true ∧ x = fdL r.2 y + pl := fun ⟨j, r, h1, h⟩ => ⟨j, r, by omega, h⟩
    unfold dayR
    cases e : R[i]? with
    | none =>
      show x ∈ dayR R y pl i ↔ _
      rw [ih]
      refine ⟨back, fun ⟨j, r, h1, h2, h3⟩ => ?_⟩
      by_cases c : j = i
      · subst c; rw [e] at h2; cases h2
      · exact ⟨j, r, by omega, h2, h3⟩
    | some r0 =>
      show x ∈ (if hitR R y pl i r0 = true then dayR R y pl i ++ [fdL r0.2 y + pl] else dayR R y pl i) ↔ _
      by_cases c : hitR R y pl i r0 = true
      · rw [if_pos c, List.mem_append, ih, List.mem_singleton]
        constructor
        · rintro (h | h)
          · exact back h
          · exact ⟨i, r0, by omega, e, c, h⟩
        · rintro ⟨j, r, h1, h2, h3, h4⟩
          by_cases cj : j = i
          · subst cj
            rw [e] at h2
            cases h2
            exact .inr h4
          · exact .inl ⟨j, r, by omega, h2, h3, h4⟩
      · rw [if_neg c, ih]
        refine ⟨back, fun ⟨j, r, h1, h2, h3, h4⟩ => ?_⟩
        by_cases cj : j = i
        · subst cj
          rw [e] at h2
          cases h2
          exact absurd h3 c
        · exact ⟨j, r, by omega, h2, h3, h4⟩
theorem hit_land {R : List RwL} {y pl : Int} {j : Nat} {r : RwL} (h : hitR R y pl j r = true) : landOf R (fdL r.2 y + pl) = (j : Int) := by
  unfold hitR at h
  rw [Bool.and_eq_true] at h
  exact of_decide_eq_true h.2
theorem dayR_nodup {R : List RwL} {y pl : Int} : ∀ i, (dayR R y pl i).Nodup
  | 0 => List.nodup_nil
  | i + 1 => by
    have ih := dayR_nodup (R := R) (y := y) (pl := pl) i
    unfold dayR
    cases e : R[i]? with
    | none => exact ih
    | some r0 =>
      show (if hitR R y pl i r0 = true then dayR R y pl i ++ [fdL r0.2 y + pl] else dayR R y pl i).Nodup
      by_cases c : hitR R y pl i r0 = true
      · rw [if_pos c, List.nodup_append]
        refine ⟨ih, by simp, fun a ha b hb => ?_⟩
        rw [List.mem_singleton] at hb
        subst hb
        rintro rfl
        obtain ⟨j, r, h1, h2, h3, h4⟩ := mem_dayR.mp ha
        have e1 := hit_land h3
        rw [← h4, hit_land c] at e1
        omega
      · rw [if_neg c]; exact ih
/-- what the law finds -/
def FndR (R : List RwL) (y pl : Int) (i : Nat) (x : Int) : Prop := ∃ j r r', j < i ∧ R[j]? = some r ∧ pl < fdL r.2 (y + 1) - fdL r.2 y ∧ (R.filter (Ly.inR x)).getLast? = some r' ∧ r'.2 = r.2 ∧ x = fdL r.2 y + pl
theorem fnd_day {R : List RwL} (h : RowsS R) {y pl x : Int} (hp : 0 ≤ pl) : FndR R y pl R.length x ↔ x ∈ dayR R y pl R.length := by
  rw [mem_dayR]
  constructor
  · rintro ⟨j, r, r', h1, h2, h3, h4, h5, h6⟩
    obtain ⟨k, r2, e1, e2, e3, e4⟩ := land_at h x
    rw [h4] at e3
    cases e3
    have hl := (List.getElem?_eq_some_iff.mp e2).1
    refine ⟨k, r', hl, e2, ?_, by rw [h5]; exact h6⟩
    rw [hit_iff e4 hp, h5]
    refine ⟨h3, ?_⟩
    rw [← h6]
    exact e1
  · rintro ⟨j, r, h1, h2, h3, h4⟩
    have hm := h.ok r (List.mem_of_getElem? h2)
    have ⟨g1, g2⟩ := (hit_iff hm hp).mp h3
    obtain ⟨k, r2, e1, e2, e3, e4⟩ := land_at h x
    rw [← h4, e1] at g2
    have ek : k = j := by omega
    subst ek
    rw [h2] at e2
    cases e2
    exact ⟨k, r, r, h1, h2, g1, e3, rfl, h4⟩
theorem days_same {R : List RwL} (h : RowsS R) {y pl : Int} (hp : 0 ≤ pl) {ns zs fs : List Int} (h1 : ns.Perm (dayR R y pl R.length)) (h2 : ns.Pairwise (· ≤ ·)) (h3 : zs.Pairwise (· < ·)) (h4 : ∀ k : Int, k ∈ zs ↔ decide (k ∈ fs) = true) (h5 : ∀ x, x ∈ fs ↔ FndR R y pl R.length x) : ns = zs := by
  have nd : zs.Nodup := h3.imp fun {a b} z => by omega
  have nn : ns.Nodup := h1.nodup_iff.mpr (dayR_nodup _)
  refine perm_srt ?_ h2 (h3.imp fun {a b} z => by omega)
  refine (List.perm_ext_iff_of_nodup nn nd).mpr fun x => ?_
  rw [h1.mem_iff, h4, decide_eq_true_iff, h5, fnd_day h hp]
theorem sm_ints {K : PySem.W.Frag} {H : Hp} {a b : Addr} {ns : List Int} (h1 : SqL K H a (ns.map V.int)) (h2 : SqL K H b (ns.map V.int)) : Sm K H 3 (.ref a) (.ref b) := by
  refine .lst h1 h2 rfl fun i x y hx hy => ?_
  rw [hx] at hy
  cases hy
  rw [List.getElem?_map] at hx
  cases e : ns[i]? with
  | none => rw [e] at hx; cases hx
  | some n =>
    rw [e] at hx
    cases hx
    exact .int _ _
theorem sm_pair {K : PySem.W.Frag} {H : Hp} {a b : Addr} {y n : Int} (h1 : SqT K H a [.int y, .int n]) (h2 : SqT K H b [.int y, .int n]) : Sm K H 3 (.ref a) (.ref b) := by
  refine .tup h1 h2 rfl fun i x z hx hy => ?_
  rw [hx] at hy
  cases hy
  match i, hx with
  | 0, hx => cases hx; exact .int _ _
  | 1, hx => cases hx; exact .int _ _
  | _ + 2, hx => cases hx
theorem mem_cutV {xs : List V} {lo hi : Option Int} {v : V} (h : v ∈ cutV xs lo hi) : v ∈ xs := by
  unfold cutV at h
  exact List.mem_of_mem_drop (List.mem_of_mem_take h)
/-- the place of a day in its year -/
theorem place_of {L : L4} (hk : OkL L) (n : Int) : 0 ≤ n - fdL L (yoL L n) ∧ n - fdL L (yoL L n) ≤ 400 := by
  obtain ⟨d, t, b, s⟩ := L
  have hk : LandOk d t b s := hk
  have h1 := yof_low hk n
  have h2 := yof_high hk n
  have h3 := flen2 hk (yof d t b s n)
  have hd := hk.1.2
  show 0 ≤ n - fday d t b s (yof d t b s n) ∧ n - fday d t b s (yof d t b s n) ≤ 400
  omega
theorem year_far {L : L4} (hk : OkL L) {n : Int} (h1 : -10000000000000000000000000000 ≤ n) (h2 : n ≤ 10000000000000000000000000000) : Far (yoL L n) ∧ Far (yoL L n + 1) := by
  obtain ⟨d, t, b, s⟩ := L
  have := yof_abs (show LandOk d t b s from hk) (m := n) (B := 10000000000000000000000000000) (by decide) h1 h2
  show (_ ≤ yof d t b s n ∧ yof d t b s n ≤ _) ∧ (_ ≤ yof d t b s n + 1 ∧ yof d t b s n + 1 ≤ _)
  omega
end Ly
set_option Elab.async false
set_option linter.all false
set_option maxRecDepth 100000
set_option maxHeartbeats 4000000
/-! a def that answers closures over its own cells: the cells are handed on, frozen -/
namespace Ly
open PySem PySem.Spec PyProof.Rows L2 LamX
/-- a body that ends in one return; what is answered may speak of the slots -/
structure BdL (X : Cx) (st : List Stmt) (t : (V → L2.St → Hp → Prop) → L2.St → Hp → Prop) : Prop where
  run : ∀ (s : Shared) (σ : L2.St) (H : Hp) (R : V → L2.St → Hp → Prop), Inv X [] σ H s → t R σ H → wpAny (model X.prog X.w) X.A (execs st X.env) (fun fl s' => ∃ u v σ' H', fl = .ret u ∧ Inv X [] σ' H' s' ∧ RelV v u ∧ R v σ' H') X.xe s
section
variable {X : Cx} {st : Stmt} {rest : List Stmt} {t : TS} {u : (V → L2.St → Hp → Prop) → L2.St → Hp → Prop} {e : Expr} {te : TE} {pos : Pos}
theorem bd_cons (h1 : PS X st t) (h2 : BdL X rest u) : BdL X (st :: rest) (fun R σ H => t { nx := fun σ H => u R σ H, rt := fun _ _ => False, bk := fun _ _ => False, ct := fun _ _ => False } σ H) := by
  refine ⟨fun s σ H R I h => wpAny_execs_cons (thn (h1.run [] s σ H _ I h) fun fl s1 z => ?_)⟩
  cases fl with
  | next =>
    obtain ⟨σ', H', I', q⟩ := z
    exact h2.run s1 σ' H' R I' q
  | ret v => exact (show False by obtain ⟨_, _, _, _, _, z⟩ := z; exact z).elim
  | brk => exact (show False by obtain ⟨_, _, _, z⟩ := z; exact z).elim
  | cont => exact (show False by obtain ⟨_, _, _, z⟩ := z; exact z).elim
theorem bd_ret (he : PE X e te) : BdL X [.Return (some e) pos] (fun R σ H => te σ H fun v H1 => R v σ H1) := by
  refine ⟨fun s σ H R I h => wpAny_execs_cons (wpAny_Return_some (thn (he.run [] s σ H _ I h) fun v s1 z => ?_))⟩
  obtain ⟨x, H1, I1, r1, q1⟩ := z
  exact ⟨_, x, σ, H1, rfl, I1, r1, q1⟩
end
section
variable {P : Program} {w : World} {K : PySem.W.Frag} {mg : Str → Option Value} {base : Heap} {f : Addr} {fd : FuncData} {ps : List Str} {sp : Sp} {k : Nat}
/-- a def that makes closures, its cells handed on where it answers -/
theorem FunC.okL {x qual : Str} {st : Stmt} {N : List Str} {c : Addr} (F : FunC K x qual st f fd c) (S : FnScope N ps (defScope st)) (len : ∀ vs H Q E, sp vs H Q E → vs.length = ps.length)
    (hbody : ∀ (A : Around) (outer : List Env) (s : Shared) (H : Hp) (vs : List V) (Q : VK) (E : XK), Room k (A.deeper (envOfC qual (defScope st) s.heap.objs.size f (.ref c))) → sp vs H Q E →
      ∃ t, BdL (cxOf CX0 P w K mg base N qual (defScope st) f (.ref c) A outer s H E) (defBody st) t ∧ t (fun v σ H' => ∀ Hc, Lent (cxOf CX0 P w K mg base N qual (defScope st) f (.ref c) A outer s H E) σ H' Hc → Q v Hc) (start N vs) H) : FnOk P w K mg base CX0 (k + 1) f fd ps sp := by
  obtain ⟨oc, od, kV, doc, pm, an, ct, osl, rfl, lk, hcd⟩ := F.ex
  refine ⟨len, fun A outer s H args us vs Q E hr e0 hb r hsp => ?_⟩
  have kin : K.In s.heap := e0.mod.kin.keeps fun b o e => (e0.bs b o e).1
  refine codeAny_call_function hr.depth (kin _ _ lk) rfl S.co S.gen rfl (PySem.W.codeRec_of kin hcd) (hb _ _ _ _ (wpAny_newFunctionEnv_cells S.kind (fun y hy => (S.par y.1 (List.of_mem_zip (show (y.1, y.2) ∈ ps.zip us from hy)).1).imp id fun q => ⟨q, PySem.W.cellsFrom_some _ _ _ (.inl q)⟩) fun env he s1 hx => ?_))
  subst he
  obtain ⟨t, ht, q⟩ := hbody A outer s H vs Q E (hr.deeper _) hsp
  refine ⟨(e0.mod.nolimit.keeps fun b o e => (e0.bs b o e).1).keeps hx.toInCall.keep, codeAny_func (wpAny_mono (ht.run s1 _ H _ (inv_start S hr.hd e0 (len _ _ _ _ hsp) r hx) q) (fun fl s' z => ?_) fun e s' z => z)⟩
  obtain ⟨u, v, σ', H', rfl, J, rv, q'⟩ := z
  obtain ⟨Hc, L, hok⟩ := lend J
  have out : ∀ b o, H' b = some o → Hc b = some o := fun b o e => (L.put.sub e).1
  have nc : ∀ b o, s.heap.get? b = some o → ¬ cellD (cellsFrom (s.heap.objs.size + 1) (defScope st).names []) b := fun b o e ⟨y, z⟩ => Nat.lt_irrefl _ (Nat.lt_of_lt_of_le (Heap.lt_size e) (cells_new z))
  have B := J.base
  refine ⟨v, Hc, J.os, J.bare, ⟨B.keep, B.slot, fun b o e1 e2 e3 => ?_, B.there, fun b xs e => out _ _ (B.tups b xs e), fun b o u e => out _ _ (B.frzs b o u e), fun b ps e => ?_⟩, hok, rv, q' Hc L⟩
  · rw [← L.put.out b (nc b o e1)]
    exact B.free b o e1 e2 e3
  · obtain ⟨more, z⟩ := B.tbls b ps e
    exact ⟨more, out _ _ z⟩
end
/-! ### things that refuse -/
theorem CloAt.ext {H H' : Hp} {N : List Str} {σ : L2.St} {f : Addr} {q : Str} {params : Arguments} {body : Expr} {scope : Scope} {cl : List (Str × Addr)} (s : ExtN H H') (C : CloAt H N σ f q params body scope cl) : CloAt H' N σ f q params body scope cl := by
  obtain ⟨⟨pm, c', ctv, h1, h2⟩, h3, h4, h5, h6⟩ := C
  have nf : ∀ {ob : Obj} (ps : Array Value), fz ob ≠ .tbl ps := fun ps z => by cases z
  refine ⟨⟨pm, c', ctv, s _ _ h1 nf, s _ _ h2 fun ps z => by unfold CodeO at z; cases z⟩, fun y c e => ?_, fun i y v e1 e2 e3 => ?_, h5, h6⟩
  · obtain ⟨o, u, z1, z2⟩ := h3 y c e
    exact ⟨o, u, s _ _ z1 nf, z2⟩
  · obtain ⟨c, o, u, z1, z2, z3⟩ := h4 i y v e1 e2 e3
    exact ⟨c, o, u, z1, s _ _ z2 nf, z3⟩
/-- what is called with nothing and refuses by the error dn -/
def Refuses (P : Program) (w : World) (K : PySem.W.Frag) (mg : Str → Option Value) (base : Heap) (k : Nat) (H : Hp) (f : Addr) (dn : String) : Prop :=
  ∀ H', ExtN H H' → NoT H' → Door P w K mg base k H' f (fun Q E => ∀ D H'', Rf K mg D dn → Same H' H'' → NoT H'' → E (.ref D) none H'')
theorem Refuses.ext {P : Program} {w : World} {K : PySem.W.Frag} {mg : Str → Option Value} {base : Heap} {k : Nat} {H H1 : Hp} {f : Addr} {dn : String} (s : ExtN H H1) (h : Refuses P w K mg base k H f dn) : Refuses P w K mg base k H1 f dn :=
  fun H' s' n => h H' (ExtN.trans s s') n
theorem ovr_back {D : Addr → Prop} {H : Hp} : ovr D H (ovr D (fun _ => none) H) = H := by
  funext b
  by_cases d : D b
  · rw [ovr_in d]
  · rw [ovr_out d, ovr_out d]
theorem refuses_of {P : Program} {w : World} {K : PySem.W.Frag} {mg : Str → Option Value} {base : Heap} {N : List Str} {σ : L2.St} {f : Addr} {q : Str} {params : Arguments} {body : Expr} {scope : Scope} {cl : List (Str × Addr)} {k : Nat} {t : XK → TE} {H : Hp} {dn : String} (L : LamT scope) (hlen : σ.length = N.length)
    (hbind : ∀ (pm cv ctv : Value), bindArgs (PySem.W.kla_fn "<lambda>" q params body scope cl pm cv ctv) ⟨[], []⟩ = pure [])
    (hbody : ∀ (c' : Addr) (A : Around) (outer : List Env) (s : Shared) (H : Hp) (E : XK), Room k (A.deeper (PySem.W.envX q scope s.heap.objs.size f (.ref c') cl)) → PE (clCx P w K mg base N q scope cl f c' A outer s H E) body (t E))
    (C : CloAt H N σ f q params body scope cl)
    (ht : ∀ (Hd : Hp) (E : XK) (Q : VK), Same (flatH H) Hd → NoT Hd → (∀ D H'', Rf K mg D dn → Same Hd H'' → NoT H'' → E (.ref D) none H'') → t E σ Hd Q) : Refuses P w K mg base (k + 1) H f dn := by
  intro H' s n
  have C' := C.ext s
  refine ⟨?_, fun A outer sh Q E hr e0 hE => clo_run L hlen hbind hbody hr e0 C' (ht _ _ _ ?_ ?_ fun D H'' hD s2 n2 => hE D _ hD (fun b o e => ?_) (noT_ovr n n2))⟩
  · obtain ⟨⟨pm, c2, ctv, e, _⟩, _⟩ := C'
    exact ⟨_, e, _, rfl⟩
  · intro b o e
    obtain ⟨e1, e2⟩ := flat_in e
    have nd : ¬ cellD cl b := fun ⟨y, z⟩ => by
      obtain ⟨_, hc, _⟩ := C
      obtain ⟨o', u, z1, _⟩ := hc y b z
      rw [e1] at z1
      cases z1
      cases e2
    rw [ovr_out nd]
    exact s b o e1 fun ps z => by rw [z] at e2; cases e2
  · exact noT_ovr noT_none n
  · by_cases d : cellD cl b
    · rw [ovr_in d]; exact e
    · rw [ovr_out d]
      exact s2 b o (by rw [ovr_out d]; exact e)
end Ly
set_option Elab.async false
set_option linter.all false
set_option maxRecDepth 100000
set_option maxHeartbeats 4000000
/-! lists of closures -/
namespace Ly
open PySem PySem.Spec PyProof.Rows L2 LamX
/-- all but tables, and but what stands at pd -/
def ExtP (pd : Addr) (H H' : Hp) : Prop := ∀ b o, b ≠ pd → H b = some o → (∀ ps, o ≠ .tbl ps) → H' b = some o
theorem ExtP.trans {pd : Addr} {H H1 H2 : Hp} (a : ExtP pd H H1) (b : ExtP pd H1 H2) : ExtP pd H H2 := fun c o n e t => b c o n (a c o n e t) t
/-- the lambda at f, made in the context X -/
def LamIn (X : Cx) (G : Hp) (f : Addr) (params : Arguments) (body : Expr) (scope : Scope) : Prop := ∃ (pm : Value) (c' : Addr) (ctv : Value), G f = some (fz (lamO (X.env.qual ++ "<lambda>") params body scope (cloFrom X.env.cells scope.names []) pm c' ctv)) ∧ G c' = some (CodeO c' (X.env.qual ++ "<lambda>"))
theorem LamIn.ext {X : Cx} {pd : Addr} {G G' : Hp} {f : Addr} {params : Arguments} {body : Expr} {scope : Scope} {zs : List V} (h : LamIn X G f params body scope) (hp : G pd = some (.lst zs)) (e : ExtP pd G G') : LamIn X G' f params body scope := by
  obtain ⟨pm, c', ctv, h1, h2⟩ := h
  refine ⟨pm, c', ctv, e _ _ (fun z => ?_) h1 (fun ps z => by cases z), e _ _ (fun z => ?_) h2 fun ps z => by unfold CodeO at z; cases z⟩
  · rw [z, hp] at h1; cases h1
  · rw [z, hp] at h2; unfold CodeO at h2; cases h2
/-- a lambda is made and put at the list's end -/
theorem lam_put {X : Cx} {TT : List (Addr × Str)} {G H1 : Hp} {f pd c' : Addr} {zs zs' : List V} {params : Arguments} {body : Expr} {scope : Scope} {pm ctv : Value} (hpd : G pd = some (.lst zs)) (e : ExtN G H1) (T1 : Tabs TT H1) (n1 : NoT H1) (hf : H1 f = none) (hc : H1 c' = some (CodeO c' (X.env.qual ++ "<lambda>"))) :
    ∀ G2, G2 = upd (upd H1 f (fz (lamO (X.env.qual ++ "<lambda>") params body scope (cloFrom X.env.cells scope.names []) pm c' ctv))) pd (.lst zs') → ExtP pd G G2 ∧ Tabs TT G2 ∧ NoT G2 ∧ G2 pd = some (.lst zs') ∧ LamIn X G2 f params body scope := by
  rintro G2 rfl
  have hp1 : H1 pd = some (.lst zs) := e _ _ hpd fun ps z => by cases z
  have nfp : f ≠ pd := (ne_of_none hp1 hf).symm
  have sf := same_new (o := fz (lamO (X.env.qual ++ "<lambda>") params body scope (cloFrom X.env.cells scope.names []) pm c' ctv)) hf
  have g : Gr pd (upd H1 f (fz (lamO (X.env.qual ++ "<lambda>") params body scope (cloFrom X.env.cells scope.names []) pm c' ctv))) (upd (upd H1 f (fz (lamO (X.env.qual ++ "<lambda>") params body scope (cloFrom X.env.cells scope.names []) pm c' ctv))) pd (.lst zs')) := (Gr.refl (sf _ _ hp1)).put
  have ncp : c' ≠ pd := fun z => by rw [z, hp1] at hc; unfold CodeO at hc; cases hc
  refine ⟨fun b o n h t => ?_, tabs_gr (tabs_same T1 sf) g, (n1.upd (pl_fz _)).lst, upd_same, pm, c', ctv, ?_, ?_⟩
  · exact g.keep b o n (sf b o (e b o h t))
  · rw [upd_ne nfp, upd_same]
  · exact g.keep _ _ ncp (sf _ _ hc)
/-- a lambda is made, and a list of it alone -/
theorem lam_first {X : Cx} {TT : List (Addr × Str)} {H H1 : Hp} {f pd c' : Addr} {zs : List V} {params : Arguments} {body : Expr} {scope : Scope} {pm ctv : Value} (e : ExtN H H1) (T1 : Tabs TT H1) (n1 : NoT H1) (hf : H1 f = none) (hc : H1 c' = some (CodeO c' (X.env.qual ++ "<lambda>")))
    (hpd : upd H1 f (fz (lamO (X.env.qual ++ "<lambda>") params body scope (cloFrom X.env.cells scope.names []) pm c' ctv)) pd = none) :
    ∀ G, G = upd (upd H1 f (fz (lamO (X.env.qual ++ "<lambda>") params body scope (cloFrom X.env.cells scope.names []) pm c' ctv))) pd (.lst zs) → ExtN H G ∧ (∀ b o, H b = some o → (∀ ps, o ≠ .tbl ps) → b ≠ pd) ∧ Tabs TT G ∧ NoT G ∧ G pd = some (.lst zs) ∧ LamIn X G f params body scope := by
  rintro G rfl
  have sf := same_new (o := fz (lamO (X.env.qual ++ "<lambda>") params body scope (cloFrom X.env.cells scope.names []) pm c' ctv)) hf
  have sp := same_new (o := .lst zs) hpd
  exact ⟨fun b o h t => sp b o (sf b o (e b o h t)), fun b o h t => ne_of_none (sf b o (e b o h t)) hpd, tabs_same T1 (sf.trans sp), (n1.upd (pl_fz _)).lst, upd_same, pm, c', ctv, sp _ _ upd_same, sp _ _ (sf _ _ hc)⟩
theorem refuses_lent {X : Cx} {σ : L2.St} {G Hc : Hp} {f : Addr} {params : Arguments} {body : Expr} {scope : Scope} {k : Nat} {t : XK → TE} {dn : String} (L : Lent X σ G Hc) (LS : LamS X.env.scope scope) (h : LamIn X G f params body scope)
    (hbind : ∀ (q : Str) (cl : List (Str × Addr)) (pm cv ctv : Value), bindArgs (PySem.W.kla_fn "<lambda>" q params body scope cl pm cv ctv) ⟨[], []⟩ = pure [])
    (hbody : ∀ (cl : List (Str × Addr)) (c' : Addr) (A : Around) (outer : List Env) (s : Shared) (H : Hp) (E : XK), Room k (A.deeper (PySem.W.envX (X.env.qual ++ "<lambda>") scope s.heap.objs.size f (.ref c') cl)) → PE (clCx X.prog X.w X.K X.mg X.base X.N (X.env.qual ++ "<lambda>") scope cl f c' A outer s H E) body (t E))
    (ht : ∀ (Hd : Hp) (E : XK) (Q : VK), Same (flatH Hc) Hd → NoT Hd → (∀ D H'', Rf X.K X.mg D dn → Same Hd H'' → NoT H'' → E (.ref D) none H'') → t E σ Hd Q) : Refuses X.prog X.w X.K X.mg X.base (k + 1) Hc f dn := by
  obtain ⟨pm, c', ctv, h1, h2⟩ := h
  exact refuses_of ⟨LS.kind, LS.co, LS.gen, LS.own⟩ L.len (fun pm cv ctv => hbind _ _ pm cv ctv) (fun c' A outer s H E hr => hbody _ c' A outer s H E hr) (clo_of L LS h1 h2) ht
/-- what stands where the cells are lent -/
theorem lent_in {X : Cx} {σ : L2.St} {G Hc : Hp} (L : Lent X σ G Hc) {b : Addr} {o : HO} (h : G b = some o) : Hc b = some o := (L.put.sub h).1
theorem lent_nt {X : Cx} {σ : L2.St} {G Hc : Hp} (L : Lent X σ G Hc) (n : NoT G) : NoT Hc := fun b o e => by
  by_cases d : cellD X.env.cells b
  · obtain ⟨ob, q⟩ := L.put.frz b d
    rw [q] at e
    cases e
    rfl
  · rw [← L.put.out b d] at e
    exact n b o e
end Ly
set_option Elab.async false
set_option linter.all false
set_option maxRecDepth 100000
set_option maxHeartbeats 4000000
namespace K12
open PySem PySem.Spec PyProof.Rows L2 Ly
def topS (i : Nat) : Stmt := PySem.Challenge.pw_longyears_k12_what_is_refused.main.body.getD i (.Pass ⟨0, 0, 0, 0⟩)
abbrev s_is_from : Stmt := topS 17
theorem sc_is_from : FnScope ["thing", "low", "high"] ["thing", "low", "high"] (defScope s_is_from) := ⟨rfl, rfl, rfl, by decide +kernel, rfl, by decide +kernel, by decide +kernel⟩
abbrev s_is_land : Stmt := topS 18
theorem sc_is_land : FnScope ["thing"] ["thing"] (defScope s_is_land) := ⟨rfl, rfl, rfl, by decide +kernel, rfl, by decide +kernel, by decide +kernel⟩
abbrev s_need_land : Stmt := topS 19
theorem sc_need_land : FnScope ["land"] ["land"] (defScope s_need_land) := ⟨rfl, rfl, rfl, by decide +kernel, rfl, by decide +kernel, by decide +kernel⟩
abbrev s_need_year : Stmt := topS 20
theorem sc_need_year : FnScope ["year"] ["year"] (defScope s_need_year) := ⟨rfl, rfl, rfl, by decide +kernel, rfl, by decide +kernel, by decide +kernel⟩
abbrev s_need_day : Stmt := topS 21
theorem sc_need_day : FnScope ["day"] ["day"] (defScope s_need_day) := ⟨rfl, rfl, rfl, by decide +kernel, rfl, by decide +kernel, by decide +kernel⟩
abbrev s_begin : Stmt := topS 26
theorem sc_begin : FnScope ["land", "year"] ["land", "year"] (defScope s_begin) := ⟨rfl, rfl, rfl, by decide +kernel, rfl, by decide +kernel, by decide +kernel⟩
abbrev s_date : Stmt := topS 27
theorem sc_date : FnScope ["land", "day"] ["land", "day"] (defScope s_date) := ⟨rfl, rfl, rfl, by decide +kernel, rfl, by decide +kernel, by decide +kernel⟩
abbrev s_is_long : Stmt := topS 28
theorem sc_is_long : FnScope ["land", "year"] ["land", "year"] (defScope s_is_long) := ⟨rfl, rfl, rfl, by decide +kernel, rfl, by decide +kernel, by decide +kernel⟩
abbrev s_next_long : Stmt := topS 30
theorem sc_next_long : FnScope ["land", "year", "wanted"] ["land", "year"] (defScope s_next_long) := ⟨rfl, rfl, rfl, by decide +kernel, rfl, by decide +kernel, by decide +kernel⟩
abbrev s_long_years : Stmt := topS 31
theorem sc_long_years : FnScope ["land", "first", "last"] ["land", "first", "last"] (defScope s_long_years) := ⟨rfl, rfl, rfl, by decide +kernel, rfl, by decide +kernel, by decide +kernel⟩
abbrev s_need_name : Stmt := topS 34
theorem sc_need_name : FnScope ["land", "place", "week", "name"] ["land", "place", "week", "name"] (defScope s_need_name) := ⟨rfl, rfl, rfl, by decide +kernel, rfl, by decide +kernel, by decide +kernel⟩
abbrev s_next_year : Stmt := topS 40
theorem sc_next_year : FnScope ["land", "place", "week", "name", "year", "rests", "turn"] ["land", "place", "week", "name", "year"] (defScope s_next_year) := ⟨rfl, rfl, rfl, by decide +kernel, rfl, by decide +kernel, by decide +kernel⟩
abbrev s_how_many : Stmt := topS 41
theorem sc_how_many : FnScope ["land", "place", "week", "name", "first", "last", "rests", "turn"] ["land", "place", "week", "name", "first", "last"] (defScope s_how_many) := ⟨rfl, rfl, rfl, by decide +kernel, rfl, by decide +kernel, by decide +kernel⟩
abbrev s_lengths : Stmt := topS 42
theorem sc_lengths : FnScope ["land", "place", "week", "name", "rests", "turn", "round_so", "rest", "one", "other"] ["land", "place", "week", "name"] (defScope s_lengths) := ⟨rfl, rfl, rfl, by decide +kernel, rfl, by decide +kernel, by decide +kernel⟩
abbrev s_barring : Stmt := topS 43
theorem sc_barring : FnScope ["land", "place", "week", "name"] ["land", "place", "week", "name"] (defScope s_barring) := ⟨rfl, rfl, rfl, by decide +kernel, rfl, by decide +kernel, by decide +kernel⟩
abbrev s_bars : Stmt := topS 44
theorem sc_bars : FnScope ["land", "place", "week", "name", "thing", "common", "rest", "one"] ["land", "place", "week", "name", "thing"] (defScope s_bars) := ⟨rfl, rfl, rfl, by decide +kernel, rfl, by decide +kernel, by decide +kernel⟩
abbrev s_need_placed : Stmt := topS 46
theorem sc_need_placed : FnScope ["one", "place_one", "other", "place_other"] ["one", "place_one", "other", "place_other"] (defScope s_need_placed) := ⟨rfl, rfl, rfl, by decide +kernel, rfl, by decide +kernel, by decide +kernel⟩
abbrev s_next_day : Stmt := topS 49
theorem sc_next_day : FnScope ["one", "place_one", "other", "place_other", "day", "rests", "turn"] ["one", "place_one", "other", "place_other", "day"] (defScope s_next_day) := ⟨rfl, rfl, rfl, by decide +kernel, rfl, by decide +kernel, by decide +kernel⟩
abbrev s_days : Stmt := topS 50
theorem sc_days : FnScope ["one", "place_one", "other", "place_other", "first", "last", "rests", "turn"] ["one", "place_one", "other", "place_other", "first", "last"] (defScope s_days) := ⟨rfl, rfl, rfl, by decide +kernel, rfl, by decide +kernel, by decide +kernel⟩
abbrev s_parting : Stmt := topS 52
theorem sc_parting : FnScope ["one", "place_one", "other", "place_other", "common"] ["one", "place_one", "other", "place_other"] (defScope s_parting) := ⟨rfl, rfl, rfl, by decide +kernel, rfl, by decide +kernel, by decide +kernel⟩
abbrev s_parts : Stmt := topS 53
theorem sc_parts : FnScope ["one", "place_one", "other", "place_other", "thing", "common"] ["one", "place_one", "other", "place_other", "thing"] (defScope s_parts) := ⟨rfl, rfl, rfl, by decide +kernel, rfl, by decide +kernel, by decide +kernel⟩
abbrev s_alike : Stmt := topS 56
theorem sc_alike : FnScope ["one", "other"] ["one", "other"] (defScope s_alike) := ⟨rfl, rfl, rfl, by decide +kernel, rfl, by decide +kernel, by decide +kernel⟩
abbrev s_first_parting : Stmt := topS 57
theorem sc_first_parting : FnScope ["one", "other", "year"] ["one", "other"] (defScope s_first_parting) := ⟨rfl, rfl, rfl, by decide +kernel, rfl, by decide +kernel, by decide +kernel⟩
abbrev s_Realm_init : Stmt := inClass (topS 59) 0
theorem sc_Realm_init : FnScope ["self", "land"] ["self", "land"] (defScope s_Realm_init) := ⟨rfl, rfl, rfl, by decide +kernel, rfl, by decide +kernel, by decide +kernel⟩
abbrev s_law_deck : Stmt := topS 61
theorem sc_law_deck : FnScope ["cell", "turn"] ["cell", "turn"] (defScope s_law_deck) := ⟨rfl, rfl, rfl, by decide +kernel, rfl, by decide +kernel, by decide +kernel⟩
abbrev s_law_pick : Stmt := topS 62
theorem sc_law_pick : FnScope ["deck", "size", "found", "number"] ["deck", "size"] (defScope s_law_pick) := ⟨rfl, rfl, rfl, by decide +kernel, rfl, by decide +kernel, by decide +kernel⟩
abbrev s_law_one : Stmt := topS 63
theorem sc_law_one : FnScope ["deck", "some"] ["deck", "some"] (defScope s_law_one) := ⟨rfl, rfl, rfl, by decide +kernel, rfl, by decide +kernel, by decide +kernel⟩
abbrev s_law_kin : Stmt := topS 64
theorem sc_law_kin : FnScope ["e", "kinds_met", "names", "name", "good"] ["e"] (defScope s_law_kin) := ⟨rfl, rfl, rfl, by decide +kernel, rfl, by decide +kernel, by decide +kernel⟩
abbrev s_law_try : Stmt := topS 65
theorem sc_law_try : FnScope ["door", "found", "e"] ["door"] (defScope s_law_try) := ⟨rfl, rfl, rfl, by decide +kernel, rfl, by decide +kernel, by decide +kernel⟩
abbrev s_law_land : Stmt := topS 66
theorem sc_law_land : FnScope ["deck", "long_so", "bottoms", "shifts", "bottom", "shift"] ["deck", "long_so", "bottoms", "shifts"] (defScope s_law_land) := ⟨rfl, rfl, rfl, by decide +kernel, rfl, by decide +kernel, by decide +kernel⟩
abbrev s_law_any : Stmt := topS 67
theorem sc_law_any : FnScope ["deck", "long_so", "bottoms", "shifts"] ["deck"] (defScope s_law_any) := ⟨rfl, rfl, rfl, by decide +kernel, rfl, by decide +kernel, by decide +kernel⟩
abbrev s_law_by_land : Stmt := topS 68
theorem sc_law_by_land : FnScope ["land", "other", "found"] ["land", "other"] (defScope s_law_by_land) := ⟨rfl, rfl, rfl, by decide +kernel, rfl, by decide +kernel, by decide +kernel⟩
abbrev s_law_by_week : Stmt := topS 69
theorem sc_law_by_week : FnScope ["land", "place", "week", "name", "found"] ["land", "place", "week", "name"] (defScope s_law_by_week) := ⟨rfl, rfl, rfl, by decide +kernel, rfl, by decide +kernel, by decide +kernel⟩
abbrev s_law_by_two : Stmt := topS 70
theorem sc_law_by_two : FnScope ["one", "place_one", "other", "place_other", "found"] ["one", "place_one", "other", "place_other"] (defScope s_law_by_two) := ⟨rfl, rfl, rfl, by decide +kernel, rfl, by decide +kernel, by decide +kernel⟩
abbrev s_law_all_told : Stmt := topS 71
theorem sc_law_all_told : FnScope ["doors", "word", "door"] ["doors", "word"] (defScope s_law_all_told) := ⟨rfl, rfl, rfl, by decide +kernel, rfl, by decide +kernel, by decide +kernel⟩
abbrev s_law_numbers_right : Stmt := topS 72
theorem sc_law_numbers_right : FnScope ["land", "other", "bad"] ["land", "other"] (defScope s_law_numbers_right) := ⟨rfl, rfl, rfl, by decide +kernel, rfl, by decide +kernel, by decide +kernel⟩
abbrev s_law : Stmt := topS 73
theorem sc_law : FnScope ["script", "cell", "deck", "other", "doors", "bad", "land", "odd"] ["script"] (defScope s_law) := ⟨rfl, rfl, rfl, by decide +kernel, rfl, by decide +kernel, by decide +kernel⟩
structure All (K : PySem.W.Frag) (mg : Str → Option Value) : Prop where
  t_is_from : Tx K mg "is_from" s_is_from ["thing", "low", "high"]
  t_is_land : Tx K mg "is_land" s_is_land ["thing"]
  t_need_land : Tx K mg "need_land" s_need_land ["land"]
  t_need_year : Tx K mg "need_year" s_need_year ["year"]
  t_need_day : Tx K mg "need_day" s_need_day ["day"]
  t_begin : Tx K mg "begin" s_begin ["land", "year"]
  t_date : Tx K mg "date" s_date ["land", "day"]
  t_is_long : Tx K mg "is_long" s_is_long ["land", "year"]
  t_next_long : Tx K mg "next_long" s_next_long ["land", "year"]
  t_long_years : Tx K mg "long_years" s_long_years ["land", "first", "last"]
  t_need_name : Tx K mg "need_name" s_need_name ["land", "place", "week", "name"]
  t_next_year : Tx K mg "next_year" s_next_year ["land", "place", "week", "name", "year"]
  t_how_many : Tx K mg "how_many" s_how_many ["land", "place", "week", "name", "first", "last"]
  t_lengths : Tx K mg "lengths" s_lengths ["land", "place", "week", "name"]
  t_barring : Tx K mg "barring" s_barring ["land", "place", "week", "name"]
  t_bars : Tx K mg "bars" s_bars ["land", "place", "week", "name", "thing"]
  t_need_placed : Tx K mg "need_placed" s_need_placed ["one", "place_one", "other", "place_other"]
  t_next_day : Tx K mg "next_day" s_next_day ["one", "place_one", "other", "place_other", "day"]
  t_days : Tx K mg "days" s_days ["one", "place_one", "other", "place_other", "first", "last"]
  t_parting : Tx K mg "parting" s_parting ["one", "place_one", "other", "place_other"]
  t_parts : Tx K mg "parts" s_parts ["one", "place_one", "other", "place_other", "thing"]
  t_alike : Tx K mg "alike" s_alike ["one", "other"]
  t_first_parting : Tx K mg "first_parting" s_first_parting ["one", "other"]
  t_Realm_init : Tm K mg "Realm" "__init__" "Realm.__init__" s_Realm_init ["self", "land"]
  t_law_deck : Tx K mg "_law_deck" s_law_deck ["cell", "turn"]
  t_law_pick : Tx K mg "_law_pick" s_law_pick ["deck", "size"]
  t_law_one : Tx K mg "_law_one" s_law_one ["deck", "some"]
  t_law_kin : Tx K mg "_law_kin" s_law_kin ["e"]
  t_law_try : Tx K mg "_law_try" s_law_try ["door"]
  t_law_land : Tx K mg "_law_land" s_law_land ["deck", "long_so", "bottoms", "shifts"]
  t_law_any : Tx K mg "_law_any" s_law_any ["deck"]
  t_law_by_land : Tx K mg "_law_by_land" s_law_by_land ["land", "other"]
  t_law_by_week : Tx K mg "_law_by_week" s_law_by_week ["land", "place", "week", "name"]
  t_law_by_two : Tx K mg "_law_by_two" s_law_by_two ["one", "place_one", "other", "place_other"]
  t_law_all_told : Tx K mg "_law_all_told" s_law_all_told ["doors", "word"]
  t_law_numbers_right : Tx K mg "_law_numbers_right" s_law_numbers_right ["land", "other"]
  t_law : Tx K mg "law" s_law ["script"]
  r_Realm : ∃ C, Rm K mg "Realm" C
  b_ValueError : mg "ValueError" = none
  b_all : mg "all" = none
  b_bool : mg "bool" = none
  b_int : mg "int" = none
  b_isinstance : mg "isinstance" = none
  b_len : mg "len" = none
  b_list : mg "list" = none
  b_range : mg "range" = none
  b_set : mg "set" = none
  b_sorted : mg "sorted" = none
  b_tuple : mg "tuple" = none
  b_zip : mg "zip" = none
  er : ∃ cY c0 c1 c2 c3 c4 c5 c6 c7 c8, Ers K mg cY c0 c1 c2 c3 c4 c5 c6 c7 c8
  c_MOST_DAYS : ∃ t, mg "MOST_DAYS" = some (.int 400 t)
  c_MOST_BOTTOM : ∃ t, mg "MOST_BOTTOM" = some (.int 60 t)
  c_MOST_SHIFT : ∃ t, mg "MOST_SHIFT" = some (.int 1000000 t)
  c_FAR : ∃ t, mg "FAR" = some (.int 1000000000000000000000000000000 t)
  c_MOST_WEEK : ∃ t, mg "MOST_WEEK" = some (.int 20 t)
local macro_rules | `(tactic| walk_at "g") => `(tactic| (repeat (first
  | refine ⟨_, _, _, _, rfl, rfl, (by assumption), (by rfl), ?_⟩
  | refine ⟨_, _, rfl, rfl, ⟨by omega, by omega⟩, ?_⟩
  | refine ⟨_, _, rfl, rfl, Or.inl ⟨by omega, by omega⟩, ?_⟩
  | refine ⟨_, _, rfl, rfl, Or.inr ⟨by omega, by omega⟩, ?_⟩
  | refine ⟨_, _, rfl, rfl, (by show (0 : Int) < _; omega), ?_⟩
  | refine ⟨_, _, rfl, rfl, ?_⟩
  | refine ⟨_, _, rfl, ?_⟩
  | refine ⟨_, rfl, ?_⟩
  | refine ⟨rfl, ?_⟩)))
local macro_rules | `(tactic| walk_at "vi") => `(tactic| (show V.int _ = V.int _; congr 1; (try dsimp only); omega))
section
variable {P : Program} {w : World} {K : PySem.W.Frag} {mg : Str → Option Value} {base : Heap}
def sp_is_from (K : PySem.W.Frag) : Sp := fun vs H Q _ => ∃ (x : V) (lo hi : Int) (n : String), vs = [x, .int lo, .int hi] ∧ Kn K H x n ∧ Q (.bl (isFrom x lo hi)) H
theorem d_is_from (A : All K mg) : Df P w K mg base CX0 "is_from" 1 ["thing", "low", "high"] (sp_is_from K) := by
  obtain ⟨f, fd, F, hm, hb⟩ := A.t_is_from
  refine ⟨f, fd, F.ok sc_is_from (fun vs H Q E h => ?_) (fun cdv A' outer s H vs Q E hr h => ?_), hm, F.kp, hb⟩
  · obtain ⟨x, lo, hi, n, rfl, _⟩ := h; rfl
  · obtain ⟨x, lo, hi, n, rfl, hk, q⟩ := h
    refine ⟨_, (pss_one (ps_ret (pe_and (pe_callB call_isi (by rfl) A.b_isinstance (by decide +kernel) (pa_cons (pv 0) (pa_cons (pe_bltn (v := .ty "int") (by rfl) A.b_int (by decide +kernel) rfl) pa_nil))) (pe_and (pe_not (pe_callB call_isi (by rfl) A.b_isinstance (by decide +kernel) (pa_cons (pv 0) (pa_cons (pe_bltn (v := .ty "bool") (by rfl) A.b_bool (by decide +kernel) rfl) pa_nil)))) (pe_one (pe_chain op_le op_le (pv 1) (pv 0) (pv 2))))))), ?_⟩
    refine ⟨x, rfl, x, _, _, _, _, rfl, .ty _, hk.ty, hk.kit (by decide), _, rfl, ?_⟩
    cases hk with
    | int i =>
      refine iteT ?_
      refine ⟨_, rfl, _, _, _, _, _, rfl, .ty _, (Kn.int i).ty, (Kn.int (K := K) (H := H) i).kit (by decide), _, rfl, _, rfl, ?_⟩
      refine iteT ?_
      refine ⟨_, rfl, _, rfl, _, _, rfl, rfl, _, rfl, ?_⟩
      refine ite2 (fun e => ?_) (fun e => ?_)
      · refine ⟨_, rfl, _, _, rfl, rfl, ?_⟩
        rw [isFrom_mid (of_decide_eq_true e)] at q
        exact q
      · rw [isFrom_no1 fun z => e (decide_eq_true z)] at q
        exact q
    | bl b =>
      refine iteT ?_
      refine ⟨_, rfl, _, _, _, _, _, rfl, .ty _, (Kn.bl b).ty, (Kn.bl (K := K) (H := H) b).kit (by decide), _, rfl, _, rfl, ?_⟩
      exact iteF q
    | non => exact iteF q
    | str z => exact iteF q
    | lst h => exact iteF q
    | tup h => exact iteF q

def sp_is_land (K : PySem.W.Frag) : Sp := fun vs H Q _ => ∃ (a : Addr) (d t b s : Int), vs = [.ref a] ∧ Ld K H a d t b s ∧ LandOk d t b s ∧ Q (.bl true) H
theorem d_is_land (A : All K mg) : Df P w K mg base CX0 "is_land" 2 ["thing"] (sp_is_land K) := by
  obtain ⟨f, fd, F, hm, hb⟩ := A.t_is_land
  refine ⟨f, fd, F.ok sc_is_land (fun vs H Q E h => ?_) (fun cdv A' outer s H vs Q E hr h => ?_), hm, F.kp, hb⟩
  · obtain ⟨a, d, t, b, s, rfl, _⟩ := h; rfl
  · obtain ⟨a, d, t, b, s, rfl, hl, hk, q⟩ := h
    obtain ⟨⟨k1, k2⟩, ⟨k3, k4⟩, ⟨k5, k6⟩, k7, k8⟩ := hk
    have kt : Kn K H (.ref a) "tuple" := .tup hl
    refine ⟨_, (pss_cons (ps_if (PW.pt (pw_or (pt_not (pt_val (pe_callB call_isi (by rfl) A.b_isinstance (by decide +kernel) (pa_cons (pv 0) (pa_cons (pe_bltn (v := .ty "tuple") (by rfl) A.b_tuple (by decide +kernel) rfl) pa_nil))))) (pw_or (pt_cmpR op_ne (pe_callB call_len_seq (by rfl) A.b_len (by decide +kernel) (pa_cons (pv 0) pa_nil)) pe_int (nomark _)) (pw_or1 (pt_not (pt_val (pe_callD (d_is_from A) hr (by decide) (by rfl) pass0 (pa_cons (pe_ix ix_tup (pv 0) pe_int (fun _ _ => rfl)) (pa_cons pe_int (pa_cons (pe_glob (v := .int 400) (by rfl) A.c_MOST_DAYS.choose_spec ⟨_, rfl⟩) pa_nil))))))))))
 (pss_one (ps_ret pe_bl))
 pss_nil)
 (pss_cons (ps_if (PW.pt (pw_or (pt_not (pt_val (pe_callD (d_is_from A) hr (by decide) (by rfl) pass0 (pa_cons (pe_ix ix_tup (pv 0) pe_int (fun _ _ => rfl)) (pa_cons pe_int (pa_cons (pe_glob (v := .int 60) (by rfl) A.c_MOST_BOTTOM.choose_spec ⟨_, rfl⟩) pa_nil)))))) (pw_or1 (pt_not (pt_val (pe_callD (d_is_from A) hr (by decide) (by rfl) pass0 (pa_cons (pe_ix ix_tup (pv 0) pe_int (fun _ _ => rfl)) (pa_cons pe_int (pa_cons (pe_op op_sub (pe_ix ix_tup (pv 0) pe_int (fun _ _ => rfl)) pe_int) pa_nil)))))))))
 (pss_one (ps_ret pe_bl))
 pss_nil)
 (pss_one (ps_ret (pe_callD (d_is_from A) hr (by decide) (by rfl) pass0 (pa_cons (pe_ix ix_tup (pv 0) pe_int (fun _ _ => rfl)) (pa_cons (pe_un un_neg (pe_glob (v := .int 1000000) (by rfl) A.c_MOST_SHIFT.choose_spec ⟨_, rfl⟩)) (pa_cons (pe_glob (v := .int 1000000) (by rfl) A.c_MOST_SHIFT.choose_spec ⟨_, rfl⟩) pa_nil)))))))), ?_⟩
    refine ⟨_, rfl, _, _, _, _, _, rfl, .ty _, kt.ty, kt.kit (by decide), _, rfl, ?_⟩
    refine iteF ?_
    refine ⟨_, rfl, a, _, rfl, .inr hl, rfl, _, rfl, ?_⟩
    refine iteF ?_
    refine ⟨_, rfl, _, _, _, _, rfl, rfl, hl, (by rfl), _, _, _, _, rfl, .int d, _, rfl, ?_⟩
    rw [isFrom_yes k1 k2]
    refine iteF ?_
    refine ⟨_, rfl, _, _, _, _, rfl, rfl, hl, (by rfl), _, _, _, _, rfl, .int b, _, rfl, ?_⟩
    rw [isFrom_yes k5 k6]
    refine iteF ?_
    refine ⟨_, rfl, _, _, _, _, rfl, rfl, hl, (by rfl), _, rfl, _, _, _, _, rfl, rfl, hl, (by rfl), _, _, rfl, rfl, _, _, _, _, rfl, .int t, _, rfl, ?_⟩
    rw [isFrom_yes k3 (by omega)]
    refine iteF ?_
    refine ⟨_, rfl, _, _, _, _, rfl, rfl, hl, (by rfl), _, rfl, _, _, _, _, rfl, .int s, ?_⟩
    rw [isFrom_yes (by omega) (by omega)]
    exact q

/-- what is no land -/
def NoLandV (K : PySem.W.Frag) (H : Hp) (x : V) : Prop := (∃ n, Kn K H x n ∧ n ≠ "tuple") ∨ (∃ a xs, x = .ref a ∧ SqT K H a xs ∧ xs.length ≠ 4) ∨ (∃ a t b s, x = .ref a ∧ Ld K H a 0 t b s) ∨ ∃ a d t b s, x = .ref a ∧ Ld K H a d t b s ∧ (1 ≤ d ∧ d ≤ 400) ∧ (1 ≤ b ∧ b ≤ 60) ∧ b ≤ t
def sp_r_is_land (K : PySem.W.Frag) : Sp := fun vs H Q _ => ∃ x, vs = [x] ∧ ((∃ (a : Addr) (d t b s : Int), x = .ref a ∧ Ld K H a d t b s ∧ LandOk d t b s ∧ Q (.bl true) H) ∨ (NoLandV K H x ∧ Q (.bl false) H))
theorem rd_is_land (A : All K mg) : Df P w K mg base (L2N.CX P w) "is_land" 2 ["thing"] (sp_r_is_land K) := by
  obtain ⟨f, fd, F, hm, hb⟩ := A.t_is_land
  refine ⟨f, fd, Fun.okN F sc_is_land (fun vs H Q E h => ?_) (fun cdv A' outer sh H vs Q E hr h => ?_), hm, F.kp, hb⟩
  · obtain ⟨x, rfl, _⟩ := h; rfl
  · obtain ⟨x, rfl, h⟩ := h
    refine ⟨_, (pss_cons (ps_if (PW.pt (pw_or (pt_not (pt_val (pe_callB call_isi (by rfl) A.b_isinstance (by decide +kernel) (pa_cons (pv 0) (pa_cons (pe_bltn (v := .ty "tuple") (by rfl) A.b_tuple (by decide +kernel) rfl) pa_nil))))) (pw_or (pt_cmpR op_ne (pe_callB call_len_seq (by rfl) A.b_len (by decide +kernel) (pa_cons (pv 0) pa_nil)) pe_int (nomark _)) (pw_or1 (pt_not (pt_val (pe_callD (d_is_from A) hr (by decide) (by rfl) pass0 (pa_cons (pe_ix ix_tup (pv 0) pe_int (fun _ _ => rfl)) (pa_cons pe_int (pa_cons (pe_glob (v := .int 400) (by rfl) A.c_MOST_DAYS.choose_spec ⟨_, rfl⟩) pa_nil))))))))))
 (pss_one (ps_ret pe_bl))
 pss_nil)
 (pss_cons (ps_if (PW.pt (pw_or (pt_not (pt_val (pe_callD (d_is_from A) hr (by decide) (by rfl) pass0 (pa_cons (pe_ix ix_tup (pv 0) pe_int (fun _ _ => rfl)) (pa_cons pe_int (pa_cons (pe_glob (v := .int 60) (by rfl) A.c_MOST_BOTTOM.choose_spec ⟨_, rfl⟩) pa_nil)))))) (pw_or1 (pt_not (pt_val (pe_callD (d_is_from A) hr (by decide) (by rfl) pass0 (pa_cons (pe_ix ix_tup (pv 0) pe_int (fun _ _ => rfl)) (pa_cons pe_int (pa_cons (pe_op op_sub (pe_ix ix_tup (pv 0) pe_int (fun _ _ => rfl)) pe_int) pa_nil)))))))))
 (pss_one (ps_ret pe_bl))
 pss_nil)
 (pss_one (ps_ret (pe_callD (d_is_from A) hr (by decide) (by rfl) pass0 (pa_cons (pe_ix ix_tup (pv 0) pe_int (fun _ _ => rfl)) (pa_cons (pe_un un_neg (pe_glob (v := .int 1000000) (by rfl) A.c_MOST_SHIFT.choose_spec ⟨_, rfl⟩)) (pa_cons (pe_glob (v := .int 1000000) (by rfl) A.c_MOST_SHIFT.choose_spec ⟨_, rfl⟩) pa_nil)))))))), ?_⟩
    rcases h with ⟨a, d, t, b, s, rfl, hl, hk, q⟩ | ⟨⟨n, hk, hn⟩ | ⟨a, xs, rfl, hl, hne⟩ | ⟨a, t, b, s, rfl, hl⟩ | ⟨a, d, t, b, s, rfl, hl, hd, hbb, ht⟩, q⟩
    · obtain ⟨⟨k1, k2⟩, ⟨k3, k4⟩, ⟨k5, k6⟩, k7, k8⟩ := hk
      have kt : Kn K H (.ref a) "tuple" := .tup hl
      refine ⟨_, rfl, _, _, _, _, _, rfl, .ty _, kt.ty, kt.kit (by decide), _, rfl, ?_⟩
      refine iteF ?_
      refine ⟨_, rfl, a, _, rfl, .inr hl, rfl, _, rfl, ?_⟩
      refine iteF ?_
      refine ⟨_, rfl, _, _, _, _, rfl, rfl, hl, (by rfl), _, _, _, _, rfl, .int d, _, rfl, ?_⟩
      rw [isFrom_yes k1 k2]
      refine iteF ?_
      refine ⟨_, rfl, _, _, _, _, rfl, rfl, hl, (by rfl), _, _, _, _, rfl, .int b, _, rfl, ?_⟩
      rw [isFrom_yes k5 k6]
      refine iteF ?_
      refine ⟨_, rfl, _, _, _, _, rfl, rfl, hl, (by rfl), _, rfl, _, _, _, _, rfl, rfl, hl, (by rfl), _, _, rfl, rfl, _, _, _, _, rfl, .int t, _, rfl, ?_⟩
      rw [isFrom_yes k3 (by omega)]
      refine iteF ?_
      refine ⟨_, rfl, _, _, _, _, rfl, rfl, hl, (by rfl), _, rfl, _, _, _, _, rfl, .int s, ?_⟩
      rw [isFrom_yes (by omega) (by omega)]
      exact q
    · refine ⟨_, rfl, _, _, _, _, _, rfl, .ty _, hk.ty, hk.kit (by decide), _, rfl, ?_⟩
      have e : kindIs n "tuple" = false := by
        unfold kindIs
        rw [show (n == "tuple") = false from beq_eq_false_iff_ne.mpr hn]
        simp
      rw [e]
      exact iteT q
    · have kt : Kn K H (.ref a) "tuple" := .tup hl
      refine ⟨_, rfl, _, _, _, _, _, rfl, .ty _, kt.ty, kt.kit (by decide), _, rfl, ?_⟩
      refine iteF ?_
      refine ⟨_, rfl, a, _, rfl, .inr hl, rfl, _, rfl, ?_⟩
      exact ite2 (fun _ => iteT q) (fun z => absurd (show (!decide (V.int (xs.length : Int) = V.int 4)) = true by rw [decide_eq_false (fun z => by have := V.int.inj z; omega)]; rfl) z)
    · have kt : Kn K H (.ref a) "tuple" := .tup hl
      refine ⟨_, rfl, _, _, _, _, _, rfl, .ty _, kt.ty, kt.kit (by decide), _, rfl, ?_⟩
      refine iteF ?_
      refine ⟨_, rfl, a, _, rfl, .inr hl, rfl, _, rfl, ?_⟩
      refine iteF ?_
      refine ⟨_, rfl, _, _, _, _, rfl, rfl, hl, (by rfl), _, _, _, _, rfl, .int 0, _, rfl, ?_⟩
      rw [show isFrom (.int 0) 1 400 = false from by decide]
      exact iteT q
    · have kt : Kn K H (.ref a) "tuple" := .tup hl
      refine ⟨_, rfl, _, _, _, _, _, rfl, .ty _, kt.ty, kt.kit (by decide), _, rfl, ?_⟩
      refine iteF ?_
      refine ⟨_, rfl, a, _, rfl, .inr hl, rfl, _, rfl, ?_⟩
      refine iteF ?_
      refine ⟨_, rfl, _, _, _, _, rfl, rfl, hl, (by rfl), _, _, _, _, rfl, .int d, _, rfl, ?_⟩
      rw [isFrom_yes hd.1 hd.2]
      refine iteF ?_
      refine ⟨_, rfl, _, _, _, _, rfl, rfl, hl, (by rfl), _, _, _, _, rfl, .int b, _, rfl, ?_⟩
      rw [isFrom_yes hbb.1 hbb.2]
      refine iteF ?_
      refine ⟨_, rfl, _, _, _, _, rfl, rfl, hl, (by rfl), _, rfl, _, _, _, _, rfl, rfl, hl, (by rfl), _, _, rfl, rfl, _, _, _, _, rfl, .int t, _, rfl, ?_⟩
      rw [show isFrom (.int t) 0 (b - 1) = false from by rw [isFrom_int, decide_eq_false (show ¬ t ≤ b - 1 by omega), Bool.and_false]]
      exact iteT q
def sp_need_land (K : PySem.W.Frag) : Sp := fun vs H Q _ => ∃ (a : Addr) (d t b s : Int), vs = [.ref a] ∧ Ld K H a d t b s ∧ LandOk d t b s ∧ Q .non H
theorem d_need_land (A : All K mg) : Df P w K mg base CX0 "need_land" 3 ["land"] (sp_need_land K) := by
  obtain ⟨f, fd, F, hm, hb⟩ := A.t_need_land
  refine ⟨f, fd, F.ok sc_need_land (fun vs H Q E h => ?_) (fun cdv A' outer s H vs Q E hr h => ?_), hm, F.kp, hb⟩
  · obtain ⟨a, d, t, b, s, rfl, _⟩ := h; rfl
  · obtain ⟨a, d, t, b, s, rfl, hl, hk, q⟩ := h
    refine ⟨_, (pss_one (ps_if (pt_not (pt_val (pe_callD (d_is_land A) hr (by decide) (by rfl) pass0 (pa_cons (pv 0) pa_nil))))
 (pss_one ps_never)
 pss_nil)), ?_⟩
    refine ⟨_, rfl, a, d, t, b, s, rfl, hl, hk, _, rfl, ?_⟩
    exact iteF q

def sp_r_need_land (K : PySem.W.Frag) (mg : Str → Option Value) : Sp := fun vs H Q E => ∃ x, vs = [x] ∧ ((∃ (a : Addr) (d t b s : Int), x = .ref a ∧ Ld K H a d t b s ∧ LandOk d t b s ∧ Q .non H) ∨ (NoLandV K H x ∧ ∀ D, Rf K mg D "NoLand" → E (.ref D) none H))
theorem rd_need_land (A : All K mg) : Df P w K mg base (L2N.CX P w) "need_land" 3 ["land"] (sp_r_need_land K mg) := by
  obtain ⟨f, fd, F, hm, hb⟩ := A.t_need_land
  refine ⟨f, fd, Fun.okN F sc_need_land (fun vs H Q E h => ?_) (fun cdv A' outer sh H vs Q E hr h => ?_), hm, F.kp, hb⟩
  · obtain ⟨x, rfl, _⟩ := h; rfl
  · obtain ⟨x, rfl, h⟩ := h
    obtain ⟨cY, c0, c1, c2, c3, c4, c5, c6, c7, c8, ER⟩ := A.er
    have EC0 := ec_of (ER.ec c0 (by simp))
    have tk := L2N.takes_of (X := cxOf (L2N.CX P w) P w K mg base ["land"] "need_land" (defScope s_need_land) f cdv A' outer sh H E) rfl rfl rfl rfl
    refine ⟨_, (pss_one (ps_if (pt_not (pt_val (pe_callD (rd_is_land A) hr (by decide) (by rfl) (L2N.passes_call tk (fun _ _ _ _ h => h)) (pa_cons (pv 0) pa_nil))))
 (pss_one (L2N.ps_raise rfl tk (L2N.pmk_own PySem.F.excBase_ValueError EC0.ex ER.m0 EC0.kp (raises_own EC0.sub EC0.ty) (by rfl))))
 pss_nil)), ?_⟩
    rcases h with ⟨a, d, t, b, s, rfl, hl, hk, q⟩ | ⟨hx, q⟩
    · exact ⟨_, rfl, _, rfl, .inl ⟨a, d, t, b, s, rfl, hl, hk, _, rfl, iteF q⟩⟩
    · exact ⟨_, rfl, _, rfl, .inr ⟨hx, _, rfl, iteT (q c0 ⟨cY, c0, c1, c2, c3, c4, c5, c6, c7, c8, ER, by simp [errs]⟩)⟩⟩
def sp_need_year : Sp := fun vs H Q _ => ∃ (y : Int), vs = [.int y] ∧ Far y ∧ Q .non H
theorem d_need_year (A : All K mg) : Df P w K mg base CX0 "need_year" 2 ["year"] sp_need_year := by
  obtain ⟨f, fd, F, hm, hb⟩ := A.t_need_year
  refine ⟨f, fd, F.ok sc_need_year (fun vs H Q E h => ?_) (fun cdv A' outer s H vs Q E hr h => ?_), hm, F.kp, hb⟩
  · obtain ⟨y, rfl, _⟩ := h; rfl
  · obtain ⟨y, rfl, ⟨h1, h2⟩, q⟩ := h
    refine ⟨_, (pss_one (ps_if (pt_not (pt_val (pe_callD (d_is_from A) hr (by decide) (by rfl) pass0 (pa_cons (pv 0) (pa_cons (pe_un un_neg (pe_glob (v := .int 1000000000000000000000000000000) (by rfl) A.c_FAR.choose_spec ⟨_, rfl⟩)) (pa_cons (pe_glob (v := .int 1000000000000000000000000000000) (by rfl) A.c_FAR.choose_spec ⟨_, rfl⟩) pa_nil))))))
 (pss_one ps_never)
 pss_nil)), ?_⟩
    refine ⟨_, rfl, _, rfl, _, _, _, _, rfl, .int y, _, rfl, ?_⟩
    rw [isFrom_yes h1 h2]
    exact iteF q

def sp_r_need_year (K : PySem.W.Frag) (mg : Str → Option Value) : Sp := fun vs H Q E => ∃ (x : V) (n : String), vs = [x] ∧ Kn K H x n ∧ (isFrom x (-1000000000000000000000000000000) 1000000000000000000000000000000 = true → Q .non H) ∧ (isFrom x (-1000000000000000000000000000000) 1000000000000000000000000000000 = false → ∀ D, Rf K mg D "NoYear" → E (.ref D) none H)
theorem rd_need_year (A : All K mg) : Df P w K mg base (L2N.CX P w) "need_year" 2 ["year"] (sp_r_need_year K mg) := by
  obtain ⟨f, fd, F, hm, hb⟩ := A.t_need_year
  refine ⟨f, fd, Fun.okN F sc_need_year (fun vs H Q E h => ?_) (fun cdv A' outer sh H vs Q E hr h => ?_), hm, F.kp, hb⟩
  · obtain ⟨x, n, rfl, _⟩ := h; rfl
  · obtain ⟨x, n, rfl, hx, q1, q2⟩ := h
    obtain ⟨cY, c0, c1, c2, c3, c4, c5, c6, c7, c8, ER⟩ := A.er
    have EC1 := ec_of (ER.ec c1 (by simp))
    have tk := L2N.takes_of (X := cxOf (L2N.CX P w) P w K mg base ["year"] "need_year" (defScope s_need_year) f cdv A' outer sh H E) rfl rfl rfl rfl
    refine ⟨_, (pss_one (ps_if (pt_not (pt_val (pe_callD (d_is_from A) hr (by decide) (by rfl) pass0 (pa_cons (pv 0) (pa_cons (pe_un un_neg (pe_glob (v := .int 1000000000000000000000000000000) (by rfl) A.c_FAR.choose_spec ⟨_, rfl⟩)) (pa_cons (pe_glob (v := .int 1000000000000000000000000000000) (by rfl) A.c_FAR.choose_spec ⟨_, rfl⟩) pa_nil))))))
 (pss_one (L2N.ps_raise rfl tk (L2N.pmk_own PySem.F.excBase_ValueError EC1.ex ER.m1 EC1.kp (raises_own EC1.sub EC1.ty) (by rfl))))
 pss_nil)), ?_⟩
    refine ⟨_, rfl, _, rfl, _, _, _, _, rfl, hx, _, rfl, ?_⟩
    cases c : isFrom x (-1000000000000000000000000000000) 1000000000000000000000000000000 with
    | true => exact iteF (q1 c)
    | false => exact iteT (q2 c c1 ⟨cY, c0, c1, c2, c3, c4, c5, c6, c7, c8, ER, by simp [errs]⟩)
def sp_need_day : Sp := fun vs H Q _ => ∃ (y : Int), vs = [.int y] ∧ Far y ∧ Q .non H
theorem d_need_day (A : All K mg) : Df P w K mg base CX0 "need_day" 2 ["day"] sp_need_day := by
  obtain ⟨f, fd, F, hm, hb⟩ := A.t_need_day
  refine ⟨f, fd, F.ok sc_need_day (fun vs H Q E h => ?_) (fun cdv A' outer s H vs Q E hr h => ?_), hm, F.kp, hb⟩
  · obtain ⟨y, rfl, _⟩ := h; rfl
  · obtain ⟨y, rfl, ⟨h1, h2⟩, q⟩ := h
    refine ⟨_, (pss_one (ps_if (pt_not (pt_val (pe_callD (d_is_from A) hr (by decide) (by rfl) pass0 (pa_cons (pv 0) (pa_cons (pe_un un_neg (pe_glob (v := .int 1000000000000000000000000000000) (by rfl) A.c_FAR.choose_spec ⟨_, rfl⟩)) (pa_cons (pe_glob (v := .int 1000000000000000000000000000000) (by rfl) A.c_FAR.choose_spec ⟨_, rfl⟩) pa_nil))))))
 (pss_one ps_never)
 pss_nil)), ?_⟩
    refine ⟨_, rfl, _, rfl, _, _, _, _, rfl, .int y, _, rfl, ?_⟩
    rw [isFrom_yes h1 h2]
    exact iteF q

def sp_r_need_day (K : PySem.W.Frag) (mg : Str → Option Value) : Sp := fun vs H Q E => ∃ (x : V) (n : String), vs = [x] ∧ Kn K H x n ∧ (isFrom x (-1000000000000000000000000000000) 1000000000000000000000000000000 = true → Q .non H) ∧ (isFrom x (-1000000000000000000000000000000) 1000000000000000000000000000000 = false → ∀ D, Rf K mg D "NoDay" → E (.ref D) none H)
theorem rd_need_day (A : All K mg) : Df P w K mg base (L2N.CX P w) "need_day" 2 ["day"] (sp_r_need_day K mg) := by
  obtain ⟨f, fd, F, hm, hb⟩ := A.t_need_day
  refine ⟨f, fd, Fun.okN F sc_need_day (fun vs H Q E h => ?_) (fun cdv A' outer sh H vs Q E hr h => ?_), hm, F.kp, hb⟩
  · obtain ⟨x, n, rfl, _⟩ := h; rfl
  · obtain ⟨x, n, rfl, hx, q1, q2⟩ := h
    obtain ⟨cY, c0, c1, c2, c3, c4, c5, c6, c7, c8, ER⟩ := A.er
    have EC2 := ec_of (ER.ec c2 (by simp))
    have tk := L2N.takes_of (X := cxOf (L2N.CX P w) P w K mg base ["day"] "need_day" (defScope s_need_day) f cdv A' outer sh H E) rfl rfl rfl rfl
    refine ⟨_, (pss_one (ps_if (pt_not (pt_val (pe_callD (d_is_from A) hr (by decide) (by rfl) pass0 (pa_cons (pv 0) (pa_cons (pe_un un_neg (pe_glob (v := .int 1000000000000000000000000000000) (by rfl) A.c_FAR.choose_spec ⟨_, rfl⟩)) (pa_cons (pe_glob (v := .int 1000000000000000000000000000000) (by rfl) A.c_FAR.choose_spec ⟨_, rfl⟩) pa_nil))))))
 (pss_one (L2N.ps_raise rfl tk (L2N.pmk_own PySem.F.excBase_ValueError EC2.ex ER.m2 EC2.kp (raises_own EC2.sub EC2.ty) (by rfl))))
 pss_nil)), ?_⟩
    refine ⟨_, rfl, _, rfl, _, _, _, _, rfl, hx, _, rfl, ?_⟩
    cases c : isFrom x (-1000000000000000000000000000000) 1000000000000000000000000000000 with
    | true => exact iteF (q1 c)
    | false => exact iteT (q2 c c2 ⟨cY, c0, c1, c2, c3, c4, c5, c6, c7, c8, ER, by simp [errs]⟩)
def sp_r_begin (K : PySem.W.Frag) (mg : Str → Option Value) : Sp := fun vs H Q E => ∃ (x y : V), vs = [x, y] ∧ ((NoLandV K H x ∧ ∀ D, Rf K mg D "NoLand" → E (.ref D) none H) ∨ (∃ (a : Addr) (d t b s : Int) (n : String), x = .ref a ∧ Ld K H a d t b s ∧ LandOk d t b s ∧ Kn K H y n ∧ isFrom y (-1000000000000000000000000000000) 1000000000000000000000000000000 = false ∧ ∀ D, Rf K mg D "NoYear" → E (.ref D) none H))
theorem rd_begin (A : All K mg) : Df P w K mg base (L2N.CX P w) "begin" 4 ["land", "year"] (sp_r_begin K mg) := by
  obtain ⟨f, fd, F, hm, hb⟩ := A.t_begin
  refine ⟨f, fd, Fun.okN F sc_begin (fun vs H Q E h => ?_) (fun cdv A' outer sh H vs Q E hr h => ?_), hm, F.kp, hb⟩
  · obtain ⟨x, y, rfl, _⟩ := h; rfl
  · obtain ⟨x, y, rfl, h⟩ := h
    have tk := L2N.takes_of (X := cxOf (L2N.CX P w) P w K mg base ["land", "year"] "begin" (defScope s_begin) f cdv A' outer sh H E) rfl rfl rfl rfl
    refine ⟨_, (pss_cons (ps_expr (pe_callD (rd_need_land A) hr (by decide) (by rfl) (L2N.passes_call tk (fun _ _ _ _ h => h)) (pa_cons (pv 0) pa_nil)))
 (pss_cons (ps_expr (pe_callD (rd_need_year A) hr (by decide) (by rfl) (L2N.passes_call tk (fun _ _ _ _ h => h)) (pa_cons (pv 1) pa_nil)))
 (pss_one ps_never))), ?_⟩
    rcases h with ⟨hx, q⟩ | ⟨a, d, t, b, s, n, rfl, hl, hk, hy, hz, q⟩
    · exact ⟨_, rfl, _, rfl, .inr ⟨hx, q⟩⟩
    · exact ⟨_, rfl, _, rfl, .inl ⟨a, d, t, b, s, rfl, hl, hk, _, rfl, _, n, rfl, hy, fun z => (by rw [hz] at z; cases z), fun _ D hD => q D hD⟩⟩

def sp_r_date (K : PySem.W.Frag) (mg : Str → Option Value) : Sp := fun vs H Q E => ∃ (x y : V), vs = [x, y] ∧ ((NoLandV K H x ∧ ∀ D, Rf K mg D "NoLand" → E (.ref D) none H) ∨ (∃ (a : Addr) (d t b s : Int) (n : String), x = .ref a ∧ Ld K H a d t b s ∧ LandOk d t b s ∧ Kn K H y n ∧ isFrom y (-1000000000000000000000000000000) 1000000000000000000000000000000 = false ∧ ∀ D, Rf K mg D "NoDay" → E (.ref D) none H))
theorem rd_date (A : All K mg) : Df P w K mg base (L2N.CX P w) "date" 4 ["land", "day"] (sp_r_date K mg) := by
  obtain ⟨f, fd, F, hm, hb⟩ := A.t_date
  refine ⟨f, fd, Fun.okN F sc_date (fun vs H Q E h => ?_) (fun cdv A' outer sh H vs Q E hr h => ?_), hm, F.kp, hb⟩
  · obtain ⟨x, y, rfl, _⟩ := h; rfl
  · obtain ⟨x, y, rfl, h⟩ := h
    have tk := L2N.takes_of (X := cxOf (L2N.CX P w) P w K mg base ["land", "day"] "date" (defScope s_date) f cdv A' outer sh H E) rfl rfl rfl rfl
    refine ⟨_, (pss_cons (ps_expr (pe_callD (rd_need_land A) hr (by decide) (by rfl) (L2N.passes_call tk (fun _ _ _ _ h => h)) (pa_cons (pv 0) pa_nil)))
 (pss_cons (ps_expr (pe_callD (rd_need_day A) hr (by decide) (by rfl) (L2N.passes_call tk (fun _ _ _ _ h => h)) (pa_cons (pv 1) pa_nil)))
 (pss_one ps_never))), ?_⟩
    rcases h with ⟨hx, q⟩ | ⟨a, d, t, b, s, n, rfl, hl, hk, hy, hz, q⟩
    · exact ⟨_, rfl, _, rfl, .inr ⟨hx, q⟩⟩
    · exact ⟨_, rfl, _, rfl, .inl ⟨a, d, t, b, s, rfl, hl, hk, _, rfl, _, n, rfl, hy, fun z => (by rw [hz] at z; cases z), fun _ D hD => q D hD⟩⟩

def sp_r_is_long (K : PySem.W.Frag) (mg : Str → Option Value) : Sp := fun vs H Q E => ∃ (x y : V), vs = [x, y] ∧ ((NoLandV K H x ∧ ∀ D, Rf K mg D "NoLand" → E (.ref D) none H) ∨ (∃ (a : Addr) (d t b s : Int) (n : String), x = .ref a ∧ Ld K H a d t b s ∧ LandOk d t b s ∧ Kn K H y n ∧ isFrom y (-1000000000000000000000000000000) 1000000000000000000000000000000 = false ∧ ∀ D, Rf K mg D "NoYear" → E (.ref D) none H))
theorem rd_is_long (A : All K mg) : Df P w K mg base (L2N.CX P w) "is_long" 4 ["land", "year"] (sp_r_is_long K mg) := by
  obtain ⟨f, fd, F, hm, hb⟩ := A.t_is_long
  refine ⟨f, fd, Fun.okN F sc_is_long (fun vs H Q E h => ?_) (fun cdv A' outer sh H vs Q E hr h => ?_), hm, F.kp, hb⟩
  · obtain ⟨x, y, rfl, _⟩ := h; rfl
  · obtain ⟨x, y, rfl, h⟩ := h
    have tk := L2N.takes_of (X := cxOf (L2N.CX P w) P w K mg base ["land", "year"] "is_long" (defScope s_is_long) f cdv A' outer sh H E) rfl rfl rfl rfl
    refine ⟨_, (pss_cons (ps_expr (pe_callD (rd_need_land A) hr (by decide) (by rfl) (L2N.passes_call tk (fun _ _ _ _ h => h)) (pa_cons (pv 0) pa_nil)))
 (pss_cons (ps_expr (pe_callD (rd_need_year A) hr (by decide) (by rfl) (L2N.passes_call tk (fun _ _ _ _ h => h)) (pa_cons (pv 1) pa_nil)))
 (pss_one ps_never))), ?_⟩
    rcases h with ⟨hx, q⟩ | ⟨a, d, t, b, s, n, rfl, hl, hk, hy, hz, q⟩
    · exact ⟨_, rfl, _, rfl, .inr ⟨hx, q⟩⟩
    · exact ⟨_, rfl, _, rfl, .inl ⟨a, d, t, b, s, rfl, hl, hk, _, rfl, _, n, rfl, hy, fun z => (by rw [hz] at z; cases z), fun _ D hD => q D hD⟩⟩

def sp_r_next_long (K : PySem.W.Frag) (mg : Str → Option Value) : Sp := fun vs H Q E => ∃ (x y : V), vs = [x, y] ∧ ((NoLandV K H x ∧ ∀ D, Rf K mg D "NoLand" → E (.ref D) none H) ∨ (∃ (a : Addr) (d t b s : Int) (n : String), x = .ref a ∧ Ld K H a d t b s ∧ LandOk d t b s ∧ Kn K H y n ∧ isFrom y (-1000000000000000000000000000000) 1000000000000000000000000000000 = false ∧ ∀ D, Rf K mg D "NoYear" → E (.ref D) none H))
theorem rd_next_long (A : All K mg) : Df P w K mg base (L2N.CX P w) "next_long" 4 ["land", "year"] (sp_r_next_long K mg) := by
  obtain ⟨f, fd, F, hm, hb⟩ := A.t_next_long
  refine ⟨f, fd, Fun.okN F sc_next_long (fun vs H Q E h => ?_) (fun cdv A' outer sh H vs Q E hr h => ?_), hm, F.kp, hb⟩
  · obtain ⟨x, y, rfl, _⟩ := h; rfl
  · obtain ⟨x, y, rfl, h⟩ := h
    have tk := L2N.takes_of (X := cxOf (L2N.CX P w) P w K mg base ["land", "year", "wanted"] "next_long" (defScope s_next_long) f cdv A' outer sh H E) rfl rfl rfl rfl
    refine ⟨_, (pss_cons (ps_expr (pe_callD (rd_need_land A) hr (by decide) (by rfl) (L2N.passes_call tk (fun _ _ _ _ h => h)) (pa_cons (pv 0) pa_nil)))
 (pss_cons (ps_expr (pe_callD (rd_need_year A) hr (by decide) (by rfl) (L2N.passes_call tk (fun _ _ _ _ h => h)) (pa_cons (pv 1) pa_nil)))
 (pss_cons ps_never
 (pss_cons ps_never
 (pss_one ps_never))))), ?_⟩
    rcases h with ⟨hx, q⟩ | ⟨a, d, t, b, s, n, rfl, hl, hk, hy, hz, q⟩
    · exact ⟨_, rfl, _, rfl, .inr ⟨hx, q⟩⟩
    · exact ⟨_, rfl, _, rfl, .inl ⟨a, d, t, b, s, rfl, hl, hk, _, rfl, _, n, rfl, hy, fun z => (by rw [hz] at z; cases z), fun _ D hD => q D hD⟩⟩

def sp_r_long_years (K : PySem.W.Frag) (mg : Str → Option Value) : Sp := fun vs H Q E => ∃ (x y z : V), vs = [x, y, z] ∧ ((NoLandV K H x ∧ ∀ D, Rf K mg D "NoLand" → E (.ref D) none H) ∨ (∃ (a : Addr) (d t b s : Int) (n : String), x = .ref a ∧ Ld K H a d t b s ∧ LandOk d t b s ∧ Kn K H y n ∧ isFrom y (-1000000000000000000000000000000) 1000000000000000000000000000000 = false ∧ ∀ D, Rf K mg D "NoYear" → E (.ref D) none H))
theorem rd_long_years (A : All K mg) : Df P w K mg base (L2N.CX P w) "long_years" 4 ["land", "first", "last"] (sp_r_long_years K mg) := by
  obtain ⟨f, fd, F, hm, hb⟩ := A.t_long_years
  refine ⟨f, fd, Fun.okN F sc_long_years (fun vs H Q E h => ?_) (fun cdv A' outer sh H vs Q E hr h => ?_), hm, F.kp, hb⟩
  · obtain ⟨x, y, z, rfl, _⟩ := h; rfl
  · obtain ⟨x, y, z, rfl, h⟩ := h
    obtain ⟨cY, c0, c1, c2, c3, c4, c5, c6, c7, c8, ER⟩ := A.er
    have EC1 := ec_of (ER.ec c1 (by simp))
    have tk := L2N.takes_of (X := cxOf (L2N.CX P w) P w K mg base ["land", "first", "last"] "long_years" (defScope s_long_years) f cdv A' outer sh H E) rfl rfl rfl rfl
    refine ⟨_, (pss_cons (ps_expr (pe_callD (rd_need_land A) hr (by decide) (by rfl) (L2N.passes_call tk (fun _ _ _ _ h => h)) (pa_cons (pv 0) pa_nil)))
 (pss_cons (ps_expr (pe_callD (rd_need_year A) hr (by decide) (by rfl) (L2N.passes_call tk (fun _ _ _ _ h => h)) (pa_cons (pv 1) pa_nil)))
 (pss_cons (ps_if (pt_not (pt_val (pe_callD (d_is_from A) hr (by decide) (by rfl) pass0 (pa_cons (pv 2) (pa_cons (pv 1) (pa_cons (pe_glob (v := .int 1000000000000000000000000000000) (by rfl) A.c_FAR.choose_spec ⟨_, rfl⟩) pa_nil))))))
 (pss_one (L2N.ps_raise rfl tk (L2N.pmk_own PySem.F.excBase_ValueError EC1.ex ER.m1 EC1.kp (raises_own EC1.sub EC1.ty) (by rfl))))
 pss_nil)
 (pss_one ps_never)))), ?_⟩
    rcases h with ⟨hx, q⟩ | ⟨a, d, t, b, s, n, rfl, hl, hk, hy, hz, q⟩
    · exact ⟨_, rfl, _, rfl, .inr ⟨hx, q⟩⟩
    · exact ⟨_, rfl, _, rfl, .inl ⟨a, d, t, b, s, rfl, hl, hk, _, rfl, _, n, rfl, hy, fun z => (by rw [hz] at z; cases z), fun _ D hD => q D hD⟩⟩

/-- how need_name goes -/
inductive NameO (K : PySem.W.Frag) (H : Hp) : V → V → V → V → Option String → Prop where
  | land {x p w n : V} : NoLandV K H x → NameO K H x p w n (some "NoLand")
  | place {a : Addr} {d t b s : Int} {p w n : V} {k : String} : Ld K H a d t b s → LandOk d t b s → Kn K H p k → isFrom p 0 (d - 1) = false → NameO K H (.ref a) p w n (some "NoPlace")
  | week {a : Addr} {d t b s : Int} {p w n : V} {k k2 : String} : Ld K H a d t b s → LandOk d t b s → Kn K H p k → isFrom p 0 (d - 1) = true → Kn K H w k2 → isFrom w 1 20 = false → NameO K H (.ref a) p w n (some "NoWeek")
  | name {a : Addr} {d t b s wk : Int} {p n : V} {k k3 : String} : Ld K H a d t b s → LandOk d t b s → Kn K H p k → isFrom p 0 (d - 1) = true → isFrom (.int wk) 1 20 = true → Kn K H n k3 → isFrom n 0 (wk - 1) = false → NameO K H (.ref a) p (.int wk) n (some "NoName")
  | ok {a : Addr} {d t b s wk : Int} {p n : V} {k k3 : String} : Ld K H a d t b s → LandOk d t b s → Kn K H p k → isFrom p 0 (d - 1) = true → isFrom (.int wk) 1 20 = true → Kn K H n k3 → isFrom n 0 (wk - 1) = true → NameO K H (.ref a) p (.int wk) n none
def outO (K : PySem.W.Frag) (mg : Str → Option Value) (H : Hp) (Q : VK) (E : XK) : Option String → Prop
  | none => Q .non H
  | some dn => ∀ D, Rf K mg D dn → E (.ref D) none H
def sp_r_need_name (K : PySem.W.Frag) (mg : Str → Option Value) : Sp := fun vs H Q E => ∃ (x p w n : V) (o : Option String), vs = [x, p, w, n] ∧ NameO K H x p w n o ∧ outO K mg H Q E o
theorem rd_need_name (A : All K mg) : Df P w K mg base (L2N.CX P w) "need_name" 4 ["land", "place", "week", "name"] (sp_r_need_name K mg) := by
  obtain ⟨f, fd, F, hm, hb⟩ := A.t_need_name
  refine ⟨f, fd, Fun.okN F sc_need_name (fun vs H Q E h => ?_) (fun cdv A' outer sh H vs Q E hr h => ?_), hm, F.kp, hb⟩
  · obtain ⟨x, p, v, n, o, rfl, _⟩ := h; rfl
  · obtain ⟨x, p, v, n, o, rfl, h⟩ := h
    obtain ⟨cY, c0, c1, c2, c3, c4, c5, c6, c7, c8, ER⟩ := A.er
    have EC3 := ec_of (ER.ec c3 (by simp))
    have EC4 := ec_of (ER.ec c4 (by simp))
    have EC5 := ec_of (ER.ec c5 (by simp))
    have tk := L2N.takes_of (X := cxOf (L2N.CX P w) P w K mg base ["land", "place", "week", "name"] "need_name" (defScope s_need_name) f cdv A' outer sh H E) rfl rfl rfl rfl
    refine ⟨_, (pss_cons (ps_expr (pe_callD (rd_need_land A) hr (by decide) (by rfl) (L2N.passes_call tk (fun _ _ _ _ h => h)) (pa_cons (pv 0) pa_nil)))
 (pss_cons (ps_if (pt_not (pt_val (pe_callD (d_is_from A) hr (by decide) (by rfl) pass0 (pa_cons (pv 1) (pa_cons pe_int (pa_cons (pe_op op_sub (pe_ix ix_tup (pv 0) pe_int (fun _ _ => rfl)) pe_int) pa_nil))))))
 (pss_one (L2N.ps_raise rfl tk (L2N.pmk_own PySem.F.excBase_ValueError EC3.ex ER.m3 EC3.kp (raises_own EC3.sub EC3.ty) (by rfl))))
 pss_nil)
 (pss_cons (ps_if (pt_not (pt_val (pe_callD (d_is_from A) hr (by decide) (by rfl) pass0 (pa_cons (pv 2) (pa_cons pe_int (pa_cons (pe_glob (v := .int 20) (by rfl) A.c_MOST_WEEK.choose_spec ⟨_, rfl⟩) pa_nil))))))
 (pss_one (L2N.ps_raise rfl tk (L2N.pmk_own PySem.F.excBase_ValueError EC4.ex ER.m4 EC4.kp (raises_own EC4.sub EC4.ty) (by rfl))))
 pss_nil)
 (pss_one (ps_if (pt_not (pt_val (pe_callD (d_is_from A) hr (by decide) (by rfl) pass0 (pa_cons (pv 3) (pa_cons pe_int (pa_cons (pe_op op_sub (pv 2) pe_int) pa_nil))))))
 (pss_one (L2N.ps_raise rfl tk (L2N.pmk_own PySem.F.excBase_ValueError EC5.ex ER.m5 EC5.kp (raises_own EC5.sub EC5.ty) (by rfl))))
 pss_nil))))), ?_⟩
    obtain ⟨h, q⟩ := h
    have rf : ∀ {dn : String} {D : Addr}, (dn, D) ∈ errs.zip [c0, c1, c2, c3, c4, c5, c6, c7, c8] → Rf K mg D dn := fun h => ⟨cY, c0, c1, c2, c3, c4, c5, c6, c7, c8, ER, h⟩
    cases h with
    | land hx => exact ⟨_, rfl, _, rfl, .inr ⟨hx, q⟩⟩
    | place hl hk hp z1 =>
      refine ⟨_, rfl, _, rfl, .inl ⟨_, _, _, _, _, rfl, hl, hk, ?_⟩⟩
      refine ⟨_, rfl, _, rfl, _, _, _, _, rfl, rfl, hl, (by rfl), _, _, rfl, rfl, _, _, _, _, rfl, hp, _, rfl, ?_⟩
      rw [z1]
      exact iteT (q c3 (rf (by simp [errs])))
    | week hl hk hp z1 hw z2 =>
      refine ⟨_, rfl, _, rfl, .inl ⟨_, _, _, _, _, rfl, hl, hk, ?_⟩⟩
      refine ⟨_, rfl, _, rfl, _, _, _, _, rfl, rfl, hl, (by rfl), _, _, rfl, rfl, _, _, _, _, rfl, hp, _, rfl, ?_⟩
      rw [z1]
      refine iteF ?_
      refine ⟨_, rfl, _, _, _, _, rfl, hw, _, rfl, ?_⟩
      rw [z2]
      exact iteT (q c4 (rf (by simp [errs])))
    | name hl hk hp z1 z2 hn z3 =>
      refine ⟨_, rfl, _, rfl, .inl ⟨_, _, _, _, _, rfl, hl, hk, ?_⟩⟩
      refine ⟨_, rfl, _, rfl, _, _, _, _, rfl, rfl, hl, (by rfl), _, _, rfl, rfl, _, _, _, _, rfl, hp, _, rfl, ?_⟩
      rw [z1]
      refine iteF ?_
      refine ⟨_, rfl, _, _, _, _, rfl, .int _, _, rfl, ?_⟩
      rw [z2]
      refine iteF ?_
      refine ⟨_, rfl, _, rfl, _, _, rfl, rfl, _, _, _, _, rfl, hn, _, rfl, ?_⟩
      rw [z3]
      exact iteT (q c5 (rf (by simp [errs])))
    | ok hl hk hp z1 z2 hn z3 =>
      refine ⟨_, rfl, _, rfl, .inl ⟨_, _, _, _, _, rfl, hl, hk, ?_⟩⟩
      refine ⟨_, rfl, _, rfl, _, _, _, _, rfl, rfl, hl, (by rfl), _, _, rfl, rfl, _, _, _, _, rfl, hp, _, rfl, ?_⟩
      rw [z1]
      refine iteF ?_
      refine ⟨_, rfl, _, _, _, _, rfl, .int _, _, rfl, ?_⟩
      rw [z2]
      refine iteF ?_
      refine ⟨_, rfl, _, rfl, _, _, rfl, rfl, _, _, _, _, rfl, hn, _, rfl, ?_⟩
      rw [z3]
      exact iteF q

def sp_r_next_year (K : PySem.W.Frag) (mg : Str → Option Value) : Sp := fun vs H Q E => ∃ (x p v n z : V), vs = [x, p, v, n, z] ∧ ((∃ dn, NameO K H x p v n (some dn) ∧ ∀ D, Rf K mg D dn → E (.ref D) none H) ∨ (NameO K H x p v n none ∧ ∃ k, Kn K H z k ∧ isFrom z (-1000000000000000000000000000000) 1000000000000000000000000000000 = false ∧ ∀ D, Rf K mg D "NoYear" → E (.ref D) none H))
theorem rd_next_year (A : All K mg) : Df P w K mg base (L2N.CX P w) "next_year" 5 ["land", "place", "week", "name", "year"] (sp_r_next_year K mg) := by
  obtain ⟨f, fd, F, hm, hb⟩ := A.t_next_year
  refine ⟨f, fd, Fun.okN F sc_next_year (fun vs H Q E h => ?_) (fun cdv A' outer sh H vs Q E hr h => ?_), hm, F.kp, hb⟩
  · obtain ⟨x, p, v, n, z, rfl, _⟩ := h; rfl
  · obtain ⟨x, p, v, n, z, rfl, h⟩ := h
    have tk := L2N.takes_of (X := cxOf (L2N.CX P w) P w K mg base ["land", "place", "week", "name", "year", "rests", "turn"] "next_year" (defScope s_next_year) f cdv A' outer sh H E) rfl rfl rfl rfl
    refine ⟨_, (pss_cons (ps_expr (pe_callD (rd_need_name A) hr (by decide) (by rfl) (L2N.passes_call tk (fun _ _ _ _ h => h)) (pa_cons (pv 0) (pa_cons (pv 1) (pa_cons (pv 2) (pa_cons (pv 3) pa_nil))))))
 (pss_cons (ps_expr (pe_callD (rd_need_year A) hr (by decide) (by rfl) (L2N.passes_call tk (fun _ _ _ _ h => h)) (pa_cons (pv 4) pa_nil)))
 (pss_cons ps_never
 (pss_one ps_never)))), ?_⟩
    rcases h with ⟨dn, h, q⟩ | ⟨h, k, hz, z0, q⟩
    · exact ⟨_, rfl, _, rfl, _, rfl, _, rfl, x, p, v, n, some dn, rfl, h, q⟩
    · exact ⟨_, rfl, _, rfl, _, rfl, _, rfl, x, p, v, n, none, rfl, h, _, rfl, _, k, rfl, hz, fun y => (by rw [z0] at y; cases y), fun _ D hD => q D hD⟩

def sp_r_how_many (K : PySem.W.Frag) (mg : Str → Option Value) : Sp := fun vs H Q E => ∃ (x p v n z y : V), vs = [x, p, v, n, z, y] ∧ ((∃ dn, NameO K H x p v n (some dn) ∧ ∀ D, Rf K mg D dn → E (.ref D) none H) ∨ (NameO K H x p v n none ∧ ((∃ k, Kn K H z k ∧ isFrom z (-1000000000000000000000000000000) 1000000000000000000000000000000 = false ∧ ∀ D, Rf K mg D "NoYear" → E (.ref D) none H) ∨ ∃ (i : Int) (k : String), z = .int i ∧ Far i ∧ Kn K H y k ∧ isFrom y i 1000000000000000000000000000000 = false ∧ ∀ D, Rf K mg D "NoYear" → E (.ref D) none H)))
theorem rd_how_many (A : All K mg) : Df P w K mg base (L2N.CX P w) "how_many" 5 ["land", "place", "week", "name", "first", "last"] (sp_r_how_many K mg) := by
  obtain ⟨f, fd, F, hm, hb⟩ := A.t_how_many
  refine ⟨f, fd, Fun.okN F sc_how_many (fun vs H Q E h => ?_) (fun cdv A' outer sh H vs Q E hr h => ?_), hm, F.kp, hb⟩
  · obtain ⟨x, p, v, n, z, y, rfl, _⟩ := h; rfl
  · obtain ⟨x, p, v, n, z, y, rfl, h⟩ := h
    obtain ⟨cY, c0, c1, c2, c3, c4, c5, c6, c7, c8, ER⟩ := A.er
    have EC1 := ec_of (ER.ec c1 (by simp))
    have rf : ∀ {dn : String} {D : Addr}, (dn, D) ∈ errs.zip [c0, c1, c2, c3, c4, c5, c6, c7, c8] → Rf K mg D dn := fun h => ⟨cY, c0, c1, c2, c3, c4, c5, c6, c7, c8, ER, h⟩
    have tk := L2N.takes_of (X := cxOf (L2N.CX P w) P w K mg base ["land", "place", "week", "name", "first", "last", "rests", "turn"] "how_many" (defScope s_how_many) f cdv A' outer sh H E) rfl rfl rfl rfl
    refine ⟨_, (pss_cons (ps_expr (pe_callD (rd_need_name A) hr (by decide) (by rfl) (L2N.passes_call tk (fun _ _ _ _ h => h)) (pa_cons (pv 0) (pa_cons (pv 1) (pa_cons (pv 2) (pa_cons (pv 3) pa_nil))))))
 (pss_cons (ps_expr (pe_callD (rd_need_year A) hr (by decide) (by rfl) (L2N.passes_call tk (fun _ _ _ _ h => h)) (pa_cons (pv 4) pa_nil)))
 (pss_cons (ps_if (pt_not (pt_val (pe_callD (d_is_from A) hr (by decide) (by rfl) pass0 (pa_cons (pv 5) (pa_cons (pv 4) (pa_cons (pe_glob (v := .int 1000000000000000000000000000000) (by rfl) A.c_FAR.choose_spec ⟨_, rfl⟩) pa_nil))))))
 (pss_one (L2N.ps_raise rfl tk (L2N.pmk_own PySem.F.excBase_ValueError EC1.ex ER.m1 EC1.kp (raises_own EC1.sub EC1.ty) (by rfl))))
 pss_nil)
 (pss_cons ps_never
 (pss_one ps_never))))), ?_⟩
    rcases h with ⟨dn, h, q⟩ | ⟨h, ⟨k, hz, z0, q⟩ | ⟨i, k, rfl, hi, hy, z0, q⟩⟩
    · exact ⟨_, rfl, _, rfl, _, rfl, _, rfl, x, p, v, n, some dn, rfl, h, q⟩
    · exact ⟨_, rfl, _, rfl, _, rfl, _, rfl, x, p, v, n, none, rfl, h, _, rfl, _, k, rfl, hz, fun y => (by rw [z0] at y; cases y), fun _ D hD => q D hD⟩
    · refine ⟨_, rfl, _, rfl, _, rfl, _, rfl, x, p, v, n, none, rfl, h, _, rfl, _, _, rfl, .int i, fun _ => ?_, fun y => (by rw [isFrom_yes hi.1 hi.2] at y; cases y)⟩
      refine ⟨_, rfl, _, rfl, _, _, _, _, rfl, hy, _, rfl, ?_⟩
      rw [z0]
      exact iteT (q c1 (rf (by simp [errs])))

def sp_r_lengths (K : PySem.W.Frag) (mg : Str → Option Value) : Sp := fun vs H Q E => ∃ (x p v n : V) (dn : String), vs = [x, p, v, n] ∧ NameO K H x p v n (some dn) ∧ ∀ D, Rf K mg D dn → E (.ref D) none H
theorem rd_lengths (A : All K mg) : Df P w K mg base (L2N.CX P w) "lengths" 5 ["land", "place", "week", "name"] (sp_r_lengths K mg) := by
  obtain ⟨f, fd, F, hm, hb⟩ := A.t_lengths
  refine ⟨f, fd, Fun.okN F sc_lengths (fun vs H Q E h => ?_) (fun cdv A' outer sh H vs Q E hr h => ?_), hm, F.kp, hb⟩
  · obtain ⟨x, p, v, n, dn, rfl, _⟩ := h; rfl
  · obtain ⟨x, p, v, n, dn, rfl, h⟩ := h
    have tk := L2N.takes_of (X := cxOf (L2N.CX P w) P w K mg base ["land", "place", "week", "name", "rests", "turn", "round_so", "rest", "one", "other"] "lengths" (defScope s_lengths) f cdv A' outer sh H E) rfl rfl rfl rfl
    refine ⟨_, (pss_cons (ps_expr (pe_callD (rd_need_name A) hr (by decide) (by rfl) (L2N.passes_call tk (fun _ _ _ _ h => h)) (pa_cons (pv 0) (pa_cons (pv 1) (pa_cons (pv 2) (pa_cons (pv 3) pa_nil))))))
 (pss_cons ps_never
 (pss_cons ps_never
 (pss_one ps_never)))), ?_⟩
    exact ⟨_, rfl, _, rfl, _, rfl, _, rfl, x, p, v, n, some dn, rfl, h.1, h.2⟩

def sp_r_barring (K : PySem.W.Frag) (mg : Str → Option Value) : Sp := fun vs H Q E => ∃ (x p v n : V) (dn : String), vs = [x, p, v, n] ∧ NameO K H x p v n (some dn) ∧ ∀ D, Rf K mg D dn → E (.ref D) none H
theorem rd_barring (A : All K mg) : Df P w K mg base (L2N.CX P w) "barring" 5 ["land", "place", "week", "name"] (sp_r_barring K mg) := by
  obtain ⟨f, fd, F, hm, hb⟩ := A.t_barring
  refine ⟨f, fd, Fun.okN F sc_barring (fun vs H Q E h => ?_) (fun cdv A' outer sh H vs Q E hr h => ?_), hm, F.kp, hb⟩
  · obtain ⟨x, p, v, n, dn, rfl, _⟩ := h; rfl
  · obtain ⟨x, p, v, n, dn, rfl, h⟩ := h
    have tk := L2N.takes_of (X := cxOf (L2N.CX P w) P w K mg base ["land", "place", "week", "name"] "barring" (defScope s_barring) f cdv A' outer sh H E) rfl rfl rfl rfl
    refine ⟨_, (pss_cons (ps_expr (pe_callD (rd_need_name A) hr (by decide) (by rfl) (L2N.passes_call tk (fun _ _ _ _ h => h)) (pa_cons (pv 0) (pa_cons (pv 1) (pa_cons (pv 2) (pa_cons (pv 3) pa_nil))))))
 (pss_cons ps_never
 (pss_one ps_never))), ?_⟩
    exact ⟨_, rfl, _, rfl, _, rfl, _, rfl, x, p, v, n, some dn, rfl, h.1, h.2⟩

def sp_r_bars (K : PySem.W.Frag) (mg : Str → Option Value) : Sp := fun vs H Q E => ∃ (x p v n : V) (z : V) (dn : String), vs = [x, p, v, n, z] ∧ NameO K H x p v n (some dn) ∧ ∀ D, Rf K mg D dn → E (.ref D) none H
theorem rd_bars (A : All K mg) : Df P w K mg base (L2N.CX P w) "bars" 5 ["land", "place", "week", "name", "thing"] (sp_r_bars K mg) := by
  obtain ⟨f, fd, F, hm, hb⟩ := A.t_bars
  refine ⟨f, fd, Fun.okN F sc_bars (fun vs H Q E h => ?_) (fun cdv A' outer sh H vs Q E hr h => ?_), hm, F.kp, hb⟩
  · obtain ⟨x, p, v, n, z, dn, rfl, _⟩ := h; rfl
  · obtain ⟨x, p, v, n, z, dn, rfl, h⟩ := h
    have tk := L2N.takes_of (X := cxOf (L2N.CX P w) P w K mg base ["land", "place", "week", "name", "thing", "common", "rest", "one"] "bars" (defScope s_bars) f cdv A' outer sh H E) rfl rfl rfl rfl
    refine ⟨_, (pss_cons (ps_expr (pe_callD (rd_need_name A) hr (by decide) (by rfl) (L2N.passes_call tk (fun _ _ _ _ h => h)) (pa_cons (pv 0) (pa_cons (pv 1) (pa_cons (pv 2) (pa_cons (pv 3) pa_nil))))))
 (pss_cons ps_never
 (pss_cons ps_never
 (pss_cons ps_never
 (pss_one ps_never))))), ?_⟩
    exact ⟨_, rfl, _, rfl, _, rfl, _, rfl, x, p, v, n, some dn, rfl, h.1, h.2⟩

/-- how need_placed goes -/
inductive PlacedO (K : PySem.W.Frag) (H : Hp) : V → V → V → V → Option String → Prop where
  | land {x p y r : V} : NoLandV K H x → PlacedO K H x p y r (some "NoLand")
  | place {a : Addr} {d t b s : Int} {p y r : V} {k : String} : Ld K H a d t b s → LandOk d t b s → Kn K H p k → isFrom p 0 (d - 1) = false → PlacedO K H (.ref a) p y r (some "NoPlace")
  | land2 {a : Addr} {d t b s : Int} {p y r : V} {k : String} : Ld K H a d t b s → LandOk d t b s → Kn K H p k → isFrom p 0 (d - 1) = true → NoLandV K H y → PlacedO K H (.ref a) p y r (some "NoLand")
  | place2 {a a2 : Addr} {d t b s d2 t2 b2 s2 : Int} {p r : V} {k k2 : String} : Ld K H a d t b s → LandOk d t b s → Kn K H p k → isFrom p 0 (d - 1) = true → Ld K H a2 d2 t2 b2 s2 → LandOk d2 t2 b2 s2 → Kn K H r k2 → isFrom r 0 (d2 - 1) = false → PlacedO K H (.ref a) p (.ref a2) r (some "NoPlace")
  | ok {a a2 : Addr} {d t b s d2 t2 b2 s2 : Int} {p r : V} {k k2 : String} : Ld K H a d t b s → LandOk d t b s → Kn K H p k → isFrom p 0 (d - 1) = true → Ld K H a2 d2 t2 b2 s2 → LandOk d2 t2 b2 s2 → Kn K H r k2 → isFrom r 0 (d2 - 1) = true → PlacedO K H (.ref a) p (.ref a2) r none
def sp_r_need_placed (K : PySem.W.Frag) (mg : Str → Option Value) : Sp := fun vs H Q E => ∃ (x p y r : V) (o : Option String), vs = [x, p, y, r] ∧ PlacedO K H x p y r o ∧ outO K mg H Q E o
theorem rd_need_placed (A : All K mg) : Df P w K mg base (L2N.CX P w) "need_placed" 4 ["one", "place_one", "other", "place_other"] (sp_r_need_placed K mg) := by
  obtain ⟨f, fd, F, hm, hb⟩ := A.t_need_placed
  refine ⟨f, fd, Fun.okN F sc_need_placed (fun vs H Q E h => ?_) (fun cdv A' outer sh H vs Q E hr h => ?_), hm, F.kp, hb⟩
  · obtain ⟨x, p, y, r, o, rfl, _⟩ := h; rfl
  · obtain ⟨x, p, y, r, o, rfl, h⟩ := h
    obtain ⟨cY, c0, c1, c2, c3, c4, c5, c6, c7, c8, ER⟩ := A.er
    have EC3 := ec_of (ER.ec c3 (by simp))
    have rf : ∀ {dn : String} {D : Addr}, (dn, D) ∈ errs.zip [c0, c1, c2, c3, c4, c5, c6, c7, c8] → Rf K mg D dn := fun h => ⟨cY, c0, c1, c2, c3, c4, c5, c6, c7, c8, ER, h⟩
    have tk := L2N.takes_of (X := cxOf (L2N.CX P w) P w K mg base ["one", "place_one", "other", "place_other"] "need_placed" (defScope s_need_placed) f cdv A' outer sh H E) rfl rfl rfl rfl
    refine ⟨_, (pss_cons (ps_expr (pe_callD (rd_need_land A) hr (by decide) (by rfl) (L2N.passes_call tk (fun _ _ _ _ h => h)) (pa_cons (pv 0) pa_nil)))
 (pss_cons (ps_if (pt_not (pt_val (pe_callD (d_is_from A) hr (by decide) (by rfl) pass0 (pa_cons (pv 1) (pa_cons pe_int (pa_cons (pe_op op_sub (pe_ix ix_tup (pv 0) pe_int (fun _ _ => rfl)) pe_int) pa_nil))))))
 (pss_one (L2N.ps_raise rfl tk (L2N.pmk_own PySem.F.excBase_ValueError EC3.ex ER.m3 EC3.kp (raises_own EC3.sub EC3.ty) (by rfl))))
 pss_nil)
 (pss_cons (ps_expr (pe_callD (rd_need_land A) hr (by decide) (by rfl) (L2N.passes_call tk (fun _ _ _ _ h => h)) (pa_cons (pv 2) pa_nil)))
 (pss_one (ps_if (pt_not (pt_val (pe_callD (d_is_from A) hr (by decide) (by rfl) pass0 (pa_cons (pv 3) (pa_cons pe_int (pa_cons (pe_op op_sub (pe_ix ix_tup (pv 2) pe_int (fun _ _ => rfl)) pe_int) pa_nil))))))
 (pss_one (L2N.ps_raise rfl tk (L2N.pmk_own PySem.F.excBase_ValueError EC3.ex ER.m3 EC3.kp (raises_own EC3.sub EC3.ty) (by rfl))))
 pss_nil))))), ?_⟩
    obtain ⟨h, q⟩ := h
    cases h with
    | land hx => exact ⟨_, rfl, _, rfl, .inr ⟨hx, q⟩⟩
    | place hl hk hp z1 =>
      refine ⟨_, rfl, _, rfl, .inl ⟨_, _, _, _, _, rfl, hl, hk, ?_⟩⟩
      refine ⟨_, rfl, _, rfl, _, _, _, _, rfl, rfl, hl, (by rfl), _, _, rfl, rfl, _, _, _, _, rfl, hp, _, rfl, ?_⟩
      rw [z1]
      exact iteT (q c3 (rf (by simp [errs])))
    | land2 hl hk hp z1 hy =>
      refine ⟨_, rfl, _, rfl, .inl ⟨_, _, _, _, _, rfl, hl, hk, ?_⟩⟩
      refine ⟨_, rfl, _, rfl, _, _, _, _, rfl, rfl, hl, (by rfl), _, _, rfl, rfl, _, _, _, _, rfl, hp, _, rfl, ?_⟩
      rw [z1]
      refine iteF ?_
      exact ⟨_, rfl, _, rfl, .inr ⟨hy, q⟩⟩
    | place2 hl hk hp z1 hl2 hk2 hp2 z2 =>
      refine ⟨_, rfl, _, rfl, .inl ⟨_, _, _, _, _, rfl, hl, hk, ?_⟩⟩
      refine ⟨_, rfl, _, rfl, _, _, _, _, rfl, rfl, hl, (by rfl), _, _, rfl, rfl, _, _, _, _, rfl, hp, _, rfl, ?_⟩
      rw [z1]
      refine iteF ?_
      refine ⟨_, rfl, _, rfl, .inl ⟨_, _, _, _, _, rfl, hl2, hk2, ?_⟩⟩
      refine ⟨_, rfl, _, rfl, _, _, _, _, rfl, rfl, hl2, (by rfl), _, _, rfl, rfl, _, _, _, _, rfl, hp2, _, rfl, ?_⟩
      rw [z2]
      exact iteT (q c3 (rf (by simp [errs])))
    | ok hl hk hp z1 hl2 hk2 hp2 z2 =>
      refine ⟨_, rfl, _, rfl, .inl ⟨_, _, _, _, _, rfl, hl, hk, ?_⟩⟩
      refine ⟨_, rfl, _, rfl, _, _, _, _, rfl, rfl, hl, (by rfl), _, _, rfl, rfl, _, _, _, _, rfl, hp, _, rfl, ?_⟩
      rw [z1]
      refine iteF ?_
      refine ⟨_, rfl, _, rfl, .inl ⟨_, _, _, _, _, rfl, hl2, hk2, ?_⟩⟩
      refine ⟨_, rfl, _, rfl, _, _, _, _, rfl, rfl, hl2, (by rfl), _, _, rfl, rfl, _, _, _, _, rfl, hp2, _, rfl, ?_⟩
      rw [z2]
      exact iteF q

def sp_r_next_day (K : PySem.W.Frag) (mg : Str → Option Value) : Sp := fun vs H Q E => ∃ (x p v n z : V), vs = [x, p, v, n, z] ∧ ((∃ dn, PlacedO K H x p v n (some dn) ∧ ∀ D, Rf K mg D dn → E (.ref D) none H) ∨ (PlacedO K H x p v n none ∧ ∃ k, Kn K H z k ∧ isFrom z (-1000000000000000000000000000000) 1000000000000000000000000000000 = false ∧ ∀ D, Rf K mg D "NoDay" → E (.ref D) none H))
theorem rd_next_day (A : All K mg) : Df P w K mg base (L2N.CX P w) "next_day" 5 ["one", "place_one", "other", "place_other", "day"] (sp_r_next_day K mg) := by
  obtain ⟨f, fd, F, hm, hb⟩ := A.t_next_day
  refine ⟨f, fd, Fun.okN F sc_next_day (fun vs H Q E h => ?_) (fun cdv A' outer sh H vs Q E hr h => ?_), hm, F.kp, hb⟩
  · obtain ⟨x, p, v, n, z, rfl, _⟩ := h; rfl
  · obtain ⟨x, p, v, n, z, rfl, h⟩ := h
    have tk := L2N.takes_of (X := cxOf (L2N.CX P w) P w K mg base ["one", "place_one", "other", "place_other", "day", "rests", "turn"] "next_day" (defScope s_next_day) f cdv A' outer sh H E) rfl rfl rfl rfl
    refine ⟨_, (pss_cons (ps_expr (pe_callD (rd_need_placed A) hr (by decide) (by rfl) (L2N.passes_call tk (fun _ _ _ _ h => h)) (pa_cons (pv 0) (pa_cons (pv 1) (pa_cons (pv 2) (pa_cons (pv 3) pa_nil))))))
 (pss_cons (ps_expr (pe_callD (rd_need_day A) hr (by decide) (by rfl) (L2N.passes_call tk (fun _ _ _ _ h => h)) (pa_cons (pv 4) pa_nil)))
 (pss_cons ps_never
 (pss_one ps_never)))), ?_⟩
    rcases h with ⟨dn, h, q⟩ | ⟨h, k, hz, z0, q⟩
    · exact ⟨_, rfl, _, rfl, _, rfl, _, rfl, x, p, v, n, some dn, rfl, h, q⟩
    · exact ⟨_, rfl, _, rfl, _, rfl, _, rfl, x, p, v, n, none, rfl, h, _, rfl, _, k, rfl, hz, fun y => (by rw [z0] at y; cases y), fun _ D hD => q D hD⟩

def sp_r_days (K : PySem.W.Frag) (mg : Str → Option Value) : Sp := fun vs H Q E => ∃ (x p v n z y : V), vs = [x, p, v, n, z, y] ∧ ((∃ dn, PlacedO K H x p v n (some dn) ∧ ∀ D, Rf K mg D dn → E (.ref D) none H) ∨ (PlacedO K H x p v n none ∧ ((∃ k, Kn K H z k ∧ isFrom z (-1000000000000000000000000000000) 1000000000000000000000000000000 = false ∧ ∀ D, Rf K mg D "NoDay" → E (.ref D) none H) ∨ ∃ (i : Int) (k : String), z = .int i ∧ Far i ∧ Kn K H y k ∧ isFrom y i 1000000000000000000000000000000 = false ∧ ∀ D, Rf K mg D "NoDay" → E (.ref D) none H)))
theorem rd_days (A : All K mg) : Df P w K mg base (L2N.CX P w) "days" 5 ["one", "place_one", "other", "place_other", "first", "last"] (sp_r_days K mg) := by
  obtain ⟨f, fd, F, hm, hb⟩ := A.t_days
  refine ⟨f, fd, Fun.okN F sc_days (fun vs H Q E h => ?_) (fun cdv A' outer sh H vs Q E hr h => ?_), hm, F.kp, hb⟩
  · obtain ⟨x, p, v, n, z, y, rfl, _⟩ := h; rfl
  · obtain ⟨x, p, v, n, z, y, rfl, h⟩ := h
    obtain ⟨cY, c0, c1, c2, c3, c4, c5, c6, c7, c8, ER⟩ := A.er
    have EC2 := ec_of (ER.ec c2 (by simp))
    have rf : ∀ {dn : String} {D : Addr}, (dn, D) ∈ errs.zip [c0, c1, c2, c3, c4, c5, c6, c7, c8] → Rf K mg D dn := fun h => ⟨cY, c0, c1, c2, c3, c4, c5, c6, c7, c8, ER, h⟩
    have tk := L2N.takes_of (X := cxOf (L2N.CX P w) P w K mg base ["one", "place_one", "other", "place_other", "first", "last", "rests", "turn"] "days" (defScope s_days) f cdv A' outer sh H E) rfl rfl rfl rfl
    refine ⟨_, (pss_cons (ps_expr (pe_callD (rd_need_placed A) hr (by decide) (by rfl) (L2N.passes_call tk (fun _ _ _ _ h => h)) (pa_cons (pv 0) (pa_cons (pv 1) (pa_cons (pv 2) (pa_cons (pv 3) pa_nil))))))
 (pss_cons (ps_expr (pe_callD (rd_need_day A) hr (by decide) (by rfl) (L2N.passes_call tk (fun _ _ _ _ h => h)) (pa_cons (pv 4) pa_nil)))
 (pss_cons (ps_if (pt_not (pt_val (pe_callD (d_is_from A) hr (by decide) (by rfl) pass0 (pa_cons (pv 5) (pa_cons (pv 4) (pa_cons (pe_glob (v := .int 1000000000000000000000000000000) (by rfl) A.c_FAR.choose_spec ⟨_, rfl⟩) pa_nil))))))
 (pss_one (L2N.ps_raise rfl tk (L2N.pmk_own PySem.F.excBase_ValueError EC2.ex ER.m2 EC2.kp (raises_own EC2.sub EC2.ty) (by rfl))))
 pss_nil)
 (pss_cons ps_never
 (pss_one ps_never))))), ?_⟩
    rcases h with ⟨dn, h, q⟩ | ⟨h, ⟨k, hz, z0, q⟩ | ⟨i, k, rfl, hi, hy, z0, q⟩⟩
    · exact ⟨_, rfl, _, rfl, _, rfl, _, rfl, x, p, v, n, some dn, rfl, h, q⟩
    · exact ⟨_, rfl, _, rfl, _, rfl, _, rfl, x, p, v, n, none, rfl, h, _, rfl, _, k, rfl, hz, fun y => (by rw [z0] at y; cases y), fun _ D hD => q D hD⟩
    · refine ⟨_, rfl, _, rfl, _, rfl, _, rfl, x, p, v, n, none, rfl, h, _, rfl, _, _, rfl, .int i, fun _ => ?_, fun y => (by rw [isFrom_yes hi.1 hi.2] at y; cases y)⟩
      refine ⟨_, rfl, _, rfl, _, _, _, _, rfl, hy, _, rfl, ?_⟩
      rw [z0]
      exact iteT (q c2 (rf (by simp [errs])))

def sp_r_parting (K : PySem.W.Frag) (mg : Str → Option Value) : Sp := fun vs H Q E => ∃ (x p v n : V) (dn : String), vs = [x, p, v, n] ∧ PlacedO K H x p v n (some dn) ∧ ∀ D, Rf K mg D dn → E (.ref D) none H
theorem rd_parting (A : All K mg) : Df P w K mg base (L2N.CX P w) "parting" 5 ["one", "place_one", "other", "place_other"] (sp_r_parting K mg) := by
  obtain ⟨f, fd, F, hm, hb⟩ := A.t_parting
  refine ⟨f, fd, Fun.okN F sc_parting (fun vs H Q E h => ?_) (fun cdv A' outer sh H vs Q E hr h => ?_), hm, F.kp, hb⟩
  · obtain ⟨x, p, v, n, dn, rfl, _⟩ := h; rfl
  · obtain ⟨x, p, v, n, dn, rfl, h⟩ := h
    have tk := L2N.takes_of (X := cxOf (L2N.CX P w) P w K mg base ["one", "place_one", "other", "place_other", "common"] "parting" (defScope s_parting) f cdv A' outer sh H E) rfl rfl rfl rfl
    refine ⟨_, (pss_cons (ps_expr (pe_callD (rd_need_placed A) hr (by decide) (by rfl) (L2N.passes_call tk (fun _ _ _ _ h => h)) (pa_cons (pv 0) (pa_cons (pv 1) (pa_cons (pv 2) (pa_cons (pv 3) pa_nil))))))
 (pss_cons ps_never
 (pss_one ps_never))), ?_⟩
    exact ⟨_, rfl, _, rfl, _, rfl, _, rfl, x, p, v, n, some dn, rfl, h.1, h.2⟩

def sp_r_parts (K : PySem.W.Frag) (mg : Str → Option Value) : Sp := fun vs H Q E => ∃ (x p v n : V) (z : V) (dn : String), vs = [x, p, v, n, z] ∧ PlacedO K H x p v n (some dn) ∧ ∀ D, Rf K mg D dn → E (.ref D) none H
theorem rd_parts (A : All K mg) : Df P w K mg base (L2N.CX P w) "parts" 5 ["one", "place_one", "other", "place_other", "thing"] (sp_r_parts K mg) := by
  obtain ⟨f, fd, F, hm, hb⟩ := A.t_parts
  refine ⟨f, fd, Fun.okN F sc_parts (fun vs H Q E h => ?_) (fun cdv A' outer sh H vs Q E hr h => ?_), hm, F.kp, hb⟩
  · obtain ⟨x, p, v, n, z, dn, rfl, _⟩ := h; rfl
  · obtain ⟨x, p, v, n, z, dn, rfl, h⟩ := h
    have tk := L2N.takes_of (X := cxOf (L2N.CX P w) P w K mg base ["one", "place_one", "other", "place_other", "thing", "common"] "parts" (defScope s_parts) f cdv A' outer sh H E) rfl rfl rfl rfl
    refine ⟨_, (pss_cons (ps_expr (pe_callD (rd_need_placed A) hr (by decide) (by rfl) (L2N.passes_call tk (fun _ _ _ _ h => h)) (pa_cons (pv 0) (pa_cons (pv 1) (pa_cons (pv 2) (pa_cons (pv 3) pa_nil))))))
 (pss_cons ps_never
 (pss_cons ps_never
 (pss_one ps_never)))), ?_⟩
    exact ⟨_, rfl, _, rfl, _, rfl, _, rfl, x, p, v, n, some dn, rfl, h.1, h.2⟩

def sp_r_alike (K : PySem.W.Frag) (mg : Str → Option Value) : Sp := fun vs H Q E => ∃ (x y : V), vs = [x, y] ∧ ((NoLandV K H x ∧ ∀ D, Rf K mg D "NoLand" → E (.ref D) none H) ∨ (∃ (a : Addr) (d t b s : Int), x = .ref a ∧ Ld K H a d t b s ∧ LandOk d t b s ∧ NoLandV K H y ∧ ∀ D, Rf K mg D "NoLand" → E (.ref D) none H))
theorem rd_alike (A : All K mg) : Df P w K mg base (L2N.CX P w) "alike" 4 ["one", "other"] (sp_r_alike K mg) := by
  obtain ⟨f, fd, F, hm, hb⟩ := A.t_alike
  refine ⟨f, fd, Fun.okN F sc_alike (fun vs H Q E h => ?_) (fun cdv A' outer sh H vs Q E hr h => ?_), hm, F.kp, hb⟩
  · obtain ⟨x, y, rfl, _⟩ := h; rfl
  · obtain ⟨x, y, rfl, h⟩ := h
    have tk := L2N.takes_of (X := cxOf (L2N.CX P w) P w K mg base ["one", "other"] "alike" (defScope s_alike) f cdv A' outer sh H E) rfl rfl rfl rfl
    refine ⟨_, (pss_cons (ps_expr (pe_callD (rd_need_land A) hr (by decide) (by rfl) (L2N.passes_call tk (fun _ _ _ _ h => h)) (pa_cons (pv 0) pa_nil)))
 (pss_cons (ps_expr (pe_callD (rd_need_land A) hr (by decide) (by rfl) (L2N.passes_call tk (fun _ _ _ _ h => h)) (pa_cons (pv 1) pa_nil)))
 (pss_one ps_never))), ?_⟩
    rcases h with ⟨hx, q⟩ | ⟨a, d, t, b, s, rfl, hl, hk, hy, q⟩
    · exact ⟨_, rfl, _, rfl, .inr ⟨hx, q⟩⟩
    · exact ⟨_, rfl, _, rfl, .inl ⟨a, d, t, b, s, rfl, hl, hk, _, rfl, _, rfl, .inr ⟨hy, q⟩⟩⟩

def sp_r_first_parting (K : PySem.W.Frag) (mg : Str → Option Value) : Sp := fun vs H Q E => ∃ (x y : V), vs = [x, y] ∧ ((NoLandV K H x ∧ ∀ D, Rf K mg D "NoLand" → E (.ref D) none H) ∨ (∃ (a : Addr) (d t b s : Int), x = .ref a ∧ Ld K H a d t b s ∧ LandOk d t b s ∧ NoLandV K H y ∧ ∀ D, Rf K mg D "NoLand" → E (.ref D) none H))
theorem rd_first_parting (A : All K mg) : Df P w K mg base (L2N.CX P w) "first_parting" 4 ["one", "other"] (sp_r_first_parting K mg) := by
  obtain ⟨f, fd, F, hm, hb⟩ := A.t_first_parting
  refine ⟨f, fd, Fun.okN F sc_first_parting (fun vs H Q E h => ?_) (fun cdv A' outer sh H vs Q E hr h => ?_), hm, F.kp, hb⟩
  · obtain ⟨x, y, rfl, _⟩ := h; rfl
  · obtain ⟨x, y, rfl, h⟩ := h
    have tk := L2N.takes_of (X := cxOf (L2N.CX P w) P w K mg base ["one", "other", "year"] "first_parting" (defScope s_first_parting) f cdv A' outer sh H E) rfl rfl rfl rfl
    refine ⟨_, (pss_cons (ps_expr (pe_callD (rd_need_land A) hr (by decide) (by rfl) (L2N.passes_call tk (fun _ _ _ _ h => h)) (pa_cons (pv 0) pa_nil)))
 (pss_cons (ps_expr (pe_callD (rd_need_land A) hr (by decide) (by rfl) (L2N.passes_call tk (fun _ _ _ _ h => h)) (pa_cons (pv 1) pa_nil)))
 (pss_cons ps_never
 (pss_cons ps_never
 (pss_cons ps_never
 (pss_one ps_never)))))), ?_⟩
    rcases h with ⟨hx, q⟩ | ⟨a, d, t, b, s, rfl, hl, hk, hy, q⟩
    · exact ⟨_, rfl, _, rfl, .inr ⟨hx, q⟩⟩
    · exact ⟨_, rfl, _, rfl, .inl ⟨a, d, t, b, s, rfl, hl, hk, _, rfl, _, rfl, .inr ⟨hy, q⟩⟩⟩

def sp_r_Realm_init (K : PySem.W.Frag) (mg : Str → Option Value) : Sp := fun vs H Q E => ∃ (a x : V), vs = [a, x] ∧ NoLandV K H x ∧ ∀ D, Rf K mg D "NoLand" → E (.ref D) none H
theorem rd_Realm_init (A : All K mg) {C : Addr} (hC : Rm K mg "Realm" C) : Dm P w K mg base (L2N.CX P w) C "__init__" 4 ["self", "land"] (sp_r_Realm_init K mg) := by
  obtain ⟨f, fd, F, hm, hb⟩ := A.t_Realm_init C hC
  refine ⟨f, fd, Fun.okN F sc_Realm_init (fun vs H Q E h => ?_) (fun cdv A' outer sh H vs Q E hr h => ?_), hm, hb⟩
  · obtain ⟨a, x, rfl, _⟩ := h; rfl
  · obtain ⟨a, x, rfl, hx, q⟩ := h
    have tk := L2N.takes_of (X := cxOf (L2N.CX P w) P w K mg base ["self", "land"] "Realm.__init__" (defScope s_Realm_init) f cdv A' outer sh H E) rfl rfl rfl rfl
    refine ⟨_, (pss_cons (ps_expr (pe_callD (rd_need_land A) hr (by decide) (by rfl) (L2N.passes_call tk (fun _ _ _ _ h => h)) (pa_cons (pv 1) pa_nil)))
 (pss_one ps_never)), ?_⟩
    exact ⟨_, rfl, _, rfl, .inr ⟨hx, q⟩⟩

def sp_law_deck : Sp := fun vs H Q _ => ∃ (c t : Int) (n : Nat), vs = [.int c, .int t] ∧ NoT H ∧ 0 ≤ t ∧ t ≤ (n : Int) ∧ ∀ p H', H p = none → Same H H' → Dk n H' p → Q (.ref p) H'
theorem d_law_deck (A : All K mg) : Df P w K mg base CX0 "_law_deck" 1 ["cell", "turn"] sp_law_deck := by
  obtain ⟨f, fd, F, hm, hb⟩ := A.t_law_deck
  refine ⟨f, fd, F.ok sc_law_deck (fun vs H Q E h => ?_) (fun cdv A' outer s H vs Q E hr h => ?_), hm, F.kp, hb⟩
  · obtain ⟨c, t, n, rfl, _⟩ := h; rfl
  · obtain ⟨c, t, n, rfl, nt, t0, t1, q⟩ := h
    refine ⟨_, (pss_cons (ps_if (pt_cmpR op_ge (pv 0) (pe_op op_pow pe_int pe_int) (nomark _))
 (pss_one (ps_ret (pe_lst (pa_cons (pe_op op_sub (pv 0) (pe_op op_pow pe_int pe_int)) (pa_cons (pe_op op_mod (pv 0) pe_int) (pa_cons (pv 1) pa_nil))))))
 pss_nil)
 (pss_one (ps_ret (pe_lst (pa_cons pe_int (pa_cons (pe_op op_mod (pv 0) pe_int) (pa_cons (pv 1) pa_nil))))))), ?_⟩
    refine ⟨_, rfl, _, _, rfl, rfl, ⟨by decide, by decide, by decide⟩, ?_⟩
    walk_at "g"
    refine ite2 (fun e => ?_) (fun e => ?_)
    · refine ⟨_, rfl, _, _, rfl, rfl, ⟨by decide, by decide, by decide⟩, ?_⟩
      walk_at "g"
      refine ⟨by show 3 ≤ sizeLine; decide, fun p hp => q p _ hp (same_new hp) ⟨nt.lst, _, _, _, upd_same, ?_, ?_, t0, t1⟩⟩ <;> omega
    · walk_at "g"
      refine ⟨by show 3 ≤ sizeLine; decide, fun p hp => q p _ hp (same_new hp) ⟨nt.lst, _, _, _, upd_same, ?_, ?_, t0, t1⟩⟩ <;> omega

def sp_law_pick : Sp := fun vs H Q _ => ∃ (d : Addr) (n : Nat) (z : Int), vs = [.ref d, .int z] ∧ Dk n H d ∧ n ≤ 100000000 ∧ 0 < z ∧ z < 1000000000000000000000000000000 ∧ ∀ r H', 0 ≤ r → r < z → Dk (n + 1) H' d → Gr d H H' → Q (.int r) H'
theorem d_law_pick (A : All K mg) : Df P w K mg base CX0 "_law_pick" 1 ["deck", "size"] sp_law_pick := by
  obtain ⟨f, fd, F, hm, hb⟩ := A.t_law_pick
  refine ⟨f, fd, F.ok sc_law_pick (fun vs H Q E h => ?_) (fun cdv A' outer s H vs Q E hr h => ?_), hm, F.kp, hb⟩
  · obtain ⟨d, n, z, rfl, _⟩ := h; rfl
  · obtain ⟨d, n, z, rfl, ⟨nt, x, y, c, hd, y0, y1, c0, c1⟩, hn, z0, z1, q⟩ := h
    have hS : SqL K H d [.int x, .int y, .int c] := SqL.of hd
    refine ⟨_, (pss_cons (ps_if (pt_cmpR op_gt (pe_ix ix_list (pv 0) pe_int (fun _ _ => rfl)) pe_int (nomark _))
 (pss_cons (ps_set (i := 2) sc_law_pick.nd rfl (Or.inl rfl) (pe_op op_mod (pe_ix ix_list (pv 0) pe_int (fun _ _ => rfl)) (pv 1)))
 (pss_cons (ps_asg (pe_op op_fdivW (pe_ix ix_list (pv 0) pe_int (fun _ _ => rfl)) (pv 1)) (pg_sub (pv 0) pe_int set_list))
 (pss_one (ps_ret (pv 2)))))
 pss_nil)
 (pss_cons (ps_asg (pe_op op_add (pe_ix ix_list (pv 0) pe_int (fun _ _ => rfl)) pe_int) (pg_sub (pv 0) pe_int set_list))
 (pss_cons (ps_set (i := 3) sc_law_pick.nd rfl (Or.inl rfl) (pe_op op_mod (pe_op op_pow (pe_op op_add (pe_ix ix_list (pv 0) pe_int (fun _ _ => rfl)) (pe_op op_mul pe_int (pe_ix ix_list (pv 0) pe_int (fun _ _ => rfl)))) pe_int) pe_int))
 (pss_cons (ps_set (i := 2) sc_law_pick.nd rfl (Or.inl rfl) (pe_op op_fdiv (pe_op op_mod (pe_op op_pow (pe_op op_add (pv 3) (pe_op op_mul pe_int (pe_ix ix_list (pv 0) pe_int (fun _ _ => rfl)))) pe_int) pe_int) pe_int))
 (pss_one (ps_ret (pe_op op_mod (pv 2) (pv 1)))))))), ?_⟩
    walk_at "g"
    refine ite2 (fun e => ?_) (fun e => ?_)
    · walk_at "g"
      refine ⟨wide_div (b := 100) z0 (by omega) (by decide) (by decide), ?_⟩
      refine ⟨_, rfl, d, _, _, 0, rfl, rfl, hd, rfl, ?_⟩
      refine ⟨_, rfl, ?_⟩
      exact q _ _ (Int.emod_nonneg _ (by omega)) (Int.emod_lt_of_pos _ z0) ⟨nt.lst, _, _, _, upd_same, y0, y1, c0, by omega⟩ ((Gr.refl hd).put)
    · refine ⟨_, rfl, _, _, _, _, rfl, rfl, hS, (by rfl), _, _, rfl, rfl, ?_⟩
      refine ⟨_, rfl, d, _, _, 2, rfl, rfl, hd, rfl, ?_⟩
      have hS2 : SqL K (upd H d (.lst [.int x, .int y, .int (c + 1)])) d [.int x, .int y, .int (c + 1)] := SqL.of upd_same
      refine ⟨_, rfl, _, _, _, _, rfl, rfl, hS2, (by rfl), _, rfl, _, _, _, _, rfl, rfl, hS2, (by rfl), _, _, rfl, rfl, Or.inl ⟨by omega, by omega⟩, _, _, rfl, rfl, _, _, rfl, rfl, ⟨by decide, by decide, by omega⟩, ?_⟩
      walk_at "g"
      exact q _ _ (Int.emod_nonneg _ (by omega)) (Int.emod_lt_of_pos _ z0) ⟨nt.lst, _, _, _, upd_same, y0, y1, by omega, by omega⟩ ((Gr.refl hd).put)

def sp_law_one (K : PySem.W.Frag) : Sp := fun vs H Q _ => ∃ (d l : Addr) (n : Nat) (xs : List V), vs = [.ref d, .ref l] ∧ Dk n H d ∧ n ≤ 10000000 ∧ SqL K H l xs ∧ l ≠ d ∧ 0 < xs.length ∧ xs.length < 1000000 ∧ ∀ (i : Nat) v H', xs[i]? = some v → Dk (n + 1) H' d → Gr d H H' → Q v H'
theorem d_law_one (A : All K mg) : Df P w K mg base CX0 "_law_one" 2 ["deck", "some"] (sp_law_one K) := by
  obtain ⟨f, fd, F, hm, hb⟩ := A.t_law_one
  refine ⟨f, fd, F.ok sc_law_one (fun vs H Q E h => ?_) (fun cdv A' outer s H vs Q E hr h => ?_), hm, F.kp, hb⟩
  · obtain ⟨d, l, n, xs, rfl, _⟩ := h; rfl
  · obtain ⟨d, l, n, xs, rfl, hD, hn, hS, hne, z0, z1, q⟩ := h
    refine ⟨_, (pss_one (ps_ret (pe_ix ix_list (pv 1) (pe_callD (d_law_pick A) hr (by decide) (by rfl) pass0 (pa_cons (pv 0) (pa_cons (pe_callB call_len_seq (by rfl) A.b_len (by decide +kernel) (pa_cons (pv 1) pa_nil)) pa_nil))) (fun _ _ => rfl)))), ?_⟩
    refine ⟨_, rfl, _, rfl, _, rfl, l, xs, rfl, .inl hS, d, n, _, rfl, hD, by omega, by omega, by omega, fun r H' r0 r1 hD' hg => ?_⟩
    obtain ⟨j, rfl⟩ : ∃ j : Nat, r = (j : Int) := ⟨r.toNat, by omega⟩
    have hj : j < xs.length := by omega
    exact ⟨l, xs, _, _, rfl, rfl, hg.l hne hS, atI_nat (List.getElem?_eq_getElem hj), q j _ H' (List.getElem?_eq_getElem hj) hD' hg⟩

theorem run_kin (A : All K mg) {cY c0 c1 c2 c3 c4 c5 c6 c7 c8 D : Addr} {dn : String} (R : Ers K mg cY c0 c1 c2 c3 c4 c5 c6 c7 c8) (hD : (dn, D) ∈ errs.zip [c0, c1, c2, c3, c4, c5, c6, c7, c8]) :
    ∃ f, mg "_law_kin" = some (.ref f) ∧ PySem.W.keepIn K (.ref f) = true ∧ ∀ {A' : Around} {outer : List Env} {s : Shared} {H : Hp} {a : Addr} {oe : Obj} {Q : VK}, L2H.RoomH 2 A' → L2H.Hot1 A' (a, oe) → L2H.PinOk outer H s (a, oe) → L2N.Zn (.ref D) none oe → (∃ vs, oe.data = .fields vs) → Env0 P w K mg base A' outer s H → NoT H →
      (∀ H', Same H H' → NoT H' → Q (.str (kinS dn)) H') → codeAny (model P w) A' (.call (.ref f) ⟨[.ref a], []⟩) (CR CX0 outer P w H s Q E0) s := by
  obtain ⟨f, fd, F, hm, hb⟩ := A.t_law_kin
  refine ⟨f, hm, F.kp, fun {A' outer s H a oe Q} hr hot hp hz hf e0 nt q => ?_⟩
  have kin : K.In s.heap := e0.mod.kin.keeps fun b o e => (e0.bs b o e).1
  have b := hb s [.ref a] kin rfl
  rw [List.append_nil] at b
  obtain ⟨kV, _, kN⟩ := kin_of (R.kin _ hD)
  have hDm : D ∈ [c0, c1, c2, c3, c4, c5, c6, c7, c8] := (List.of_mem_zip hD).2
  have EC := (ec_of (R.ec D hDm)).cc
  have k0 := kN ("NoLand", c0) (by simp [errs])
  have k1 := kN ("NoYear", c1) (by simp [errs])
  have k2 := kN ("NoDay", c2) (by simp [errs])
  have k3 := kN ("NoPlace", c3) (by simp [errs])
  have k4 := kN ("NoWeek", c4) (by simp [errs])
  have k5 := kN ("NoName", c5) (by simp [errs])
  have k6 := kN ("NoSeen", c6) (by simp [errs])
  have k7 := kN ("NoNumber", c7) (by simp [errs])
  have k8 := kN ("NothingLeft", c8) (by simp [errs])
  refine run_hot (k := 1) (vs := [.ref a]) (us := [.ref a]) F sc_law_kin hr hp e0 b (.cons rfl .nil) rfl fun cdv hr' => ?_
  have hotC : L2H.HotC (L2H.cxH CX0 P w K mg base ["e", "kinds_met", "names", "name", "good"] "_law_kin" (defScope s_law_kin) f cdv A' outer s H E0 (a, oe)) := ⟨(a, oe), hot, List.mem_cons_self ..⟩
  have isP : CallR (L2H.cxH CX0 P w K mg base ["e", "kinds_met", "names", "name", "good"] "_law_kin" (defScope s_law_kin) f cdv A' outer s H E0 (a, oe)) (.builtin "isinstance") (rIsE K D a) := call_isP EC hz hf (List.mem_cons_self ..)
  refine ⟨_, (pss_cons (ps_set (i := 1) sc_law_kin.nd rfl (Or.inl rfl) (pe_lst (pa_cons (pe_callB isP (by rfl) A.b_isinstance (by decide +kernel) (pa_cons (pv 0) (pa_cons (pe_glob (v := .ref c0) (by rfl) R.m0 rfl) pa_nil))) (pa_cons (pe_callB isP (by rfl) A.b_isinstance (by decide +kernel) (pa_cons (pv 0) (pa_cons (pe_glob (v := .ref c1) (by rfl) R.m1 rfl) pa_nil))) (pa_cons (pe_callB isP (by rfl) A.b_isinstance (by decide +kernel) (pa_cons (pv 0) (pa_cons (pe_glob (v := .ref c2) (by rfl) R.m2 rfl) pa_nil))) (pa_cons (pe_callB isP (by rfl) A.b_isinstance (by decide +kernel) (pa_cons (pv 0) (pa_cons (pe_glob (v := .ref c3) (by rfl) R.m3 rfl) pa_nil))) pa_nil))))))
 (pss_cons (ps_set (i := 1) sc_law_kin.nd rfl (Or.inl rfl) (pe_op op_catS (pv 1) (pe_lst (pa_cons (pe_callB isP (by rfl) A.b_isinstance (by decide +kernel) (pa_cons (pv 0) (pa_cons (pe_glob (v := .ref c4) (by rfl) R.m4 rfl) pa_nil))) (pa_cons (pe_callB isP (by rfl) A.b_isinstance (by decide +kernel) (pa_cons (pv 0) (pa_cons (pe_glob (v := .ref c5) (by rfl) R.m5 rfl) pa_nil))) (pa_cons (pe_callB isP (by rfl) A.b_isinstance (by decide +kernel) (pa_cons (pv 0) (pa_cons (pe_glob (v := .ref c6) (by rfl) R.m6 rfl) pa_nil))) pa_nil))))))
 (pss_cons (ps_set (i := 1) sc_law_kin.nd rfl (Or.inl rfl) (pe_op op_catS (pv 1) (pe_lst (pa_cons (pe_callB isP (by rfl) A.b_isinstance (by decide +kernel) (pa_cons (pv 0) (pa_cons (pe_glob (v := .ref c7) (by rfl) R.m7 rfl) pa_nil))) (pa_cons (pe_callB isP (by rfl) A.b_isinstance (by decide +kernel) (pa_cons (pv 0) (pa_cons (pe_glob (v := .ref c8) (by rfl) R.m8 rfl) pa_nil))) (pa_cons (pe_callB isP (by rfl) A.b_isinstance (by decide +kernel) (pa_cons (pv 0) (pa_cons (pe_bltn (v := .ty "ValueError") (by rfl) A.b_ValueError (by decide +kernel) rfl) pa_nil))) pa_nil))))))
 (pss_cons (ps_set (i := 2) sc_law_kin.nd rfl (Or.inl rfl) (pe_lst (pa_cons pe_str (pa_cons pe_str (pa_cons pe_str (pa_cons pe_str (pa_cons pe_str (pa_cons pe_str (pa_cons pe_str (pa_cons pe_str (pa_cons pe_str (pa_cons pe_str pa_nil))))))))))))
 (pss_one (ps_ret (pe_join pe_str (pe_lcHot (own := [("name", 3), ("good", 4)]) (g := gTup K 2 (gCons (gName 3) (gCons (gName 4) gNil))) hotC sc_law_kin.nd (by rfl) A.b_zip (pa_cons (pv 2) (pa_cons (pv 1) pa_nil)) (blkOk_by (own := [("name", 3), ("good", 4)]) (N := ["e", "kinds_met", "names", "name", "good"]) (sc := defScope s_law_kin) (by decide +kernel)) (fun _ _ _ _ _ hB => (pg_tupHot hB (pgs_cons (pg_name (i := 3) sc_law_kin.nd rfl (Or.inl rfl)) (pgs_cons (pg_name (i := 4) sc_law_kin.nd rfl (Or.inl rfl)) pgs_nil)))) (fun _ _ _ _ _ => (pts_one (pt_val (pv 4)))) (fun _ _ _ _ _ => (pv 3)))))))))), ?_⟩
  refine sq_set (fun v H' => ∃ l, v = .ref l ∧ Same H H' ∧ NoT H' ∧ SqL K H' l (["NoLand" == dn, "NoYear" == dn, "NoDay" == dn, "NoPlace" == dn].map V.bl)) (fun Q' k => ?_) ?_
  · refine ⟨_, rfl, .ref c0, .ref c0, _, rfl, fun u r => r, k0, _, rfl, .ref c1, .ref c1, _, rfl, fun u r => r, k1, _, rfl, .ref c2, .ref c2, _, rfl, fun u r => r, k2, _, rfl, .ref c3, .ref c3, _, rfl, fun u r => r, k3, by show 4 ≤ sizeLine; decide, fun l hl => ?_⟩
    exact k _ _ ⟨l, rfl, same_new hl, nt.lst, SqL.of upd_same⟩
  rintro _ H1 ⟨l1, rfl, s1, nt1, q1⟩
  refine sq_set (fun v H' => ∃ l, v = .ref l ∧ Same H H' ∧ NoT H' ∧ SqL K H' l (["NoLand" == dn, "NoYear" == dn, "NoDay" == dn, "NoPlace" == dn, "NoWeek" == dn, "NoName" == dn, "NoSeen" == dn].map V.bl)) (fun Q' k => ?_) ?_
  · refine ⟨_, rfl, _, rfl, .ref c4, .ref c4, _, rfl, fun u r => r, k4, _, rfl, .ref c5, .ref c5, _, rfl, fun u r => r, k5, _, rfl, .ref c6, .ref c6, _, rfl, fun u r => r, k6, by show 3 ≤ sizeLine; decide, fun l hl => ?_⟩
    refine ⟨l1, l, _, _, rfl, rfl, Same.l (same_new hl) q1, SqL.of upd_same, by show 7 ≤ sizeLine; decide, fun l2 hl2 => ?_⟩
    exact k _ _ ⟨l2, rfl, (s1.trans (same_new hl)).trans (same_new hl2), nt1.lst.lst, SqL.of upd_same⟩
  rintro _ H2 ⟨l2, rfl, s2, nt2, q2⟩
  refine sq_set (fun v H' => ∃ l, v = .ref l ∧ Same H H' ∧ NoT H' ∧ SqL K H' l (["NoLand" == dn, "NoYear" == dn, "NoDay" == dn, "NoPlace" == dn, "NoWeek" == dn, "NoName" == dn, "NoSeen" == dn, "NoNumber" == dn, "NothingLeft" == dn, true].map V.bl)) (fun Q' k => ?_) ?_
  · refine ⟨_, rfl, _, rfl, .ref c7, .ref c7, _, rfl, fun u r => r, k7, _, rfl, .ref c8, .ref c8, _, rfl, fun u r => r, k8, _, rfl, .ty "ValueError", .type "ValueError", _, rfl, fun u r => r, kV, by show 3 ≤ sizeLine; decide, fun l hl => ?_⟩
    refine ⟨l2, l, _, _, rfl, rfl, Same.l (same_new hl) q2, SqL.of upd_same, by show 10 ≤ sizeLine; decide, fun l3 hl3 => ?_⟩
    exact k _ _ ⟨l3, rfl, (s2.trans (same_new hl)).trans (same_new hl3), nt2.lst.lst, SqL.of upd_same⟩
  rintro _ H3 ⟨l3, rfl, s3, nt3, q3⟩
  refine sq_set (fun v H' => ∃ l, v = .ref l ∧ Same H3 H' ∧ NoT H' ∧ SqL K H' l (([("NoLand" : Str), "NoYear", "NoDay", "NoPlace", "NoWeek", "NoName", "NoSeen", "NoNumber", "NothingLeft", "+"]).map V.str)) (fun Q' k => ⟨by show 10 ≤ sizeLine; decide, fun l hl => k _ _ ⟨l, rfl, same_new hl, nt3.lst, SqL.of upd_same⟩⟩) ?_
  rintro _ H4 ⟨l4, rfl, s4, nt4, q4⟩
  refine ⟨⟨_, rfl⟩, _, rfl, _, rfl, l4, l3, _, _, rfl, q4, Same.l s4 q3, fun Dd hDd => ?_⟩
  refine lc_sel q4 (Same.l s4 q3) hDd nt4 rfl (by show 10 < 100000; decide) (fun _ _ => rfl) (fun x c H' Q' q' => ⟨_, rfl, _, rfl, q'⟩) (fun x c H' Q' q' => ⟨_, rfl, q'⟩) fun H' s5 nt5 e5 => ?_
  refine ⟨_, Dd, _, rfl, rfl, .inl (SqL.of e5), ?_, ?_⟩
  · have : dn ∈ errs := (List.of_mem_zip hD).1
    simp only [errs, List.mem_cons, List.not_mem_nil, or_false] at this
    rcases this with rfl | rfl | rfl | rfl | rfl | rfl | rfl | rfl | rfl <;> decide +kernel
  · have e : Txt.join "" (sel [("NoLand" : Str), "NoYear", "NoDay", "NoPlace", "NoWeek", "NoName", "NoSeen", "NoNumber", "NothingLeft", "+"] ["NoLand" == dn, "NoYear" == dn, "NoDay" == dn, "NoPlace" == dn, "NoWeek" == dn, "NoName" == dn, "NoSeen" == dn, "NoNumber" == dn, "NothingLeft" == dn, true]) = kinS dn := by
      have : dn ∈ errs := (List.of_mem_zip hD).1
      simp only [errs, List.mem_cons, List.not_mem_nil, or_false] at this
      rcases this with rfl | rfl | rfl | rfl | rfl | rfl | rfl | rfl | rfl <;> decide +kernel
    rw [e]
    exact q _ ((s3.trans s4).trans s5) nt5

theorem d_law_try (A : All K mg) (k : Nat) : Df P w K mg base CX0 "_law_try" (k + 3) ["door"] (sp_law_try P w K mg base k) := by
  obtain ⟨f, fd, F, hm, hb⟩ := A.t_law_try
  refine ⟨f, fd, F.ok (k := k + 2) sc_law_try (fun vs H Q E h => ?_) (fun cdv A' outer s H vs Q E hr h => ?_), hm, F.kp, hb⟩
  · obtain ⟨f, R, rfl, _⟩ := h; rfl
  · obtain ⟨g, R, rfl, hd, hR⟩ := h
    obtain ⟨cY, c0, c1, c2, c3, c4, c5, c6, c7, c8, ER⟩ := A.er
    refine ⟨_, pss_cons (ps_set (i := 1) sc_law_try.nd rfl (Or.inl rfl) pe_non) (pss_cons
      (L2N.ps_try_as (X := (cxOf CX0 P w K mg base ["door", "found", "e"] "_law_try" (defScope s_law_try) f cdv A' outer s H E).nox) (x := "YearError") (n := "e") (c := .ref cY) (i := 2) (Wout := fun _ _ _ _ => False)
        (tb := fun W D σ H => ∃ (f : Addr) (R : VK → XK → Prop), σ[0]? = some (some (.ref f)) ∧ Door P w K mg base k H f R ∧ R (fun v H' => 2 ≤ sizeLine ∧ ∀ p, H' p = none → D.nx (σ.set 1 (some (.ref p))) (upd H' p (.tup [.str "told", v]))) (fun cls d H' => W cls d σ H'))
        (ts := fun a cls d D σ H => ∃ dn Dd, cls = .ref Dd ∧ d = none ∧ (dn, Dd) ∈ errs.zip [c0, c1, c2, c3, c4, c5, c6, c7, c8] ∧ σ[2]? = some (some (.ref a)) ∧ NoT H ∧ ∀ H', Same H H' → NoT H' → D.nx (σ.set 1 (some (.str (kinS dn)))) H')
        rfl rfl sc_law_try.nd rfl rfl ⟨by rfl, by decide, .inl ER.mY⟩ (fun _ _ x => by obtain ⟨_, _, _, _, _, _, _, _, _, _, _, _, _, _, _, _, z⟩ := x; exact z.elim) (fun W pn xe tk _ => ?_) (fun a oe cls d pn hz hf => ?_))
      (pss_one (ps_ret (pv 1)))), ?_⟩
    · refine ⟨fun pins s' σ H' D I h' => ?_⟩
      obtain ⟨g', R', h1, h2, h3⟩ := h'
      exact (pss_one (ps_set (i := 1) sc_law_try.nd rfl (Or.inl rfl) (pe_tup (pa_cons pe_str (pa_cons (pe_door (X := (cxOf CX0 P w K mg base ["door", "found", "e"] "_law_try" (defScope s_law_try) f cdv A' outer s H E).nox.tr pn xe) (k := k) (i := 0) (a := "door") hr (by omega) tk rfl (.inl rfl)) pa_nil))))).run pins s' σ H' D I ⟨g', R', h1, h2, h3⟩
    · refine pss_one ⟨fun pins s' σ H' D I h' => ?_⟩
      obtain ⟨dn, Dd, rfl, rfl, hD, hs, nt, hq⟩ := h'
      obtain ⟨fk, mk, kk, run⟩ := run_kin (P := P) (w := w) (base := base) A ER hD
      have pk : ∀ p1 p2 p3 : Pos, PE ((cxOf CX0 P w K mg base ["door", "found", "e"] "_law_try" (defScope s_law_try) f cdv A' outer s H E).nox.suite a ((a, oe) :: pn)) (.Call (.Name "_law_kin" p1) [.Name "e" p2] [] p3) (fun σ H Q => σ[2]? = some (some (.ref a)) ∧ NoT H ∧ ∀ H', Same H H' → NoT H' → Q (.str (kinS dn)) H') := by
        refine fun p1 p2 p3 => ⟨fun pins s1 σ1 H1 Q1 I1 h1 => ?_⟩
        refine wpAny_Call_Name_kw (ld_glob I1 (by rfl) mk (PySem.W.callWith_K (h₀ := base) I1.ok.mod.kin kk (thn ((pa_cons (pv 2) pa_nil).run _ pins s1 σ1 H1 (fun vs H2 => vs = [.ref a] ∧ H2 = H1) I1 ⟨_, h1.1, rfl, rfl⟩) fun us s2 hh => ?_) (by rfl) (by rfl)) (by decide))
        obtain ⟨vs2, H2, I2, r2, rfl, rfl⟩ := hh
        obtain ⟨u, rfl, ru⟩ := vals1 r2
        obtain rfl : u = Value.ref a := ru
        have P1 := I2.pin (a, oe) (List.mem_append_left _ (List.mem_cons_self ..))
        obtain ⟨ev, ed⟩ := hf
        refine ⟨I2.kIn, wpAny_call (codeAny_mono (run (A' := _) (outer := _) (Q := Q1) (L2H.RoomH.mono (j := 2) (k := k + 2) ⟨hr.dp, hr.un⟩ (by omega)) ⟨rfl, ev, ed, hz.2.2 ev ed⟩ ⟨P1.1, P1.2.1, fun hm => (List.mem_cons.mp (I2.stkSub a hm)).elim P1.2.2.1 P1.2.2.2.1, P1.2.2.2.2⟩ hz ⟨ev, ed⟩ I2.env0 h1.2.1 h1.2.2) fun r s' z => ?_)⟩
        cases r with
        | error e => exact (show False from z).elim
        | ok fl =>
          cases fl with
          | ret u => exact I2.after z
          | next => exact False.elim z
          | brk => exact False.elim z
          | cont => exact False.elim z
      exact (ps_set (i := 1) sc_law_try.nd rfl (Or.inl rfl) (pk _ _ _)).run pins s' σ H' D I ⟨hs, nt, hq⟩
    · refine ⟨g, R, rfl, hd, hR _ _ (fun v H' h' => ⟨by show 2 ≤ sizeLine; decide, fun p hp => ⟨_, rfl, h' p hp⟩⟩) fun D dn H' hRf n' hq => ?_⟩
      have hD := hRf.at ER
      obtain ⟨_, kY, _⟩ := kin_of (ER.kin _ hD)
      exact ⟨true, kY, fun _ a na => ⟨dn, D, rfl, rfl, hD, rfl, n', fun H2 s2 n2 => ⟨_, rfl, hq H2 s2 n2⟩⟩, fun z => by cases z⟩

def sp_law_land : Sp := fun vs H Q _ => ∃ (d : Addr) (n : Nat) (L B S : Int), vs = [.ref d, .int L, .int B, .int S] ∧ Dk n H d ∧ n ≤ 10000000 ∧ (1 ≤ L ∧ L ≤ 400) ∧ (1 ≤ B ∧ B ≤ 60) ∧ (0 ≤ S ∧ S ≤ 1000000) ∧
  ∀ p dd t b s H', (1 ≤ dd ∧ dd ≤ L) → (0 ≤ t ∧ t < b) → (1 ≤ b ∧ b ≤ B) → (-S ≤ s ∧ s ≤ S) → H p = none → H' p = some (.tup [.int dd, .int t, .int b, .int s]) → Dk (n + 4) H' d → Gr d H H' → Q (.ref p) H'
theorem d_law_land (A : All K mg) : Df P w K mg base CX0 "_law_land" 2 ["deck", "long_so", "bottoms", "shifts"] sp_law_land := by
  obtain ⟨f, fd, F, hm, hb⟩ := A.t_law_land
  refine ⟨f, fd, F.ok sc_law_land (fun vs H Q E h => ?_) (fun cdv A' outer s H vs Q E hr h => ?_), hm, F.kp, hb⟩
  · obtain ⟨d, n, L, B, S, rfl, _⟩ := h; rfl
  · obtain ⟨d, n, L, B, S, rfl, hD, hn, hL, hB, hS, q⟩ := h
    refine ⟨_, (pss_cons (ps_set (i := 4) sc_law_land.nd rfl (Or.inl rfl) (pe_op op_add pe_int (pe_callD (d_law_pick A) hr (by decide) (by rfl) pass0 (pa_cons (pv 0) (pa_cons (pv 2) pa_nil)))))
 (pss_cons (ps_set (i := 5) sc_law_land.nd rfl (Or.inl rfl) (pe_op op_sub (pe_callD (d_law_pick A) hr (by decide) (by rfl) pass0 (pa_cons (pv 0) (pa_cons (pe_op op_add (pe_op op_mul pe_int (pv 3)) pe_int) pa_nil))) (pv 3)))
 (pss_one (ps_ret (pe_tup (pa_cons (pe_op op_add pe_int (pe_callD (d_law_pick A) hr (by decide) (by rfl) pass0 (pa_cons (pv 0) (pa_cons (pv 1) pa_nil)))) (pa_cons (pe_callD (d_law_pick A) hr (by decide) (by rfl) pass0 (pa_cons (pv 0) (pa_cons (pv 4) pa_nil))) (pa_cons (pv 4) (pa_cons (pv 5) pa_nil))))))))), ?_⟩
    refine ⟨_, rfl, _, rfl, d, n, _, rfl, hD, by omega, by omega, by omega, fun r1 H1 a0 a1 D1 g1 => ?_⟩
    walk_at "g"
    refine ⟨d, n + 1, _, rfl, D1, by omega, by omega, by omega, fun r2 H2 b0 b1 D2 g2 => ?_⟩
    walk_at "g"
    refine ⟨d, n + 2, _, rfl, D2, by omega, by omega, by omega, fun r3 H3 c0 c1 D3 g3 => ?_⟩
    walk_at "g"
    refine ⟨d, n + 3, _, rfl, D3, by omega, by omega, by omega, fun r4 H4 e0 e1 D4 g4 => ?_⟩
    walk_at "g"
    refine ⟨by show 4 ≤ sizeLine; decide, fun p hp => ?_⟩
    have g := ((g1.trans g2).trans g3).trans g4
    obtain ⟨ys, hy⟩ := D4.lst
    exact q p _ _ _ _ _ ⟨by omega, by omega⟩ ⟨e0, e1⟩ ⟨by omega, by omega⟩ ⟨by omega, by omega⟩ (g.free hy hp) upd_same (D4.new hp rfl) (g.new hp rfl)

def sp_law_any : Sp := fun vs H Q _ => ∃ (d : Addr) (n : Nat), vs = [.ref d] ∧ Dk n H d ∧ n ≤ 1000000 ∧
  ∀ p dd t b s H', LandOk dd t b s → H p = none → H' p = some (.tup [.int dd, .int t, .int b, .int s]) → Dk (n + 5) H' d → Gr d H H' → Q (.ref p) H'
theorem d_law_any (A : All K mg) : Df P w K mg base CX0 "_law_any" 3 ["deck"] sp_law_any := by
  obtain ⟨f, fd, F, hm, hb⟩ := A.t_law_any
  refine ⟨f, fd, F.ok sc_law_any (fun vs H Q E h => ?_) (fun cdv A' outer s H vs Q E hr h => ?_), hm, F.kp, hb⟩
  · obtain ⟨d, n, rfl, _⟩ := h; rfl
  · obtain ⟨d, n, rfl, hD, hn, q⟩ := h
    refine ⟨_, (pss_cons (ps_asg (pe_callD (d_law_one A) hr (by decide) (by rfl) pass0 (pa_cons (pv 0) (pa_cons (pe_lst (pa_cons (pe_tup (pa_cons pe_int (pa_cons pe_int (pa_cons pe_int pa_nil)))) (pa_cons (pe_tup (pa_cons pe_int (pa_cons pe_int (pa_cons pe_int pa_nil)))) (pa_cons (pe_tup (pa_cons pe_int (pa_cons pe_int (pa_cons (pe_op op_pow pe_int pe_int) pa_nil)))) pa_nil)))) pa_nil))) (pg_tup (by rfl) (pgs_cons (pg_name (i := 1) sc_law_any.nd rfl (Or.inl rfl)) (pgs_cons (pg_name (i := 2) sc_law_any.nd rfl (Or.inl rfl)) (pgs_cons (pg_name (i := 3) sc_law_any.nd rfl (Or.inl rfl)) pgs_nil)))))
 (pss_one (ps_ret (pe_callD (d_law_land A) hr (by decide) (by rfl) pass0 (pa_cons (pv 0) (pa_cons (pv 1) (pa_cons (pv 2) (pa_cons (pv 3) pa_nil)))))))), ?_⟩
    refine ⟨_, rfl, ⟨by show 3 ≤ sizeLine; decide, fun p1 h1 => ?_⟩⟩
    have D1 := hD.new (o := .tup [.int 9, .int 5, .int 9]) h1 rfl
    refine ⟨by show 3 ≤ sizeLine; decide, fun p2 h2 => ?_⟩
    have D2 := D1.new (o := .tup [.int 30, .int 60, .int 99]) h2 rfl
    refine ⟨_, _, rfl, rfl, ⟨by decide, by decide, by decide⟩, ?_⟩
    refine ⟨by show 3 ≤ sizeLine; decide, fun p3 h3 => ?_⟩
    have D3 := D2.new (o := .tup [.int 400, .int 60, .int (10 ^ (6 : Int).toNat)]) h3 rfl
    refine ⟨by show 3 ≤ sizeLine; decide, fun l hl => ?_⟩
    have D4 := D3.new (o := .lst [.ref p1, .ref p2, .ref p3]) hl rfl
    obtain ⟨zs, hz⟩ := hD.lst
    have G4 : Gr d H (upd (upd (upd (upd H p1 (.tup [.int 9, .int 5, .int 9])) p2 (.tup [.int 30, .int 60, .int 99])) p3 (.tup [.int 400, .int 60, .int (10 ^ (6 : Int).toNat)])) l (.lst [.ref p1, .ref p2, .ref p3])) :=
      ((((Gr.refl hz).new h1 rfl).new h2 rfl).new h3 rfl).new hl rfl
    have t1 : upd (upd (upd (upd H p1 (.tup [.int 9, .int 5, .int 9])) p2 (.tup [.int 30, .int 60, .int 99])) p3 (.tup [.int 400, .int 60, .int (10 ^ (6 : Int).toNat)])) l (.lst [.ref p1, .ref p2, .ref p3]) p1 = some (.tup [.int 9, .int 5, .int 9]) :=
      same_new hl _ _ (same_new h3 _ _ (same_new h2 _ _ upd_same))
    have t2 : upd (upd (upd (upd H p1 (.tup [.int 9, .int 5, .int 9])) p2 (.tup [.int 30, .int 60, .int 99])) p3 (.tup [.int 400, .int 60, .int (10 ^ (6 : Int).toNat)])) l (.lst [.ref p1, .ref p2, .ref p3]) p2 = some (.tup [.int 30, .int 60, .int 99]) :=
      same_new hl _ _ (same_new h3 _ _ upd_same)
    have t3 : upd (upd (upd (upd H p1 (.tup [.int 9, .int 5, .int 9])) p2 (.tup [.int 30, .int 60, .int 99])) p3 (.tup [.int 400, .int 60, .int (10 ^ (6 : Int).toNat)])) l (.lst [.ref p1, .ref p2, .ref p3]) p3 = some (.tup [.int 400, .int 60, .int (10 ^ (6 : Int).toNat)]) :=
      same_new hl _ _ upd_same
    have tl : SqL K (upd (upd (upd (upd H p1 (.tup [.int 9, .int 5, .int 9])) p2 (.tup [.int 30, .int 60, .int 99])) p3 (.tup [.int 400, .int 60, .int (10 ^ (6 : Int).toNat)])) l (.lst [.ref p1, .ref p2, .ref p3])) l [.ref p1, .ref p2, .ref p3] := SqL.of upd_same
    generalize upd (upd (upd (upd H p1 (.tup [.int 9, .int 5, .int 9])) p2 (.tup [.int 30, .int 60, .int 99])) p3 (.tup [.int 400, .int 60, .int (10 ^ (6 : Int).toNat)])) l (.lst [.ref p1, .ref p2, .ref p3]) = H4 at D4 G4 t1 t2 t3 tl ⊢
    have hld : l ≠ d := fun e => by
      obtain ⟨_, x, y, z, hh, _⟩ := D3
      rw [e, hh] at hl
      cases hl
    refine ⟨d, l, n, _, rfl, D4, by omega, tl, hld, by show 0 < 3; decide, by show 3 < 1000000; decide, fun i v H5 hv D5 g5 => ?_⟩
    have fin : ∀ (p : Addr) (L B S : Int), SqT K H5 p [.int L, .int B, .int S] → (1 ≤ L ∧ L ≤ 400) → (1 ≤ B ∧ B ≤ 60) → (0 ≤ S ∧ S ≤ 1000000) →
        gTup K 3 (gCons (gName 1) (gCons (gName 2) (gCons (gName 3) gNil))) (.ref p) (start ["deck", "long_so", "bottoms", "shifts"] [.ref d]) H5 (tRet (tCall sp_law_land [] E0 (tCons (tVar 0) (tCons (tVar 1) (tCons (tVar 2) (tCons (tVar 3) tNil))))) { nx := fun _ H' => Q .non H', rt := Q }) := fun p L B S ht hL hB hS => by
      refine ⟨p, _, rfl, ht, rfl, _, _, rfl, _, _, rfl, _, _, rfl, rfl, ?_⟩
      refine ⟨_, rfl, _, rfl, _, rfl, _, rfl, d, n + 1, L, B, S, rfl, D5, by omega, hL, hB, hS, fun p' dd t b s H6 a1 a2 a3 a4 a5 a6 a7 a8 => ?_⟩
      obtain ⟨ys, hy⟩ := D5.lst
      exact q p' dd t b s H6 ⟨⟨by omega, by omega⟩, a2, ⟨by omega, by omega⟩, by omega, by omega⟩ ((G4.trans g5).free hy a5) a6 a7 ((G4.trans g5).trans a8)
    match i, hv with
    | 0, hv =>
      obtain rfl : V.ref p1 = v := Option.some.inj hv
      exact fin p1 9 5 9 (g5.t (SqT.of t1)) (by decide) (by decide) (by decide)
    | 1, hv =>
      obtain rfl : V.ref p2 = v := Option.some.inj hv
      exact fin p2 30 60 99 (g5.t (SqT.of t2)) (by decide) (by decide) (by decide)
    | 2, hv =>
      obtain rfl : V.ref p3 = v := Option.some.inj hv
      exact fin p3 400 60 (10 ^ (6 : Int).toNat) (g5.t (SqT.of t3)) (by decide) (by decide) (by decide)
    | i + 3, hv => simp at hv

theorem kn_flat {K : PySem.W.Frag} {H H' : Hp} {x : V} {n : String} (s : Same (flatH H) H') (h : Kn K H x n) : Kn K H' x n := by
  cases h with
  | non => exact .non
  | bl b => exact .bl b
  | int i => exact .int i
  | str x => exact .str x
  | lst h => exact .lst (Same.l s (flat_l h))
  | tup h => exact .tup (Same.t s (flat_t h))
theorem ld_flat {K : PySem.W.Frag} {H H' : Hp} {a : Addr} {d t b s0 : Int} (s : Same (flatH H) H') (h : Ld K H a d t b s0) : Ld K H' a d t b s0 := Same.t s (flat_t h)
theorem noland_flat {K : PySem.W.Frag} {H H' : Hp} {x : V} (s : Same (flatH H) H') (h : NoLandV K H x) : NoLandV K H' x := by
  rcases h with ⟨n, h, hn⟩ | ⟨a, xs, h1, h2, h3⟩ | ⟨a, t, b, s1, h1, h2⟩ | ⟨a, d, t, b, s1, h1, h2, h3⟩
  · exact .inl ⟨n, kn_flat s h, hn⟩
  · exact .inr (.inl ⟨a, xs, h1, Same.t s (flat_t h2), h3⟩)
  · exact .inr (.inr (.inl ⟨a, t, b, s1, h1, ld_flat s h2⟩))
  · exact .inr (.inr (.inr ⟨a, d, t, b, s1, h1, ld_flat s h2, h3⟩))
/-- how a land and a year are refused -/
inductive ByL (K : PySem.W.Frag) (H : Hp) : V → V → String → Prop where
  | land {x y : V} : NoLandV K H x → ByL K H x y "NoLand"
  | year {a : Addr} {d t b s : Int} {y : V} {n : String} : Ld K H a d t b s → LandOk d t b s → Kn K H y n → isFrom y (-1000000000000000000000000000000) 1000000000000000000000000000000 = false → ByL K H (.ref a) y "NoYear"
theorem ByL.flat {K : PySem.W.Frag} {H H' : Hp} {x y : V} {dn : String} (s : Same (flatH H) H') (h : ByL K H x y dn) : ByL K H' x y dn := by
  cases h with
  | land h => exact .land (noland_flat s h)
  | year h1 h2 h3 h4 => exact .year (ld_flat s h1) h2 (kn_flat s h3) h4
/-- an answered list of closures that refuse -/
def Doors (P : Program) (w : World) (K : PySem.W.Frag) (mg : Str → Option Value) (base : Heap) (TT : List (Addr × Str)) (H : Hp) (Q : VK) (dn : String) (n : Nat) : Prop :=
  ∀ (pd : Addr) (fs : List Addr) (H' : Hp), LamX.ExtN H H' → NoT H' → LamX.Tabs TT H' → (∀ b o, H b = some o → (∀ ps, o ≠ .tbl ps) → b ≠ pd) → H' pd = some (.lst (fs.map V.ref)) → fs.length = n → (∀ f ∈ fs, Refuses P w K mg base 6 H' f dn) → Q (.ref pd) H'
def sp_law_by_land (P : Program) (w : World) (K : PySem.W.Frag) (mg : Str → Option Value) (base : Heap) (TT : List (Addr × Str)) : Sp := fun vs H Q _ => ∃ (x y : V) (dn : String), vs = [x, y] ∧ ByL K H x y dn ∧ NoT H ∧ LamX.Tabs TT H ∧ Doors P w K mg base TT H Q dn 4
theorem d_law_by_land (A : All K mg) {c Pt : Addr} {TT : List (Addr × Str)} (TC : Tc K mg "_law_by_land" s_law_by_land ["land", "other"] c) (TB : LamX.TabB base mg c Pt) (hmT : (Pt, (("_law_by_land" : Str) ++ ".<locals>.") ++ "<lambda>") ∈ TT) (huT : ∀ p ∈ TT, p.1 = Pt → p.2 = (("_law_by_land" : Str) ++ ".<locals>.") ++ "<lambda>") :
    Df P w K mg base CX0 "_law_by_land" 5 ["land", "other"] (sp_law_by_land P w K mg base TT) := by
  obtain ⟨f, fd, F, hm, hb⟩ := TC
  refine ⟨f, fd, FunC.okL F sc_law_by_land (fun vs H Q E h => ?_) (fun A' outer sh H vs Q E hr h => ?_), hm, F.kp, hb⟩
  · obtain ⟨x, y, dn, rfl, _⟩ := h; rfl
  · obtain ⟨x, y, dn, rfl, hB, nt, T0, q⟩ := h
    refine ⟨_, (bd_cons (ps_set (i := 2) sc_law_by_land.nd rfl (Or.inl rfl) (pe_lst (pa_cons (pe_lam TB rfl hmT huT (by rfl) (LamX.lamS_by (sc := defScope s_law_by_land) (by decide +kernel))) pa_nil)))
 (bd_cons (ps_expr (pe_bm PySem.F.plainAttrs_list PySem.F.slot_list_append PySem.F.type_list_append mt_append (pv 2) (pa_cons (pe_lam TB rfl hmT huT (by rfl) (LamX.lamS_by (sc := defScope s_law_by_land) (by decide +kernel))) pa_nil)))
 (bd_cons (ps_expr (pe_bm PySem.F.plainAttrs_list PySem.F.slot_list_append PySem.F.type_list_append mt_append (pv 2) (pa_cons (pe_lam TB rfl hmT huT (by rfl) (LamX.lamS_by (sc := defScope s_law_by_land) (by decide +kernel))) pa_nil)))
 (bd_cons (ps_expr (pe_bm PySem.F.plainAttrs_list PySem.F.slot_list_append PySem.F.type_list_append mt_append (pv 2) (pa_cons (pe_lam TB rfl hmT huT (by rfl) (LamX.lamS_by (sc := defScope s_law_by_land) (by decide +kernel))) pa_nil)))
 (bd_ret (pv 2)))))), ?_⟩
    refine ⟨T0, fun f1 c1 pm1 ct1 H1 e1 T1 n1 hf1 hc1 => ⟨by show 1 ≤ sizeLine; decide, fun pd hpd => ?_⟩⟩
    obtain ⟨E1, F1, T1', N1, P1, L1⟩ := lam_first (zs := [.ref f1]) e1 T1 (n1 nt) hf1 hc1 hpd _ rfl
    have T1 := T1'
    refine ⟨_, rfl, .inl ⟨rfl, _, SqL.of P1⟩, T1, fun f2 c2 pm2 ct2 H2 e2 U2 n2 hf2 hc2 => ?_⟩
    refine ⟨pd, [.ref f1], _, rfl, rfl, (by rw [upd_ne (ne_of_none (e2 _ _ P1 fun ps z => by cases z) hf2)]; exact e2 _ _ P1 fun ps z => by cases z), sz_small (by show 1 < 100000; decide), ?_⟩
    obtain ⟨E2, T2, N2, P2, L2⟩ := lam_put (zs' := [.ref f1, .ref f2]) P1 e2 U2 (n2 N1) hf2 hc2 _ rfl
    refine ⟨_, rfl, .inl ⟨rfl, _, SqL.of P2⟩, T2, fun f3 c3 pm3 ct3 H3 e3 U3 n3 hf3 hc3 => ?_⟩
    refine ⟨pd, [.ref f1, .ref f2], _, rfl, rfl, (by rw [upd_ne (ne_of_none (e3 _ _ P2 fun ps z => by cases z) hf3)]; exact e3 _ _ P2 fun ps z => by cases z), sz_small (by show 2 < 100000; decide), ?_⟩
    obtain ⟨E3, T3, N3, P3, L3⟩ := lam_put (zs' := [.ref f1, .ref f2, .ref f3]) P2 e3 U3 (n3 N2) hf3 hc3 _ rfl
    refine ⟨_, rfl, .inl ⟨rfl, _, SqL.of P3⟩, T3, fun f4 c4 pm4 ct4 H4 e4 U4 n4 hf4 hc4 => ?_⟩
    refine ⟨pd, [.ref f1, .ref f2, .ref f3], _, rfl, rfl, (by rw [upd_ne (ne_of_none (e4 _ _ P3 fun ps z => by cases z) hf4)]; exact e4 _ _ P3 fun ps z => by cases z), sz_small (by show 3 < 100000; decide), ?_⟩
    obtain ⟨E4, T4, N4, P4, L4⟩ := lam_put (zs' := [.ref f1, .ref f2, .ref f3, .ref f4]) P3 e4 U4 (n4 N3) hf4 hc4 _ rfl
    refine ⟨_, rfl, fun Hc Lt => ?_⟩
    have E12 := E2
    have l1 := ((L1.ext P1 E2).ext P2 E3).ext P3 E4
    have l2 := (L2.ext P2 E3).ext P3 E4
    have l3 := L3.ext P3 E4
    have EA : LamX.ExtN H Hc := fun b o h t => lent_in Lt (((E2.trans E3).trans E4) b o (F1 b o h t) (E1 b o h t) t)
    have fl : ∀ {Hd : Hp}, Same (flatH Hc) Hd → Same (flatH H) Hd := fun s b o h => s b o (flat_eq (EA b o (flat_in h).1 fun ps z => by have := (flat_in h).2; rw [z] at this; cases this) (flat_in h).2)
    refine q pd [f1, f2, f3, f4] Hc EA (lent_nt Lt N4) (T4.ext fun b o h => lent_in Lt h) F1 (lent_in Lt P4) rfl fun g hg => ?_
    have hd : ∀ {Hd : Hp}, Same (flatH Hc) Hd → ByL K Hd x y dn := fun s => hB.flat (fl s)
    simp only [List.mem_cons, List.not_mem_nil, or_false] at hg
    rcases hg with rfl | rfl | rfl | rfl
    · refine refuses_lent (k := 5) Lt (LamX.lamS_by (sc := defScope s_law_by_land) (by decide +kernel)) l1 (fun _ _ _ _ _ => rfl) (fun cl c2 A2 o2 s2 H2 E2 hr2 => (pe_callD (rd_begin A) hr2 (by decide) (by rfl) (L2N.passes_call (L2N.takes_of rfl rfl rfl rfl) (fun _ _ _ _ h => h)) (pa_cons (pv 0) (pa_cons (pv 1) pa_nil)))) fun Hd E Q s n hE0 => ?_
      have hE := fun D hD => hE0 D Hd hD (Same.refl _) n
      refine ⟨_, rfl, _, rfl, x, y, rfl, ?_⟩
      cases hd s with
      | land h => exact .inl ⟨h, hE⟩
      | year h1 h2 h3 h4 => exact .inr ⟨_, _, _, _, _, _, rfl, h1, h2, h3, h4, hE⟩
    · refine refuses_lent (k := 5) Lt (LamX.lamS_by (sc := defScope s_law_by_land) (by decide +kernel)) l2 (fun _ _ _ _ _ => rfl) (fun cl c2 A2 o2 s2 H2 E2 hr2 => (pe_callD (rd_is_long A) hr2 (by decide) (by rfl) (L2N.passes_call (L2N.takes_of rfl rfl rfl rfl) (fun _ _ _ _ h => h)) (pa_cons (pv 0) (pa_cons (pv 1) pa_nil)))) fun Hd E Q s n hE0 => ?_
      have hE := fun D hD => hE0 D Hd hD (Same.refl _) n
      refine ⟨_, rfl, _, rfl, x, y, rfl, ?_⟩
      cases hd s with
      | land h => exact .inl ⟨h, hE⟩
      | year h1 h2 h3 h4 => exact .inr ⟨_, _, _, _, _, _, rfl, h1, h2, h3, h4, hE⟩
    · refine refuses_lent (k := 5) Lt (LamX.lamS_by (sc := defScope s_law_by_land) (by decide +kernel)) l3 (fun _ _ _ _ _ => rfl) (fun cl c2 A2 o2 s2 H2 E2 hr2 => (pe_callD (rd_next_long A) hr2 (by decide) (by rfl) (L2N.passes_call (L2N.takes_of rfl rfl rfl rfl) (fun _ _ _ _ h => h)) (pa_cons (pv 0) (pa_cons (pv 1) pa_nil)))) fun Hd E Q s n hE0 => ?_
      have hE := fun D hD => hE0 D Hd hD (Same.refl _) n
      refine ⟨_, rfl, _, rfl, x, y, rfl, ?_⟩
      cases hd s with
      | land h => exact .inl ⟨h, hE⟩
      | year h1 h2 h3 h4 => exact .inr ⟨_, _, _, _, _, _, rfl, h1, h2, h3, h4, hE⟩
    · refine refuses_lent (k := 5) Lt (LamX.lamS_by (sc := defScope s_law_by_land) (by decide +kernel)) L4 (fun _ _ _ _ _ => rfl) (fun cl c2 A2 o2 s2 H2 E2 hr2 => (pe_callD (rd_long_years A) hr2 (by decide) (by rfl) (L2N.passes_call (L2N.takes_of rfl rfl rfl rfl) (fun _ _ _ _ h => h)) (pa_cons (pv 0) (pa_cons (pv 1) (pa_cons pe_non pa_nil))))) fun Hd E Q s n hE0 => ?_
      have hE := fun D hD => hE0 D Hd hD (Same.refl _) n
      refine ⟨_, rfl, _, rfl, x, y, .non, rfl, ?_⟩
      cases hd s with
      | land h => exact .inl ⟨h, hE⟩
      | year h1 h2 h3 h4 => exact .inr ⟨_, _, _, _, _, _, rfl, h1, h2, h3, h4, hE⟩

theorem NameO.flat {K : PySem.W.Frag} {H H' : Hp} {x p v n : V} {o : Option String} (s : Same (flatH H) H') (h : NameO K H x p v n o) : NameO K H' x p v n o := by
  cases h with
  | land h => exact .land (noland_flat s h)
  | place h1 h2 h3 h4 => exact .place (ld_flat s h1) h2 (kn_flat s h3) h4
  | week h1 h2 h3 h4 h5 h6 => exact .week (ld_flat s h1) h2 (kn_flat s h3) h4 (kn_flat s h5) h6
  | name h1 h2 h3 h4 h5 h6 h7 => exact .name (ld_flat s h1) h2 (kn_flat s h3) h4 h5 (kn_flat s h6) h7
  | ok h1 h2 h3 h4 h5 h6 h7 => exact .ok (ld_flat s h1) h2 (kn_flat s h3) h4 h5 (kn_flat s h6) h7
def sp_law_by_week (P : Program) (w : World) (K : PySem.W.Frag) (mg : Str → Option Value) (base : Heap) (TT : List (Addr × Str)) : Sp := fun vs H Q _ => ∃ (x p v n : V) (dn : String), vs = [x, p, v, n] ∧ NameO K H x p v n (some dn) ∧ NoT H ∧ LamX.Tabs TT H ∧ Doors P w K mg base TT H Q dn 5
theorem d_law_by_week (A : All K mg) {c Pt : Addr} {TT : List (Addr × Str)} (TC : Tc K mg "_law_by_week" s_law_by_week ["land", "place", "week", "name"] c) (TB : LamX.TabB base mg c Pt) (hmT : (Pt, (("_law_by_week" : Str) ++ ".<locals>.") ++ "<lambda>") ∈ TT) (huT : ∀ p ∈ TT, p.1 = Pt → p.2 = (("_law_by_week" : Str) ++ ".<locals>.") ++ "<lambda>") :
    Df P w K mg base CX0 "_law_by_week" 6 ["land", "place", "week", "name"] (sp_law_by_week P w K mg base TT) := by
  obtain ⟨f, fd, F, hm, hb⟩ := TC
  refine ⟨f, fd, FunC.okL F sc_law_by_week (fun vs H Q E h => ?_) (fun A' outer sh H vs Q E hr h => ?_), hm, F.kp, hb⟩
  · obtain ⟨x, p, v, n, dn, rfl, _⟩ := h; rfl
  · obtain ⟨x, p, v, n, dn, rfl, hB, nt, T0, q⟩ := h
    refine ⟨_, (bd_cons (ps_set (i := 4) sc_law_by_week.nd rfl (Or.inl rfl) (pe_lst (pa_cons (pe_lam TB rfl hmT huT (by rfl) (LamX.lamS_by (sc := defScope s_law_by_week) (by decide +kernel))) pa_nil)))
 (bd_cons (ps_expr (pe_bm PySem.F.plainAttrs_list PySem.F.slot_list_append PySem.F.type_list_append mt_append (pv 4) (pa_cons (pe_lam TB rfl hmT huT (by rfl) (LamX.lamS_by (sc := defScope s_law_by_week) (by decide +kernel))) pa_nil)))
 (bd_cons (ps_expr (pe_bm PySem.F.plainAttrs_list PySem.F.slot_list_append PySem.F.type_list_append mt_append (pv 4) (pa_cons (pe_lam TB rfl hmT huT (by rfl) (LamX.lamS_by (sc := defScope s_law_by_week) (by decide +kernel))) pa_nil)))
 (bd_cons (ps_expr (pe_bm PySem.F.plainAttrs_list PySem.F.slot_list_append PySem.F.type_list_append mt_append (pv 4) (pa_cons (pe_lam TB rfl hmT huT (by rfl) (LamX.lamS_by (sc := defScope s_law_by_week) (by decide +kernel))) pa_nil)))
 (bd_cons (ps_expr (pe_bm PySem.F.plainAttrs_list PySem.F.slot_list_append PySem.F.type_list_append mt_append (pv 4) (pa_cons (pe_lam TB rfl hmT huT (by rfl) (LamX.lamS_by (sc := defScope s_law_by_week) (by decide +kernel))) pa_nil)))
 (bd_ret (pv 4))))))), ?_⟩
    refine ⟨T0, fun f1 c1 pm1 ct1 H1 e1 U1 n1 hf1 hc1 => ⟨by show 1 ≤ sizeLine; decide, fun pd hpd => ?_⟩⟩
    obtain ⟨E1, F1, T1, N1, P1, L1⟩ := lam_first (zs := [.ref f1]) e1 U1 (n1 nt) hf1 hc1 hpd _ rfl
    refine ⟨_, rfl, .inl ⟨rfl, _, SqL.of P1⟩, T1, fun f2 c2 pm2 ct2 H2 e2 U2 n2 hf2 hc2 => ?_⟩
    refine ⟨pd, [.ref f1], _, rfl, rfl, (by rw [upd_ne (ne_of_none (e2 _ _ P1 fun ps z => by cases z) hf2)]; exact e2 _ _ P1 fun ps z => by cases z), sz_small (by show 1 < 100000; decide), ?_⟩
    obtain ⟨E2, T2, N2, P2, L2⟩ := lam_put (zs' := [.ref f1, .ref f2]) P1 e2 U2 (n2 N1) hf2 hc2 _ rfl
    refine ⟨_, rfl, .inl ⟨rfl, _, SqL.of P2⟩, T2, fun f3 c3 pm3 ct3 H3 e3 U3 n3 hf3 hc3 => ?_⟩
    refine ⟨pd, [.ref f1, .ref f2], _, rfl, rfl, (by rw [upd_ne (ne_of_none (e3 _ _ P2 fun ps z => by cases z) hf3)]; exact e3 _ _ P2 fun ps z => by cases z), sz_small (by show 2 < 100000; decide), ?_⟩
    obtain ⟨E3, T3, N3, P3, L3⟩ := lam_put (zs' := [.ref f1, .ref f2, .ref f3]) P2 e3 U3 (n3 N2) hf3 hc3 _ rfl
    refine ⟨_, rfl, .inl ⟨rfl, _, SqL.of P3⟩, T3, fun f4 c4 pm4 ct4 H4 e4 U4 n4 hf4 hc4 => ?_⟩
    refine ⟨pd, [.ref f1, .ref f2, .ref f3], _, rfl, rfl, (by rw [upd_ne (ne_of_none (e4 _ _ P3 fun ps z => by cases z) hf4)]; exact e4 _ _ P3 fun ps z => by cases z), sz_small (by show 3 < 100000; decide), ?_⟩
    obtain ⟨E4, T4, N4, P4, L4⟩ := lam_put (zs' := [.ref f1, .ref f2, .ref f3, .ref f4]) P3 e4 U4 (n4 N3) hf4 hc4 _ rfl
    refine ⟨_, rfl, .inl ⟨rfl, _, SqL.of P4⟩, T4, fun f5 c5 pm5 ct5 H5 e5 U5 n5 hf5 hc5 => ?_⟩
    refine ⟨pd, [.ref f1, .ref f2, .ref f3, .ref f4], _, rfl, rfl, (by rw [upd_ne (ne_of_none (e5 _ _ P4 fun ps z => by cases z) hf5)]; exact e5 _ _ P4 fun ps z => by cases z), sz_small (by show 4 < 100000; decide), ?_⟩
    obtain ⟨E5, T5, N5, P5, L5⟩ := lam_put (zs' := [.ref f1, .ref f2, .ref f3, .ref f4, .ref f5]) P4 e5 U5 (n5 N4) hf5 hc5 _ rfl
    refine ⟨_, rfl, fun Hc Lt => ?_⟩
    have l1 := ((((L1.ext P1 E2).ext P2 E3).ext P3 E4).ext P4 E5)
    have l2 := (((L2.ext P2 E3).ext P3 E4).ext P4 E5)
    have l3 := ((L3.ext P3 E4).ext P4 E5)
    have l4 := (L4.ext P4 E5)
    have l5 := L5
    have EA : LamX.ExtN H Hc := fun b o h t => lent_in Lt ((((E2.trans E3).trans E4).trans E5) b o (F1 b o h t) (E1 b o h t) t)
    have fl : ∀ {Hd : Hp}, Same (flatH Hc) Hd → Same (flatH H) Hd := fun s b o h => s b o (flat_eq (EA b o (flat_in h).1 fun ps z => by have := (flat_in h).2; rw [z] at this; cases this) (flat_in h).2)
    refine q pd [f1, f2, f3, f4, f5] Hc EA (lent_nt Lt N5) (T5.ext fun b o h => lent_in Lt h) F1 (lent_in Lt P5) rfl fun g hg => ?_
    have hd : ∀ {Hd : Hp}, Same (flatH Hc) Hd → NameO K Hd x p v n (some dn) := fun s => hB.flat (fl s)
    simp only [List.mem_cons, List.not_mem_nil, or_false] at hg
    rcases hg with rfl | rfl | rfl | rfl | rfl
    · refine refuses_lent (k := 5) Lt (LamX.lamS_by (sc := defScope s_law_by_week) (by decide +kernel)) l1 (fun _ _ _ _ _ => rfl) (fun cl c2 A2 o2 s2 H2 E2 hr2 => (pe_callD (rd_next_year A) hr2 (by decide) (by rfl) (L2N.passes_call (L2N.takes_of rfl rfl rfl rfl) (fun _ _ _ _ h => h)) (pa_cons (pv 0) (pa_cons (pv 1) (pa_cons (pv 2) (pa_cons (pv 3) (pa_cons pe_non pa_nil))))))) fun Hd E Q s nd hE0 => ?_
      have hE := fun D hD => hE0 D Hd hD (Same.refl _) nd
      exact ⟨_, rfl, _, rfl, _, rfl, _, rfl, x, p, v, n, .non, rfl, .inl ⟨dn, hd s, hE⟩⟩
    · refine refuses_lent (k := 5) Lt (LamX.lamS_by (sc := defScope s_law_by_week) (by decide +kernel)) l2 (fun _ _ _ _ _ => rfl) (fun cl c2 A2 o2 s2 H2 E2 hr2 => (pe_callD (rd_how_many A) hr2 (by decide) (by rfl) (L2N.passes_call (L2N.takes_of rfl rfl rfl rfl) (fun _ _ _ _ h => h)) (pa_cons (pv 0) (pa_cons (pv 1) (pa_cons (pv 2) (pa_cons (pv 3) (pa_cons pe_non (pa_cons pe_non pa_nil)))))))) fun Hd E Q s nd hE0 => ?_
      have hE := fun D hD => hE0 D Hd hD (Same.refl _) nd
      exact ⟨_, rfl, _, rfl, _, rfl, _, rfl, x, p, v, n, .non, .non, rfl, .inl ⟨dn, hd s, hE⟩⟩
    · refine refuses_lent (k := 5) Lt (LamX.lamS_by (sc := defScope s_law_by_week) (by decide +kernel)) l3 (fun _ _ _ _ _ => rfl) (fun cl c2 A2 o2 s2 H2 E2 hr2 => (pe_callD (rd_lengths A) hr2 (by decide) (by rfl) (L2N.passes_call (L2N.takes_of rfl rfl rfl rfl) (fun _ _ _ _ h => h)) (pa_cons (pv 0) (pa_cons (pv 1) (pa_cons (pv 2) (pa_cons (pv 3) pa_nil)))))) fun Hd E Q s nd hE0 => ?_
      have hE := fun D hD => hE0 D Hd hD (Same.refl _) nd
      exact ⟨_, rfl, _, rfl, _, rfl, _, rfl, x, p, v, n, dn, rfl, hd s, hE⟩
    · refine refuses_lent (k := 5) Lt (LamX.lamS_by (sc := defScope s_law_by_week) (by decide +kernel)) l4 (fun _ _ _ _ _ => rfl) (fun cl c2 A2 o2 s2 H2 E2 hr2 => (pe_callD (rd_barring A) hr2 (by decide) (by rfl) (L2N.passes_call (L2N.takes_of rfl rfl rfl rfl) (fun _ _ _ _ h => h)) (pa_cons (pv 0) (pa_cons (pv 1) (pa_cons (pv 2) (pa_cons (pv 3) pa_nil)))))) fun Hd E Q s nd hE0 => ?_
      have hE := fun D hD => hE0 D Hd hD (Same.refl _) nd
      exact ⟨_, rfl, _, rfl, _, rfl, _, rfl, x, p, v, n, dn, rfl, hd s, hE⟩
    · refine refuses_lent (k := 5) Lt (LamX.lamS_by (sc := defScope s_law_by_week) (by decide +kernel)) l5 (fun _ _ _ _ _ => rfl) (fun cl c2 A2 o2 s2 H2 E2 hr2 => (pe_callD (rd_bars A) hr2 (by decide) (by rfl) (L2N.passes_call (L2N.takes_of rfl rfl rfl rfl) (fun _ _ _ _ h => h)) (pa_cons (pv 0) (pa_cons (pv 1) (pa_cons (pv 2) (pa_cons (pv 3) (pa_cons pe_non pa_nil))))))) fun Hd E Q s nd hE0 => ?_
      have hE := fun D hD => hE0 D Hd hD (Same.refl _) nd
      exact ⟨_, rfl, _, rfl, _, rfl, _, rfl, x, p, v, n, .non, dn, rfl, hd s, hE⟩

theorem PlacedO.flat {K : PySem.W.Frag} {H H' : Hp} {x p v n : V} {o : Option String} (s : Same (flatH H) H') (h : PlacedO K H x p v n o) : PlacedO K H' x p v n o := by
  cases h with
  | land h => exact .land (noland_flat s h)
  | place h1 h2 h3 h4 => exact .place (ld_flat s h1) h2 (kn_flat s h3) h4
  | land2 h1 h2 h3 h4 h5 => exact .land2 (ld_flat s h1) h2 (kn_flat s h3) h4 (noland_flat s h5)
  | place2 h1 h2 h3 h4 h5 h6 h7 h8 => exact .place2 (ld_flat s h1) h2 (kn_flat s h3) h4 (ld_flat s h5) h6 (kn_flat s h7) h8
  | ok h1 h2 h3 h4 h5 h6 h7 h8 => exact .ok (ld_flat s h1) h2 (kn_flat s h3) h4 (ld_flat s h5) h6 (kn_flat s h7) h8
def sp_law_by_two (P : Program) (w : World) (K : PySem.W.Frag) (mg : Str → Option Value) (base : Heap) (TT : List (Addr × Str)) : Sp := fun vs H Q _ => ∃ (x p v n : V) (dn : String), vs = [x, p, v, n] ∧ PlacedO K H x p v n (some dn) ∧ NoT H ∧ LamX.Tabs TT H ∧ Doors P w K mg base TT H Q dn 4
theorem d_law_by_two (A : All K mg) {c Pt : Addr} {TT : List (Addr × Str)} (TC : Tc K mg "_law_by_two" s_law_by_two ["one", "place_one", "other", "place_other"] c) (TB : LamX.TabB base mg c Pt) (hmT : (Pt, (("_law_by_two" : Str) ++ ".<locals>.") ++ "<lambda>") ∈ TT) (huT : ∀ p ∈ TT, p.1 = Pt → p.2 = (("_law_by_two" : Str) ++ ".<locals>.") ++ "<lambda>") :
    Df P w K mg base CX0 "_law_by_two" 6 ["one", "place_one", "other", "place_other"] (sp_law_by_two P w K mg base TT) := by
  obtain ⟨f, fd, F, hm, hb⟩ := TC
  refine ⟨f, fd, FunC.okL F sc_law_by_two (fun vs H Q E h => ?_) (fun A' outer sh H vs Q E hr h => ?_), hm, F.kp, hb⟩
  · obtain ⟨x, p, v, n, dn, rfl, _⟩ := h; rfl
  · obtain ⟨x, p, v, n, dn, rfl, hB, nt, T0, q⟩ := h
    refine ⟨_, (bd_cons (ps_set (i := 4) sc_law_by_two.nd rfl (Or.inl rfl) (pe_lst (pa_cons (pe_lam TB rfl hmT huT (by rfl) (LamX.lamS_by (sc := defScope s_law_by_two) (by decide +kernel))) pa_nil)))
 (bd_cons (ps_expr (pe_bm PySem.F.plainAttrs_list PySem.F.slot_list_append PySem.F.type_list_append mt_append (pv 4) (pa_cons (pe_lam TB rfl hmT huT (by rfl) (LamX.lamS_by (sc := defScope s_law_by_two) (by decide +kernel))) pa_nil)))
 (bd_cons (ps_expr (pe_bm PySem.F.plainAttrs_list PySem.F.slot_list_append PySem.F.type_list_append mt_append (pv 4) (pa_cons (pe_lam TB rfl hmT huT (by rfl) (LamX.lamS_by (sc := defScope s_law_by_two) (by decide +kernel))) pa_nil)))
 (bd_cons (ps_expr (pe_bm PySem.F.plainAttrs_list PySem.F.slot_list_append PySem.F.type_list_append mt_append (pv 4) (pa_cons (pe_lam TB rfl hmT huT (by rfl) (LamX.lamS_by (sc := defScope s_law_by_two) (by decide +kernel))) pa_nil)))
 (bd_ret (pv 4)))))), ?_⟩
    refine ⟨T0, fun f1 c1 pm1 ct1 H1 e1 U1 n1 hf1 hc1 => ⟨by show 1 ≤ sizeLine; decide, fun pd hpd => ?_⟩⟩
    obtain ⟨E1, F1, T1, N1, P1, L1⟩ := lam_first (zs := [.ref f1]) e1 U1 (n1 nt) hf1 hc1 hpd _ rfl
    refine ⟨_, rfl, .inl ⟨rfl, _, SqL.of P1⟩, T1, fun f2 c2 pm2 ct2 H2 e2 U2 n2 hf2 hc2 => ?_⟩
    refine ⟨pd, [.ref f1], _, rfl, rfl, (by rw [upd_ne (ne_of_none (e2 _ _ P1 fun ps z => by cases z) hf2)]; exact e2 _ _ P1 fun ps z => by cases z), sz_small (by show 1 < 100000; decide), ?_⟩
    obtain ⟨E2, T2, N2, P2, L2⟩ := lam_put (zs' := [.ref f1, .ref f2]) P1 e2 U2 (n2 N1) hf2 hc2 _ rfl
    refine ⟨_, rfl, .inl ⟨rfl, _, SqL.of P2⟩, T2, fun f3 c3 pm3 ct3 H3 e3 U3 n3 hf3 hc3 => ?_⟩
    refine ⟨pd, [.ref f1, .ref f2], _, rfl, rfl, (by rw [upd_ne (ne_of_none (e3 _ _ P2 fun ps z => by cases z) hf3)]; exact e3 _ _ P2 fun ps z => by cases z), sz_small (by show 2 < 100000; decide), ?_⟩
    obtain ⟨E3, T3, N3, P3, L3⟩ := lam_put (zs' := [.ref f1, .ref f2, .ref f3]) P2 e3 U3 (n3 N2) hf3 hc3 _ rfl
    refine ⟨_, rfl, .inl ⟨rfl, _, SqL.of P3⟩, T3, fun f4 c4 pm4 ct4 H4 e4 U4 n4 hf4 hc4 => ?_⟩
    refine ⟨pd, [.ref f1, .ref f2, .ref f3], _, rfl, rfl, (by rw [upd_ne (ne_of_none (e4 _ _ P3 fun ps z => by cases z) hf4)]; exact e4 _ _ P3 fun ps z => by cases z), sz_small (by show 3 < 100000; decide), ?_⟩
    obtain ⟨E4, T4, N4, P4, L4⟩ := lam_put (zs' := [.ref f1, .ref f2, .ref f3, .ref f4]) P3 e4 U4 (n4 N3) hf4 hc4 _ rfl
    refine ⟨_, rfl, fun Hc Lt => ?_⟩
    have l1 := (((L1.ext P1 E2).ext P2 E3).ext P3 E4)
    have l2 := ((L2.ext P2 E3).ext P3 E4)
    have l3 := (L3.ext P3 E4)
    have l4 := L4
    have EA : LamX.ExtN H Hc := fun b o h t => lent_in Lt (((E2.trans E3).trans E4) b o (F1 b o h t) (E1 b o h t) t)
    have fl : ∀ {Hd : Hp}, Same (flatH Hc) Hd → Same (flatH H) Hd := fun s b o h => s b o (flat_eq (EA b o (flat_in h).1 fun ps z => by have := (flat_in h).2; rw [z] at this; cases this) (flat_in h).2)
    refine q pd [f1, f2, f3, f4] Hc EA (lent_nt Lt N4) (T4.ext fun b o h => lent_in Lt h) F1 (lent_in Lt P4) rfl fun g hg => ?_
    have hd : ∀ {Hd : Hp}, Same (flatH Hc) Hd → PlacedO K Hd x p v n (some dn) := fun s => hB.flat (fl s)
    simp only [List.mem_cons, List.not_mem_nil, or_false] at hg
    rcases hg with rfl | rfl | rfl | rfl
    · refine refuses_lent (k := 5) Lt (LamX.lamS_by (sc := defScope s_law_by_two) (by decide +kernel)) l1 (fun _ _ _ _ _ => rfl) (fun cl c2 A2 o2 s2 H2 E2 hr2 => (pe_callD (rd_next_day A) hr2 (by decide) (by rfl) (L2N.passes_call (L2N.takes_of rfl rfl rfl rfl) (fun _ _ _ _ h => h)) (pa_cons (pv 0) (pa_cons (pv 1) (pa_cons (pv 2) (pa_cons (pv 3) (pa_cons pe_non pa_nil))))))) fun Hd E Q s nd hE0 => ?_
      have hE := fun D hD => hE0 D Hd hD (Same.refl _) nd
      exact ⟨_, rfl, _, rfl, _, rfl, _, rfl, x, p, v, n, .non, rfl, .inl ⟨dn, hd s, hE⟩⟩
    · refine refuses_lent (k := 5) Lt (LamX.lamS_by (sc := defScope s_law_by_two) (by decide +kernel)) l2 (fun _ _ _ _ _ => rfl) (fun cl c2 A2 o2 s2 H2 E2 hr2 => (pe_callD (rd_days A) hr2 (by decide) (by rfl) (L2N.passes_call (L2N.takes_of rfl rfl rfl rfl) (fun _ _ _ _ h => h)) (pa_cons (pv 0) (pa_cons (pv 1) (pa_cons (pv 2) (pa_cons (pv 3) (pa_cons pe_non (pa_cons pe_non pa_nil)))))))) fun Hd E Q s nd hE0 => ?_
      have hE := fun D hD => hE0 D Hd hD (Same.refl _) nd
      exact ⟨_, rfl, _, rfl, _, rfl, _, rfl, x, p, v, n, .non, .non, rfl, .inl ⟨dn, hd s, hE⟩⟩
    · refine refuses_lent (k := 5) Lt (LamX.lamS_by (sc := defScope s_law_by_two) (by decide +kernel)) l3 (fun _ _ _ _ _ => rfl) (fun cl c2 A2 o2 s2 H2 E2 hr2 => (pe_callD (rd_parting A) hr2 (by decide) (by rfl) (L2N.passes_call (L2N.takes_of rfl rfl rfl rfl) (fun _ _ _ _ h => h)) (pa_cons (pv 0) (pa_cons (pv 1) (pa_cons (pv 2) (pa_cons (pv 3) pa_nil)))))) fun Hd E Q s nd hE0 => ?_
      have hE := fun D hD => hE0 D Hd hD (Same.refl _) nd
      exact ⟨_, rfl, _, rfl, _, rfl, _, rfl, x, p, v, n, dn, rfl, hd s, hE⟩
    · refine refuses_lent (k := 5) Lt (LamX.lamS_by (sc := defScope s_law_by_two) (by decide +kernel)) l4 (fun _ _ _ _ _ => rfl) (fun cl c2 A2 o2 s2 H2 E2 hr2 => (pe_callD (rd_parts A) hr2 (by decide) (by rfl) (L2N.passes_call (L2N.takes_of rfl rfl rfl rfl) (fun _ _ _ _ h => h)) (pa_cons (pv 0) (pa_cons (pv 1) (pa_cons (pv 2) (pa_cons (pv 3) (pa_cons pe_non pa_nil))))))) fun Hd E Q s nd hE0 => ?_
      have hE := fun D hD => hE0 D Hd hD (Same.refl _) nd
      exact ⟨_, rfl, _, rfl, _, rfl, _, rfl, x, p, v, n, .non, dn, rfl, hd s, hE⟩

def sp_law_all_told (P : Program) (w : World) (K : PySem.W.Frag) (mg : Str → Option Value) (base : Heap) : Sp := fun vs H Q _ => ∃ (pd : Addr) (fs : List Addr) (dn : String), vs = [.ref pd, .str (kinS dn)] ∧ SqL K H pd (fs.map V.ref) ∧ fs.length < 1000 ∧ (∀ f ∈ fs, Refuses P w K mg base 6 H f dn) ∧ PyData.strOk (kinS dn) = true ∧ NoT H ∧
  ∀ H', Same H H' → NoT H' → Q (.bl true) H'
theorem d_law_all_told (A : All K mg) : Df P w K mg base CX0 "_law_all_told" 10 ["doors", "word"] (sp_law_all_told P w K mg base) := by
  obtain ⟨f, fd, F, hm, hb⟩ := A.t_law_all_told
  refine ⟨f, fd, F.ok sc_law_all_told (fun vs H Q E h => ?_) (fun cdv A' outer sh H vs Q E hr h => ?_), hm, F.kp, hb⟩
  · obtain ⟨pd, fs, dn, rfl, _⟩ := h; rfl
  · obtain ⟨pd, fs, dn, rfl, hS, hl, hR, hs, nt, q⟩ := h
    refine ⟨_, (pss_one (ps_ret (pe_cmpR (op_eqD hr.units) (pe_lc (own := [("door", 2)]) (g := gName 2) (by rfl) sc_law_all_told.nd (pi_list (pv 0)) (blkOk_by (own := [("door", 2)]) (N := ["doors", "word", "door"]) (sc := defScope s_law_all_told) (by decide +kernel)) (fun _ _ _ _ _ => (pg_name (i := 2) sc_law_all_told.nd rfl (Or.inl rfl))) (fun _ _ _ _ _ => (pts_one (pt_cmpR (op_neD hr.units) (r := rNeD K) (pe_callD (d_law_try (P := P) (w := w) (K := K) (mg := mg) (base := base) A 6) hr (by decide) (by rfl) pass0 (pa_cons (pv 2) pa_nil)) (pv 1) (nomark _)))) (fun _ _ _ _ _ => (pv 2))) (pe_lst pa_nil) (nomark _)))), ?_⟩
    refine ⟨_, rfl, pd, rfl, ⟨_, hS⟩, fun D hD => ?_⟩
    refine lc_list (xs := fs.map V.ref) (fun i H' => Same H H' ∧ NoT H' ∧ H' D = some (.lst [])) ⟨same_new hD, nt.lst, upd_same⟩ (fun i H' _ p => Same.l p.1 hS) (fun i x H' hx p => ?_) (fun H' p => ?_)
    · obtain ⟨s1, n1, z1⟩ := p
      obtain ⟨g, hg, rfl⟩ : ∃ g, g ∈ fs ∧ x = .ref g := by
        obtain ⟨g, h1, h2⟩ := List.mem_map.mp (List.mem_of_getElem? hx)
        exact ⟨g, h1, h2.symm⟩
      refine ⟨rfl, ?_⟩
      refine ⟨_, rfl, g, _, rfl, hR g hg H' (Same.ext s1) n1, fun Q' E' _ h2 D' H3 hD' s3 n3 => h2 D' dn H3 hD' n3 fun H2 s2 n2 => ?_⟩
      refine ⟨_, rfl, .str _, .str _, .str _, .str _, sh_str hs, sh_str hs, ?_⟩
      rw [ev_str]
      exact ⟨_, rfl, iteF ⟨(s1.trans s3).trans s2, n2, s2 _ _ (s3 _ _ z1)⟩⟩
    · obtain ⟨s1, n1, z1⟩ := p
      refine ⟨Nat.zero_le _, fun e he => ?_⟩
      refine ⟨.list [], .list [], .lst (SqL.of (same_new he _ _ z1)) .nil, .lst (SqL.of upd_same) .nil, (by decide), (by decide), ?_⟩
      exact q _ (s1.trans (same_new he)) n1.lst

def sp_law_numbers_right (K : PySem.W.Frag) (TT : List (Addr × Str)) : Sp := fun vs H Q _ => ∃ (a a2 : Addr) (d t b s d2 t2 b2 s2 : Int), vs = [.ref a, .ref a2] ∧ Ld K H a d t b s ∧ LandOk d t b s ∧ Ld K H a2 d2 t2 b2 s2 ∧ LandOk d2 t2 b2 s2 ∧ NoT H ∧ LamX.Tabs TT H ∧ ∀ H', Same (flatH H) H' → NoT H' → LamX.Tabs TT H' → Q (.bl true) H'
theorem flat_new2 {B H : Hp} {o : Addr} {zs : List V} (fb : FlatB B) (s : Same B H) (ho : H o = none) : FlatB (upd B o (.lst zs)) ∧ Same B (upd B o (.lst zs)) ∧ Same (upd B o (.lst zs)) (upd H o (.lst zs)) := by
  refine ⟨fun b x h => ?_, same_new (s.free ho), fun b x h => ?_⟩
  · by_cases cb : b = o
    · subst cb; rw [upd_same] at h; cases h; rfl
    · rw [upd_ne cb] at h; exact fb b x h
  · by_cases cb : b = o
    · subst cb; rw [upd_same] at h ⊢; exact h
    · rw [upd_ne cb] at h ⊢; exact s b x h
theorem d_law_numbers_right (A : All K mg) {c Pt cl Pl : Addr} {TT : List (Addr × Str)} (TC : Tc K mg "_law_numbers_right" s_law_numbers_right ["land", "other"] c) (TB : LamX.TabB base mg c Pt) (hmT : (Pt, (("_law_numbers_right" : Str) ++ ".<locals>.") ++ "<lambda>") ∈ TT) (huT : ∀ p ∈ TT, p.1 = Pt → p.2 = (("_law_numbers_right" : Str) ++ ".<locals>.") ++ "<lambda>")
    (TCl : Tc K mg "_law_by_land" s_law_by_land ["land", "other"] cl) (TBl : LamX.TabB base mg cl Pl) (hml : (Pl, (("_law_by_land" : Str) ++ ".<locals>.") ++ "<lambda>") ∈ TT) (hul : ∀ p ∈ TT, p.1 = Pl → p.2 = (("_law_by_land" : Str) ++ ".<locals>.") ++ "<lambda>") :
    Df P w K mg base CX0 "_law_numbers_right" 11 ["land", "other"] (sp_law_numbers_right K TT) := by
  obtain ⟨f, fd, F, hm, hb⟩ := TC
  refine ⟨f, fd, FunC.ok F sc_law_numbers_right (fun vs H Q E h => ?_) (fun A' outer sh H vs Q E hr h => ?_), hm, F.kp, hb⟩
  · obtain ⟨a, a2, d, t, b, s, d2, t2, b2, s2, rfl, _⟩ := h; rfl
  · obtain ⟨a, a2, d, t, b, s, d2, t2, b2, s2, rfl, hl, hk, hl2, hk2, nt, T0, q⟩ := h
    have p30 : (10 : Int) ^ (30 : Int).toNat = 1000000000000000000000000000000 := by decide
    have z1 : isFrom (.int 0) 0 (d - 1) = true := isFrom_yes (by omega) (by have := hk.1.1; omega)
    have z2 : isFrom (.int 0) 0 (d2 - 1) = true := isFrom_yes (by omega) (by have := hk2.1.1; omega)
    have nm : ∀ {G : Hp}, Ld K G a d t b s → NameO K G (.ref a) (.int 0) (.int 7) (.int 0) none := fun h => .ok h hk (.int 0) z1 (by decide) (.int 0) (by decide)
    have pl : ∀ {G : Hp}, Ld K G a d t b s → Ld K G a2 d2 t2 b2 s2 → PlacedO K G (.ref a) (.int 0) (.ref a2) (.int 0) none := fun h h' => .ok h hk (.int 0) z1 h' hk2 (.int 0) z2
    refine ⟨_, (pss_cons (ps_for PassesOwn.never (by rfl) (pi_list (pe_lst (pa_cons pe_non (pa_cons pe_bl (pa_cons (pe_op op_add (pe_op op_pow pe_int pe_int) pe_int) (pa_cons (pe_op op_sub (pe_un un_neg (pe_op op_pow pe_int pe_int)) pe_int) (pa_cons pe_str pa_nil))))))) (pg_name (i := 2) sc_law_numbers_right.nd rfl (Or.inr rfl))
 (pss_cons (ps_if (PW.pt (pw_or (pt_not (pt_val (pe_callD (d_law_all_told (P := P) (w := w) (base := base) A) hr (by decide) (by rfl) pass0 (pa_cons (pe_callD (d_law_by_land (P := P) (w := w) (base := base) A TCl TBl hml hul) hr (by decide) (by rfl) pass0 (pa_cons (pv 0) (pa_cons (pv 2) pa_nil))) (pa_cons pe_str pa_nil))))) (pw_or1 (pt_cmpR (op_neD hr.units) (pe_tryLam (k := 5) (d_law_try A 6) hr (by decide) (by rfl) (fun _ _ e => cells_new e) TB rfl hmT huT (by rfl) (LamX.lamS_by (sc := defScope s_law_numbers_right) (by decide +kernel)) (fun _ _ _ _ _ => rfl) (fun cl f2 c2 A2 o2 s2 H2 E2 hr2 => (pe_callD (rd_date A) hr2 (by decide) (by rfl) (L2N.passes_call (L2N.takes_of rfl rfl rfl rfl) (fun _ _ _ _ h => h)) (pa_cons (pv 0) (pa_cons (pv 2) pa_nil))))) pe_str (nomark _)))))
 (pss_one (ps_ret pe_bl))
 pss_nil)
 (pss_cons (ps_if (pt_cmpR (op_neD hr.units) (pe_tryLam (k := 5) (d_law_try A 6) hr (by decide) (by rfl) (fun _ _ e => cells_new e) TB rfl hmT huT (by rfl) (LamX.lamS_by (sc := defScope s_law_numbers_right) (by decide +kernel)) (fun _ _ _ _ _ => rfl) (fun cl f2 c2 A2 o2 s2 H2 E2 hr2 => (pe_callD (rd_next_year A) hr2 (by decide) (by rfl) (L2N.passes_call (L2N.takes_of rfl rfl rfl rfl) (fun _ _ _ _ h => h)) (pa_cons (pv 0) (pa_cons pe_int (pa_cons pe_int (pa_cons pe_int (pa_cons (pv 2) pa_nil)))))))) pe_str (nomark _))
 (pss_one (ps_ret pe_bl))
 pss_nil)
 (pss_cons (ps_if (pt_cmpR (op_neD hr.units) (pe_tryLam (k := 5) (d_law_try A 6) hr (by decide) (by rfl) (fun _ _ e => cells_new e) TB rfl hmT huT (by rfl) (LamX.lamS_by (sc := defScope s_law_numbers_right) (by decide +kernel)) (fun _ _ _ _ _ => rfl) (fun cl f2 c2 A2 o2 s2 H2 E2 hr2 => (pe_callD (rd_how_many A) hr2 (by decide) (by rfl) (L2N.passes_call (L2N.takes_of rfl rfl rfl rfl) (fun _ _ _ _ h => h)) (pa_cons (pv 0) (pa_cons pe_int (pa_cons pe_int (pa_cons pe_int (pa_cons pe_int (pa_cons (pv 2) pa_nil))))))))) pe_str (nomark _))
 (pss_one (ps_ret pe_bl))
 pss_nil)
 (pss_cons (ps_if (pt_cmpR (op_neD hr.units) (pe_tryLam (k := 5) (d_law_try A 6) hr (by decide) (by rfl) (fun _ _ e => cells_new e) TB rfl hmT huT (by rfl) (LamX.lamS_by (sc := defScope s_law_numbers_right) (by decide +kernel)) (fun _ _ _ _ _ => rfl) (fun cl f2 c2 A2 o2 s2 H2 E2 hr2 => (pe_callD (rd_days A) hr2 (by decide) (by rfl) (L2N.passes_call (L2N.takes_of rfl rfl rfl rfl) (fun _ _ _ _ h => h)) (pa_cons (pv 0) (pa_cons pe_int (pa_cons (pv 1) (pa_cons pe_int (pa_cons (pv 2) (pa_cons pe_non pa_nil))))))))) pe_str (nomark _))
 (pss_one (ps_ret pe_bl))
 pss_nil)
 (pss_one (ps_if (pt_cmpR (op_neD hr.units) (pe_tryLam (k := 5) (d_law_try A 6) hr (by decide) (by rfl) (fun _ _ e => cells_new e) TB rfl hmT huT (by rfl) (LamX.lamS_by (sc := defScope s_law_numbers_right) (by decide +kernel)) (fun _ _ _ _ _ => rfl) (fun cl f2 c2 A2 o2 s2 H2 E2 hr2 => (pe_callD (rd_days A) hr2 (by decide) (by rfl) (L2N.passes_call (L2N.takes_of rfl rfl rfl rfl) (fun _ _ _ _ h => h)) (pa_cons (pv 0) (pa_cons pe_int (pa_cons (pv 1) (pa_cons pe_int (pa_cons pe_int (pa_cons (pv 2) pa_nil))))))))) pe_str (nomark _))
 (pss_one (ps_ret pe_bl))
 pss_nil)))))))
 (pss_cons (ps_if (pt_cmpR (op_neD hr.units) (pe_tryLam (k := 5) (d_law_try A 6) hr (by decide) (by rfl) (fun _ _ e => cells_new e) TB rfl hmT huT (by rfl) (LamX.lamS_by (sc := defScope s_law_numbers_right) (by decide +kernel)) (fun _ _ _ _ _ => rfl) (fun cl f2 c2 A2 o2 s2 H2 E2 hr2 => (pe_callD (rd_how_many A) hr2 (by decide) (by rfl) (L2N.passes_call (L2N.takes_of rfl rfl rfl rfl) (fun _ _ _ _ h => h)) (pa_cons (pv 0) (pa_cons pe_int (pa_cons pe_int (pa_cons pe_int (pa_cons pe_int (pa_cons pe_int pa_nil))))))))) pe_str (nomark _))
 (pss_one (ps_ret pe_bl))
 pss_nil)
 (pss_one (ps_ret (pe_cmpR (op_eqD hr.units) (pe_tryLam (k := 5) (d_law_try A 6) hr (by decide) (by rfl) (fun _ _ e => cells_new e) TB rfl hmT huT (by rfl) (LamX.lamS_by (sc := defScope s_law_numbers_right) (by decide +kernel)) (fun _ _ _ _ _ => rfl) (fun cl f2 c2 A2 o2 s2 H2 E2 hr2 => (pe_callD (rd_days A) hr2 (by decide) (by rfl) (L2N.passes_call (L2N.takes_of rfl rfl rfl rfl) (fun _ _ _ _ h => h)) (pa_cons (pv 0) (pa_cons pe_int (pa_cons (pv 1) (pa_cons pe_int (pa_cons pe_int (pa_cons pe_int pa_nil))))))))) pe_str (nomark _)))))), ?_⟩
    have hlB := flat_t hl
    have hl2B := flat_t hl2
    have sB := flat_same H
    have fb := flat_b H
    generalize flatH H = B at hlB hl2B sB fb q
    -- a refusal told
    refine sq_str (fun σ H5 => (∃ y2, σ = [some (.ref a), some (.ref a2), y2]) ∧ Same B H5 ∧ NoT H5 ∧ LamX.Tabs TT H5) (fun N0 kN => ?_) ?_
    · refine ⟨_, _, rfl, rfl, ⟨by decide, by decide, by decide⟩, _, _, rfl, rfl, _, _, rfl, rfl, ⟨by decide, by decide, by decide⟩, _, rfl, _, _, rfl, rfl, by show 5 ≤ sizeLine; decide, fun o1 ho1 => ?_⟩
      rw [p30]
      obtain ⟨fb1, sB1, sB2⟩ := flat_new2 (zs := [.non, .bl true, .int (1000000000000000000000000000000 + 1), .int (-1000000000000000000000000000000 - 1), .str "1"]) fb sB ho1
      have n5 : NoT (upd H o1 (.lst [.non, .bl true, .int (1000000000000000000000000000000 + 1), .int (-1000000000000000000000000000000 - 1), .str "1"])) := nt.lst
      have T5 := tabs_same T0 (same_new (o := .lst [.non, .bl true, .int (1000000000000000000000000000000 + 1), .int (-1000000000000000000000000000000 - 1), .str "1"]) ho1)
      have hB1 : upd B o1 (.lst [.non, .bl true, .int (1000000000000000000000000000000 + 1), .int (-1000000000000000000000000000000 - 1), .str "1"]) o1 = some (.lst [.non, .bl true, .int (1000000000000000000000000000000 + 1), .int (-1000000000000000000000000000000 - 1), .str "1"]) := upd_same
      generalize upd B o1 (.lst [.non, .bl true, .int (1000000000000000000000000000000 + 1), .int (-1000000000000000000000000000000 - 1), .str "1"]) = B1 at fb1 sB1 sB2 hB1
      have hlB1 := Same.t sB1 hlB
      have hl2B1 := Same.t sB1 hl2B
      refine ⟨o1, rfl, ⟨_, SqL.of (sB2 _ _ hB1)⟩, for_list (xs := [.non, .bl true, .int (1000000000000000000000000000000 + 1), .int (-1000000000000000000000000000000 - 1), .str "1"]) (fun i σ H' => (∃ y2, σ = [some (.ref a), some (.ref a2), y2]) ∧ Same B1 H' ∧ NoT H' ∧ LamX.Tabs TT H') ⟨⟨_, rfl⟩, sB2, n5, T5⟩ (fun i σ H' _ pv => SqL.of (pv.2.1 _ _ hB1)) (fun i x σ H' hx hW => ?_) (fun σ H' hW => kN _ _ ⟨hW.1, sB1.trans hW.2.1, hW.2.2⟩)⟩
      obtain ⟨⟨y2, rfl⟩, sH, ntH, TH⟩ := hW
      obtain ⟨n, kx, ix, iy⟩ : ∃ n, (∀ H, Kn K H x n) ∧ isFrom x (-1000000000000000000000000000000) 1000000000000000000000000000000 = false ∧ isFrom x 5 1000000000000000000000000000000 = false := by
        match i, hx with
        | 0, hx => cases hx; exact ⟨_, fun _ => .non, by decide, by decide⟩
        | 1, hx => cases hx; exact ⟨_, fun _ => .bl _, by decide, by decide⟩
        | 2, hx => cases hx; exact ⟨_, fun _ => .int _, by decide, by decide⟩
        | 3, hx => cases hx; exact ⟨_, fun _ => .int _, by decide, by decide⟩
        | 4, hx => cases hx; exact ⟨_, fun _ => .str _, by decide, by decide⟩
        | _ + 5, hx => cases hx
      show tSeq _ _ _ _ _
      refine nrm [some (.ref a), some (.ref a2), some x] rfl ?_
      -- years and days
      refine sq_if (fun H2 => Same B1 H2 ∧ NoT H2 ∧ LamX.Tabs TT H2) (fun Q' k => ?_) ?_
      · refine ⟨_, rfl, _, rfl, .ref a, x, "NoYear", rfl, .year (Same.t sH hlB1) hk (kx _) ix, ntH, TH, fun pd fs H6 e6 n6 T6 _ hp6 hf6 hr6 => ?_⟩
        refine ⟨pd, fs, "NoYear", rfl, SqL.of hp6, by omega, hr6, strOk_of _, n6, fun H7 s7 n7 => ⟨_, rfl, iteF ?_⟩⟩
        have sH7 := (flat_ext fb1 sH e6).trans s7
        refine ⟨n7, tabs_same T6 s7, fun Hb eN Tb nb E' Q'' hE hQ => ?_⟩
        have sb := flat_ext fb1 sH7 eN
        refine ⟨_, rfl, _, rfl, .ref a, x, rfl, .inr ⟨a, d, t, b, s, n, rfl, Same.t sb hlB1, hk, kx _, ix, fun D hD => hE D "NoDay" Hb hD nb fun H2 kz n2 => ?_⟩⟩
        refine ⟨.str _, .str _, .str _, .str _, sh_str (strOk_of _), sh_str (strOk_of _), ?_⟩
        rw [show PyData.eqv (.str (kinS "NoDay")) (.str (Str.ofString "NoDay+")) = true from ev_str _]
        exact ⟨_, rfl, k _ ⟨flat_kept fb1 sb kz, n2, tabs_kept Tb kz (Same.refl _)⟩⟩
      rintro H2 ⟨s2', n2', T2'⟩
      refine sq_if (fun H2 => Same B1 H2 ∧ NoT H2 ∧ LamX.Tabs TT H2) (fun Q' k => ?_) ?_
      · refine ⟨n2', T2', fun Hb eN Tb nb E' Q'' hE hQ => ?_⟩
        have sb := flat_ext fb1 s2' eN
        refine ⟨_, rfl, _, rfl, .ref a, .int 0, .int 7, .int 0, x, rfl, .inr ⟨nm (Same.t sb hlB1), n, kx _, ix, fun D hD => hE D "NoYear" Hb hD nb fun H2 kz n2 => ?_⟩⟩
        refine ⟨.str _, .str _, .str _, .str _, sh_str (strOk_of _), sh_str (strOk_of _), ?_⟩
        rw [show PyData.eqv (.str (kinS "NoYear")) (.str (Str.ofString "NoYear+")) = true from ev_str _]
        exact ⟨_, rfl, k _ ⟨flat_kept fb1 sb kz, n2, tabs_kept Tb kz (Same.refl _)⟩⟩
      rintro H2 ⟨s2', n2', T2'⟩
      refine sq_if (fun H2 => Same B1 H2 ∧ NoT H2 ∧ LamX.Tabs TT H2) (fun Q' k => ?_) ?_
      · refine ⟨n2', T2', fun Hb eN Tb nb E' Q'' hE hQ => ?_⟩
        have sb := flat_ext fb1 s2' eN
        refine ⟨_, rfl, _, rfl, .ref a, .int 0, .int 7, .int 0, .int 5, x, rfl, .inr ⟨nm (Same.t sb hlB1), .inr ⟨5, n, rfl, ⟨by decide, by decide⟩, kx _, iy, fun D hD => hE D "NoYear" Hb hD nb fun H2 kz n2 => ?_⟩⟩⟩
        refine ⟨.str _, .str _, .str _, .str _, sh_str (strOk_of _), sh_str (strOk_of _), ?_⟩
        rw [show PyData.eqv (.str (kinS "NoYear")) (.str (Str.ofString "NoYear+")) = true from ev_str _]
        exact ⟨_, rfl, k _ ⟨flat_kept fb1 sb kz, n2, tabs_kept Tb kz (Same.refl _)⟩⟩
      rintro H2 ⟨s2', n2', T2'⟩
      refine sq_if (fun H2 => Same B1 H2 ∧ NoT H2 ∧ LamX.Tabs TT H2) (fun Q' k => ?_) ?_
      · refine ⟨n2', T2', fun Hb eN Tb nb E' Q'' hE hQ => ?_⟩
        have sb := flat_ext fb1 s2' eN
        refine ⟨_, rfl, _, rfl, _, rfl, .ref a, .int 0, .ref a2, .int 0, x, .non, rfl, .inr ⟨pl (Same.t sb hlB1) (Same.t sb hl2B1), .inl ⟨n, kx _, ix, fun D hD => hE D "NoDay" Hb hD nb fun H2 kz n2 => ?_⟩⟩⟩
        refine ⟨.str _, .str _, .str _, .str _, sh_str (strOk_of _), sh_str (strOk_of _), ?_⟩
        rw [show PyData.eqv (.str (kinS "NoDay")) (.str (Str.ofString "NoDay+")) = true from ev_str _]
        exact ⟨_, rfl, k _ ⟨flat_kept fb1 sb kz, n2, tabs_kept Tb kz (Same.refl _)⟩⟩
      rintro H2 ⟨s2', n2', T2'⟩
      refine sq_ifL (fun H2 => Same B1 H2 ∧ NoT H2 ∧ LamX.Tabs TT H2) (fun Q' k => ?_) ?_
      · refine ⟨n2', T2', fun Hb eN Tb nb E' Q'' hE hQ => ?_⟩
        have sb := flat_ext fb1 s2' eN
        refine ⟨_, rfl, _, rfl, _, rfl, .ref a, .int 0, .ref a2, .int 0, .int 5, x, rfl, .inr ⟨pl (Same.t sb hlB1) (Same.t sb hl2B1), .inr ⟨5, n, rfl, ⟨by decide, by decide⟩, kx _, iy, fun D hD => hE D "NoDay" Hb hD nb fun H2 kz n2 => ?_⟩⟩⟩
        refine ⟨.str _, .str _, .str _, .str _, sh_str (strOk_of _), sh_str (strOk_of _), ?_⟩
        rw [show PyData.eqv (.str (kinS "NoDay")) (.str (Str.ofString "NoDay+")) = true from ev_str _]
        exact ⟨_, rfl, k _ ⟨flat_kept fb1 sb kz, n2, tabs_kept Tb kz (Same.refl _)⟩⟩
      rintro H2 ⟨s2', n2', T2'⟩
      exact ⟨⟨_, rfl⟩, s2', n2', T2'⟩
    rintro _ H5 ⟨⟨y2, rfl⟩, s5, n5, T5⟩
    refine sq_if (fun H2 => Same B H2 ∧ NoT H2 ∧ LamX.Tabs TT H2) (fun Q' k => ?_) ?_
    · refine ⟨n5, T5, fun Hb eN Tb nb E' Q'' hE hQ => ?_⟩
      have sb := flat_ext fb s5 eN
      refine ⟨_, rfl, .ref a, .int 0, .int 7, .int 0, .int 5, .int 4, rfl, .inr ⟨nm (Same.t sb hlB), .inr ⟨5, _, rfl, ⟨by decide, by decide⟩, .int 4, by decide, fun D hD => hE D "NoYear" Hb hD nb fun H2 kz n2 => ?_⟩⟩⟩
      refine ⟨.str _, .str _, .str _, .str _, sh_str (strOk_of _), sh_str (strOk_of _), ?_⟩
      rw [show PyData.eqv (.str (kinS "NoYear")) (.str (Str.ofString "NoYear+")) = true from ev_str _]
      exact ⟨_, rfl, k _ ⟨flat_kept fb sb kz, n2, tabs_kept Tb kz (Same.refl _)⟩⟩
    rintro H6 ⟨s6, n6, T6⟩
    refine ⟨n6, T6, fun Hb eN Tb nb E' Q'' hE hQ => ?_⟩
    have sb := flat_ext fb s6 eN
    refine ⟨_, rfl, _, rfl, .ref a, .int 0, .ref a2, .int 0, .int 5, .int 4, rfl, .inr ⟨pl (Same.t sb hlB) (Same.t sb hl2B), .inr ⟨5, _, rfl, ⟨by decide, by decide⟩, .int 4, by decide, fun D hD => hE D "NoDay" Hb hD nb fun H2 kz n2 => ?_⟩⟩⟩
    refine ⟨.str _, .str _, .str _, .str _, sh_str (strOk_of _), sh_str (strOk_of _), ?_⟩
    rw [show PyData.eqv (.str (kinS "NoDay")) (.str (Str.ofString "NoDay+")) = true from ev_str _]
    exact q _ (flat_kept fb sb kz) n2 (tabs_kept Tb kz (Same.refl _))

theorem tab_uniq : ∀ {l : List (Addr × Str)}, (l.map Prod.fst).Nodup → ∀ {a : Addr} {q : Str}, (a, q) ∈ l → ∀ p ∈ l, p.1 = a → p.2 = q
  | [], _, _, _, h => absurd h (by simp)
  | x :: l, nd, a, q, h => fun p hp e => by
    have nd' := List.nodup_cons.mp (show (x.1 :: l.map Prod.fst).Nodup from nd)
    rcases List.mem_cons.mp h with h | h <;> rcases List.mem_cons.mp hp with z | z
    · rw [z, ← h]
    · exact absurd (List.mem_map.mpr ⟨p, z, by rw [e, ← h]⟩) nd'.1
    · exact absurd (List.mem_map.mpr ⟨(a, q), h, by rw [← e, z]⟩) nd'.1
    · exact tab_uniq nd'.2 h p z e
/-- the land that is none -/
inductive OddC (K : PySem.W.Frag) (H : Hp) (dk : Addr) : V → Prop where
  | flat {x : V} {n : String} : (∀ H, Kn K H x n) → n ≠ "tuple" → OddC K H dk x
  | lst {q : Addr} {xs : List V} : SqL K H q xs → q ≠ dk → OddC K H dk (.ref q)
  | tup {q : Addr} {xs : List V} : SqT K H q xs → xs.length ≠ 4 → OddC K H dk (.ref q)
  | zero {q : Addr} {t b s : Int} : Ld K H q 0 t b s → OddC K H dk (.ref q)
  | much {q : Addr} {d t b s : Int} : Ld K H q d t b s → (1 ≤ d ∧ d ≤ 400) → (1 ≤ b ∧ b ≤ 60) → b ≤ t → OddC K H dk (.ref q)
theorem OddC.no {K : PySem.W.Frag} {H : Hp} {dk : Addr} {v : V} (h : OddC K H dk v) : NoLandV K H v := by
  cases h with
  | flat h hn => exact .inl ⟨_, h _, hn⟩
  | lst h _ => exact .inl ⟨_, .lst h, by decide⟩
  | tup h hn => exact .inr (.inl ⟨_, _, rfl, h, hn⟩)
  | zero h => exact .inr (.inr (.inl ⟨_, _, _, _, rfl, h⟩))
  | much h h1 h2 h3 => exact .inr (.inr (.inr ⟨_, _, _, _, _, rfl, h, h1, h2, h3⟩))
theorem OddC.gr {K : PySem.W.Frag} {H H' : Hp} {dk : Addr} {v : V} (g : Gr dk H H') (h : OddC K H dk v) : OddC K H' dk v := by
  cases h with
  | flat h hn => exact .flat h hn
  | lst h n => exact .lst (g.l n h) n
  | tup h hn => exact .tup (g.t h) hn
  | zero h => exact .zero (g.t h)
  | much h h1 h2 h3 => exact .much (g.t h) h1 h2 h3
theorem ext_flat {H H' : Hp} (e : LamX.ExtN H H') : Same (flatH H) H' := fun b o h => e b o (flat_in h).1 fun ps z => by
  have := (flat_in h).2
  rw [z] at this
  cases this
theorem nx_of {N : L2.St → Hp → Prop} {D : Ends} {σ : L2.St} {H : Hp} (h : N σ H) : ({ D with nx := N } : Ends).nx σ H := h
theorem flat_mid {B H H' : Hp} (fb : FlatB B) (s : Same B H) (s' : Same (flatH H) H') : Same B H' := fun b o h => s' b o (flat_eq (s b o h) (fb b o h))
theorem noland_same {K : PySem.W.Frag} {B H : Hp} {x : V} (s : Same B H) (h : NoLandV K B x) : NoLandV K H x := noland_flat (fun b o e => s b o (flat_in e).1) h
theorem lent_back {X : Cx} {σ : L2.St} {G Hc H' : Hp} (L : Lent X σ G Hc) (s : Same Hc H') : Same G (ovr (cellD X.env.cells) (fun _ => none) H') := fun b o h => by
  obtain ⟨e, d⟩ := L.put.sub h
  rw [ovr_out d]
  exact s b o e
theorem ok_law (A : All K mg) {f cl cw ct cn c Pl Pw Pt Pn P0 : Addr} {fd : FuncData} (Z : Tc K mg "_law_by_land" s_law_by_land ["land", "other"] cl ∧ Tc K mg "_law_by_week" s_law_by_week ["land", "place", "week", "name"] cw ∧ Tc K mg "_law_by_two" s_law_by_two ["one", "place_one", "other", "place_other"] ct ∧ Tc K mg "_law_numbers_right" s_law_numbers_right ["land", "other"] cn ∧
    LamX.TabB base mg cl Pl ∧ LamX.TabB base mg cw Pw ∧ LamX.TabB base mg ct Pt ∧ LamX.TabB base mg cn Pn ∧ LamX.TabB base mg c P0) (F : FunC K "law" "law" s_law f fd c) (nd : [Pl, Pw, Pt, Pn, P0].Nodup) : FnOk P w K mg base CX0 12 f fd ["script"] (sp_entry K [Pl, Pw, Pt, Pn, P0]) := by
  obtain ⟨C, hC⟩ := A.r_Realm
  obtain ⟨TCl, TCw, TCt, TCn, TBl, TBw, TBt, TBn, TB⟩ := Z
  refine FunC.ok F sc_law (fun vs H Q E h => ?_) (fun A' outer sh H vs Q E hr h => ?_)
  · obtain ⟨a, ns, rfl, _⟩ := h; rfl
  · obtain ⟨sc, ns, rfl, hS, hlen, nt, hT, q⟩ := h
    obtain ⟨TT, eTT⟩ : ∃ TT, TT = [(Pl, (("_law_by_land" : Str) ++ ".<locals>.") ++ "<lambda>"), (Pw, (("_law_by_week" : Str) ++ ".<locals>.") ++ "<lambda>"), (Pt, (("_law_by_two" : Str) ++ ".<locals>.") ++ "<lambda>"), (Pn, (("_law_numbers_right" : Str) ++ ".<locals>.") ++ "<lambda>"), (P0, (("law" : Str) ++ ".<locals>.") ++ "<lambda>")] := ⟨_, rfl⟩
    have ndT : (TT.map Prod.fst).Nodup := by rw [eTT]; exact nd
    have hml : (Pl, (("_law_by_land" : Str) ++ ".<locals>.") ++ "<lambda>") ∈ TT := by rw [eTT]; simp
    have hmw : (Pw, (("_law_by_week" : Str) ++ ".<locals>.") ++ "<lambda>") ∈ TT := by rw [eTT]; simp
    have hmt : (Pt, (("_law_by_two" : Str) ++ ".<locals>.") ++ "<lambda>") ∈ TT := by rw [eTT]; simp
    have hmn : (Pn, (("_law_numbers_right" : Str) ++ ".<locals>.") ++ "<lambda>") ∈ TT := by rw [eTT]; simp
    have hmT : (P0, (("law" : Str) ++ ".<locals>.") ++ "<lambda>") ∈ TT := by rw [eTT]; simp
    have hul := tab_uniq ndT hml
    have huw := tab_uniq ndT hmw
    have hut := tab_uniq ndT hmt
    have hun := tab_uniq ndT hmn
    have huT := tab_uniq ndT hmT
    have T0 : LamX.Tabs TT H := fun p hp => LamX.TabS.nil (hT p.1 (by
      rw [eTT] at hp
      simp only [List.mem_cons, List.not_mem_nil, or_false] at hp
      rcases hp with rfl | rfl | rfl | rfl | rfl <;> simp))
    clear eTT
    refine ⟨_, (pss_cons (ps_for PassesOwn.never (by rfl) (pi_list (pe_slice sl_list (pe_op op_catS (pe_lst (pa_cons pe_int pa_nil)) (pv 0)) po_none (po_some pe_int))) (pg_name (i := 1) sc_law.nd rfl (Or.inl rfl))
 (pss_cons (ps_set (i := 2) sc_law.nd rfl (Or.inl rfl) (pe_callD (d_law_deck A) hr (by decide) (by rfl) pass0 (pa_cons (pv 1) (pa_cons pe_int pa_nil))))
 (pss_cons (ps_asg (pe_tup (pa_cons (pe_callD (d_law_any A) hr (by decide) (by rfl) pass0 (pa_cons (pv 2) pa_nil)) (pa_cons (pe_callD (d_law_any A) hr (by decide) (by rfl) pass0 (pa_cons (pv 2) pa_nil)) pa_nil))) (pg_tup (by rfl) (pgs_cons (pg_name (i := 6) sc_law.nd rfl (Or.inr rfl)) (pgs_cons (pg_name (i := 3) sc_law.nd rfl (Or.inl rfl)) pgs_nil))))
 (pss_cons (ps_set (i := 7) sc_law.nd rfl (Or.inr rfl) (pe_callD (d_law_one A) hr (by decide) (by rfl) pass0 (pa_cons (pv 2) (pa_cons (pe_lst (pa_cons pe_non (pa_cons pe_bl (pa_cons pe_str (pa_cons (pe_tup pa_nil) (pa_cons (pe_lst pa_nil) (pa_cons pe_int (pa_cons (pe_callTy call_list_of (by rfl) A.b_list (by decide +kernel) (pa_cons (pv 6) pa_nil)) (pa_cons (pe_slice sl_tup (pv 6) po_none (po_some pe_int)) (pa_cons (pe_tup (pa_cons pe_int (pa_cons pe_int (pa_cons pe_int (pa_cons pe_int pa_nil))))) (pa_cons (pe_tup (pa_cons pe_int (pa_cons pe_int (pa_cons pe_int (pa_cons pe_int pa_nil))))) pa_nil))))))))))) pa_nil))))
 (pss_cons (ps_set (i := 4) sc_law.nd rfl (Or.inl rfl) (pe_op op_catS (pe_op op_catS (pe_callD (d_law_by_land (P := P) (w := w) (base := base) A TCl TBl hml hul) hr (by decide) (by rfl) pass0 (pa_cons (pv 7) (pa_cons pe_non pa_nil))) (pe_callD (d_law_by_week (P := P) (w := w) (base := base) A TCw TBw hmw huw) hr (by decide) (by rfl) pass0 (pa_cons (pv 7) (pa_cons pe_non (pa_cons pe_non (pa_cons pe_non pa_nil)))))) (pe_callD (d_law_by_two (P := P) (w := w) (base := base) A TCt TBt hmt hut) hr (by decide) (by rfl) pass0 (pa_cons (pv 7) (pa_cons pe_non (pa_cons pe_non (pa_cons pe_non pa_nil)))))))
 (pss_cons (ps_expr (pe_bm PySem.F.plainAttrs_list PySem.F.slot_list_append PySem.F.type_list_append mt_append (pv 4) (pa_cons (pe_lam TB rfl hmT huT (by rfl) (LamX.lamS_by (sc := defScope s_law) (by decide +kernel))) pa_nil)))
 (pss_cons (ps_expr (pe_bm PySem.F.plainAttrs_list PySem.F.slot_list_append PySem.F.type_list_append mt_append (pv 4) (pa_cons (pe_lam TB rfl hmT huT (by rfl) (LamX.lamS_by (sc := defScope s_law) (by decide +kernel))) pa_nil)))
 (pss_cons (ps_expr (pe_bm PySem.F.plainAttrs_list PySem.F.slot_list_append PySem.F.type_list_append mt_append (pv 4) (pa_cons (pe_lam TB rfl hmT huT (by rfl) (LamX.lamS_by (sc := defScope s_law) (by decide +kernel))) pa_nil)))
 (pss_cons (ps_expr (pe_bm PySem.F.plainAttrs_list PySem.F.slot_list_append PySem.F.type_list_append mt_append (pv 4) (pa_cons (pe_lam TB rfl hmT huT (by rfl) (LamX.lamS_by (sc := defScope s_law) (by decide +kernel))) pa_nil)))
 (pss_cons (ps_if (PW.pt (pw_or (pt_not (pt_val (pe_callLend (d_law_all_told (P := P) (w := w) (base := base) A) hr (by decide) (by rfl) (fun _ _ e => cells_new e) (pa_cons (pv 4) (pa_cons pe_str pa_nil))))) (pw_or1 (pt_not (pt_val (pe_callD (d_law_all_told (P := P) (w := w) (base := base) A) hr (by decide) (by rfl) pass0 (pa_cons (pe_callD (d_law_by_two (P := P) (w := w) (base := base) A TCt TBt hmt hut) hr (by decide) (by rfl) pass0 (pa_cons (pv 6) (pa_cons pe_int (pa_cons (pv 7) (pa_cons pe_non pa_nil))))) (pa_cons pe_str pa_nil))))))))
 (pss_one (ps_ret pe_bl))
 pss_nil)
 (pss_cons (ps_if (pt_not (pt_val (pe_callD (d_law_numbers_right (P := P) (w := w) (base := base) A TCn TBn hmn hun TCl TBl hml hul) hr (by decide) (by rfl) pass0 (pa_cons (pv 6) (pa_cons (pv 3) pa_nil)))))
 (pss_one (ps_ret pe_bl))
 pss_nil)
 (pss_cons (ps_for PassesOwn.never (by rfl) (pi_list (pe_lst (pa_cons pe_non (pa_cons pe_bl (pa_cons (pe_un un_neg pe_int) (pa_cons (pe_ix ix_tup (pv 6) pe_int (fun _ _ => rfl)) (pa_cons pe_str pa_nil))))))) (pg_name (i := 5) sc_law.nd rfl (Or.inl rfl))
 (pss_one (ps_if (pt_not (pt_val (pe_callD (d_law_all_told (P := P) (w := w) (base := base) A) hr (by decide) (by rfl) pass0 (pa_cons (pe_op op_catS (pe_callD (d_law_by_week (P := P) (w := w) (base := base) A TCw TBw hmw huw) hr (by decide) (by rfl) pass0 (pa_cons (pv 6) (pa_cons (pv 5) (pa_cons pe_non (pa_cons pe_non pa_nil))))) (pe_callD (d_law_by_two (P := P) (w := w) (base := base) A TCt TBt hmt hut) hr (by decide) (by rfl) pass0 (pa_cons (pv 6) (pa_cons (pv 5) (pa_cons pe_non (pa_cons pe_non pa_nil)))))) (pa_cons pe_str pa_nil)))))
 (pss_one (ps_ret pe_bl))
 pss_nil)))
 (pss_cons (ps_if (pt_not (pt_val (pe_callD (d_law_all_told (P := P) (w := w) (base := base) A) hr (by decide) (by rfl) pass0 (pa_cons (pe_callD (d_law_by_two (P := P) (w := w) (base := base) A TCt TBt hmt hut) hr (by decide) (by rfl) pass0 (pa_cons (pv 6) (pa_cons pe_int (pa_cons (pv 3) (pa_cons (pe_ix ix_tup (pv 3) pe_int (fun _ _ => rfl)) pa_nil))))) (pa_cons pe_str pa_nil)))))
 (pss_one (ps_ret pe_bl))
 pss_nil)
 (pss_cons (ps_for PassesOwn.never (by rfl) (pi_list (pe_lst (pa_cons pe_non (pa_cons pe_bl (pa_cons pe_int (pa_cons pe_int (pa_cons pe_str pa_nil))))))) (pg_name (i := 5) sc_law.nd rfl (Or.inl rfl))
 (pss_one (ps_if (pt_not (pt_val (pe_callD (d_law_all_told (P := P) (w := w) (base := base) A) hr (by decide) (by rfl) pass0 (pa_cons (pe_callD (d_law_by_week (P := P) (w := w) (base := base) A TCw TBw hmw huw) hr (by decide) (by rfl) pass0 (pa_cons (pv 6) (pa_cons pe_int (pa_cons (pv 5) (pa_cons pe_non pa_nil))))) (pa_cons pe_str pa_nil)))))
 (pss_one (ps_ret pe_bl))
 pss_nil)))
 (pss_one (ps_for PassesOwn.never (by rfl) (pi_list (pe_lst (pa_cons pe_non (pa_cons pe_bl (pa_cons (pe_un un_neg pe_int) (pa_cons pe_int (pa_cons pe_str pa_nil))))))) (pg_name (i := 5) sc_law.nd rfl (Or.inl rfl))
 (pss_one (ps_if (pt_not (pt_val (pe_callD (d_law_all_told (P := P) (w := w) (base := base) A) hr (by decide) (by rfl) pass0 (pa_cons (pe_callD (d_law_by_week (P := P) (w := w) (base := base) A TCw TBw hmw huw) hr (by decide) (by rfl) pass0 (pa_cons (pv 6) (pa_cons pe_int (pa_cons pe_int (pa_cons (pv 5) pa_nil))))) (pa_cons pe_str pa_nil)))))
 (pss_one (ps_ret pe_bl))
 pss_nil))))))))))))))))))
 (pss_one (ps_ret pe_bl))), ?_⟩
    refine sq_st (fun _ H' => NoT H') (fun D0 k0 => ?_) (fun σ' H' nt' => q _)
    refine ⟨by show 1 ≤ sizeLine; decide, fun p1 h1 => ?_⟩
    refine ⟨_, rfl, p1, sc, _, _, rfl, rfl, SqL.of upd_same, Same.l (same_new h1) hS, by rw [List.length_map]; exact sz63 hlen, fun p2 h2 => ?_⟩
    refine ⟨8, rfl, p2, _, rfl, SqL.of upd_same, fun p3 h3 => ?_⟩
    have nt3 : NoT (upd (upd (upd H p1 (.lst [.int 0])) p2 (.lst ([.int 0] ++ ns.map V.int))) p3 (.lst (cutV ([.int 0] ++ ns.map V.int) none (some 8)))) := nt.lst.lst.lst
    have T3 := tabs_same T0 (((same_new (o := .lst [.int 0]) h1).trans (same_new (o := .lst ([.int 0] ++ ns.map V.int)) h2)).trans (same_new (o := .lst (cutV ([.int 0] ++ ns.map V.int) none (some 8))) h3))
    refine ⟨p3, rfl, ⟨_, SqL.of upd_same⟩, for_list (xs := cutV ([.int 0] ++ ns.map V.int) none (some 8)) (fun i σ H' => (∃ y1 y2 y3 y4 y5 y6 y7, σ = [some (.ref sc), y1, y2, y3, y4, y5, y6, y7]) ∧ H' p3 = some (.lst (cutV ([.int 0] ++ ns.map V.int) none (some 8))) ∧ NoT H' ∧ LamX.Tabs TT H')
      ⟨⟨none, none, none, none, none, none, none, rfl⟩, upd_same, nt3, T3⟩ (fun i σ H' _ p => SqL.of p.2.1) (fun i x σ H' hx hW => ?_) (fun σ H' hW => k0 _ _ hW.2.2.1)⟩
    obtain ⟨⟨y1, y2, y3, y4, y5, y6, y7, rfl⟩, hc, ntc, Tc⟩ := hW
    obtain ⟨ce, rfl⟩ := cells_int hx
    generalize hcl : cutV ([V.int 0] ++ ns.map V.int) none (some 8) = cells at hc hx ⊢
    show tSeq _ _ _ _ _
    refine sq_set (fun v H1 => ∃ dk, v = .ref dk ∧ H' dk = none ∧ Same H' H1 ∧ Dk 12 H1 dk) (fun Q' k => ?_) ?_
    · exact ⟨_, rfl, ce, 12, 12, rfl, ntc, by decide, by decide, fun dk H1 hdk s1 D1 => k _ _ ⟨dk, rfl, hdk, s1, D1⟩⟩
    rintro _ H1 ⟨dk, rfl, hdk, s1, D1⟩
    have hc1 := s1 _ _ hc
    have hne : p3 ≠ dk := ne_of_none hc hdk
    have T1 := tabs_same Tc s1
    -- land, other
    refine sq_asg (fun v H2 => ∃ T a a2 d t b s d2 t2 b2 s2, v = .ref T ∧ SqT K H2 T [.ref a, .ref a2] ∧ Ld K H2 a d t b s ∧ LandOk d t b s ∧ Ld K H2 a2 d2 t2 b2 s2 ∧ LandOk d2 t2 b2 s2 ∧ Dk 22 H2 dk ∧ Gr dk H1 H2) (fun Q' k => ⟨_, rfl, dk, 12, rfl, D1, by decide, fun a d t b s Ha hk hp ht Da ga => ⟨_, rfl, dk, 17, rfl, Da, by decide, fun a2 d2 t2 b2 s2 Hb hk2 hp2 ht2 Db gb => ⟨by show 2 ≤ sizeLine; decide, fun T hT' => k _ _ ⟨T, a, a2, d, t, b, s, d2, t2, b2, s2, rfl, SqT.of upd_same, Same.t (same_new hT') (gb.t (SqT.of ht)), hk, Same.t (same_new hT') (SqT.of ht2), hk2, Db.new hT' rfl, (ga.trans gb).new hT' rfl⟩⟩⟩⟩) ?_
    rintro _ H2 ⟨T, a, a2, d, t, b, s, d2, t2, b2, s2, rfl, hT2, hl, hk, hl2, hk2, D2, g2⟩
    refine ⟨T, _, rfl, hT2, rfl, _, _, rfl, _, _, rfl, rfl, ?_⟩
    have hc2 := g2.keep _ _ hne hc1
    have T2 := tabs_gr T1 g2
    refine nrm [some (.ref sc), some (.int ce), some (.ref dk), some (.ref a2), y4, y5, some (.ref a), y7] rfl ?_
    -- odd
    refine sq_set (fun v H3 => OddC K H3 dk v ∧ Dk 23 H3 dk ∧ Gr dk H2 H3) (fun Q' k => ?_) ?_
    · refine ⟨_, rfl, Nat.zero_le _, fun o1 ho1 => ⟨Nat.zero_le _, fun o2 ho2 => ?_⟩⟩
      have e1 := same_new (o := .tup []) ho1
      have D3 := D2.new (o := .tup []) ho1 rfl
      have g3 := (Gr.refl D2.lst.choose_spec).new (o := .tup []) ho1 rfl
      have z1 : SqT K (upd H2 o1 (.tup [])) o1 [] := SqT.of upd_same
      generalize upd H2 o1 (.tup []) = Ha at e1 D3 g3 z1 ho2 ⊢
      have e2 := same_new (o := .lst []) ho2
      have D4 := D3.new (o := .lst []) ho2 rfl
      have g4 := g3.new (o := .lst []) ho2 rfl
      have z2 : SqL K (upd Ha o2 (.lst [])) o2 [] := SqL.of upd_same
      have m2 : o2 ≠ dk := fun z => by
        obtain ⟨_, hz⟩ := D3.lst
        rw [z, hz] at ho2; cases ho2
      generalize upd Ha o2 (.lst []) = Hb at e2 D4 g4 z2 ⊢
      refine ⟨_, rfl, a, _, rfl, .inr (Same.t (e1.trans e2) hl), fun o3 ho3 => ?_⟩
      have e3 := same_new (o := .lst [.int d, .int t, .int b, .int s]) ho3
      have D5 := D4.new (o := .lst [.int d, .int t, .int b, .int s]) ho3 rfl
      have g5 := g4.new (o := .lst [.int d, .int t, .int b, .int s]) ho3 rfl
      have z3 : SqL K (upd Hb o3 (.lst [.int d, .int t, .int b, .int s])) o3 [.int d, .int t, .int b, .int s] := SqL.of upd_same
      have m3 : o3 ≠ dk := fun z => by
        obtain ⟨_, hz⟩ := D4.lst
        rw [z, hz] at ho3; cases ho3
      generalize upd Hb o3 (.lst [.int d, .int t, .int b, .int s]) = Hc at e3 D5 g5 z3 ⊢
      refine ⟨_, rfl, 3, rfl, a, _, rfl, Same.t ((e1.trans e2).trans e3) hl, (fun z => absurd (show HT.sIx 4 4 (some 3) = 4 from z.2) (by decide)), fun o4 ho4 => ?_⟩
      refine ⟨by show 4 ≤ sizeLine; decide, fun o5 ho5 => ⟨by show 4 ≤ sizeLine; decide, fun o6 ho6 => ⟨by show 10 ≤ sizeLine; decide, fun l hll => ?_⟩⟩⟩
      have e4 := same_new (o := .tup (cutV [.int d, .int t, .int b, .int s] none (some 3))) ho4
      have D6 := D5.new (o := .tup (cutV [.int d, .int t, .int b, .int s] none (some 3))) ho4 rfl
      have g6 := g5.new (o := .tup (cutV [.int d, .int t, .int b, .int s] none (some 3))) ho4 rfl
      have z4 : SqT K (upd Hc o4 (.tup (cutV [.int d, .int t, .int b, .int s] none (some 3)))) o4 (cutV [.int d, .int t, .int b, .int s] none (some 3)) := SqT.of upd_same
      generalize upd Hc o4 (.tup (cutV [.int d, .int t, .int b, .int s] none (some 3))) = Hd at e4 D6 g6 z4 ho5 ho6 hll ⊢
      have e5 := same_new (o := .tup [.int 0, .int 0, .int 1, .int 0]) ho5
      have D7 := D6.new (o := .tup [.int 0, .int 0, .int 1, .int 0]) ho5 rfl
      have g7 := g6.new (o := .tup [.int 0, .int 0, .int 1, .int 0]) ho5 rfl
      have z5 : SqT K (upd Hd o5 (.tup [.int 0, .int 0, .int 1, .int 0])) o5 [.int 0, .int 0, .int 1, .int 0] := SqT.of upd_same
      generalize upd Hd o5 (.tup [.int 0, .int 0, .int 1, .int 0]) = He at e5 D7 g7 z5 ho6 hll ⊢
      have e6 := same_new (o := .tup [.int 1, .int 1, .int 1, .int 0]) ho6
      have D8 := D7.new (o := .tup [.int 1, .int 1, .int 1, .int 0]) ho6 rfl
      have g8 := g7.new (o := .tup [.int 1, .int 1, .int 1, .int 0]) ho6 rfl
      have z6 : SqT K (upd He o6 (.tup [.int 1, .int 1, .int 1, .int 0])) o6 [.int 1, .int 1, .int 1, .int 0] := SqT.of upd_same
      generalize upd He o6 (.tup [.int 1, .int 1, .int 1, .int 0]) = Hf at e6 D8 g8 z6 hll ⊢
      have nl : l ≠ dk := fun z => by
        obtain ⟨_, hz⟩ := D8.lst
        rw [z, hz] at hll; cases hll
      have e7 := same_new (o := .lst [.non, .bl true, .str "", .ref o1, .ref o2, .int 7, .ref o3, .ref o4, .ref o5, .ref o6]) hll
      refine ⟨dk, l, 22, [.non, .bl true, .str "", .ref o1, .ref o2, .int 7, .ref o3, .ref o4, .ref o5, .ref o6], rfl, D8.new hll rfl, by decide, SqL.of upd_same, nl, by show 0 < 10; decide, by show 10 < 1000000; decide, fun j v H9 hv D9 g9 => ?_⟩
      have gg : Gr dk H2 H9 := (g8.new hll rfl).trans g9
      have f6 := e7
      have f5 := e6.trans f6
      have f4 := e5.trans f5
      have f3 := e4.trans f4
      have f2 := e3.trans f3
      have f1 := e2.trans f2
      match j, hv with
      | 0, hv => cases hv; exact k _ _ ⟨.flat (fun _ => .non) (by decide), D9, gg⟩
      | 1, hv => cases hv; exact k _ _ ⟨.flat (fun _ => .bl _) (by decide), D9, gg⟩
      | 2, hv => cases hv; exact k _ _ ⟨.flat (fun _ => .str _) (by decide), D9, gg⟩
      | 3, hv => cases hv; exact k _ _ ⟨.tup (g9.t (Same.t f1 z1)) (by decide), D9, gg⟩
      | 4, hv => cases hv; exact k _ _ ⟨.lst (g9.l m2 (Same.l f2 z2)) m2, D9, gg⟩
      | 5, hv => cases hv; exact k _ _ ⟨.flat (fun _ => .int _) (by decide), D9, gg⟩
      | 6, hv => cases hv; exact k _ _ ⟨.lst (g9.l m3 (Same.l f3 z3)) m3, D9, gg⟩
      | 7, hv => cases hv; exact k _ _ ⟨.tup (g9.t (Same.t f4 z4)) (by rw [show (3 : Int) = ((3 : Nat) : Int) from rfl, cutV_nat]; show 3 ≠ 4; decide), D9, gg⟩
      | 8, hv => cases hv; exact k _ _ ⟨.zero (g9.t (Same.t f5 z5)), D9, gg⟩
      | 9, hv => cases hv; exact k _ _ ⟨.much (g9.t (Same.t f6 z6)) ⟨by decide, by decide⟩ ⟨by decide, by decide⟩ (by decide), D9, gg⟩
      | _ + 10, hv => cases hv
    rintro odd H3 ⟨hodd, D3, g3⟩
    have hc3 := g3.keep _ _ hne hc2
    have T3' := tabs_gr T2 g3
    have hl3 := g3.t hl
    have hl23 := g3.t hl2
    have nt3' := D3.nt
    refine nrm [some (.ref sc), some (.int ce), some (.ref dk), some (.ref a2), y4, y5, some (.ref a), some odd] rfl ?_
    -- doors
    refine sq_set (fun v H4 => ∃ (pd : Addr) (fs : List Addr) (Hd : Hp), v = .ref pd ∧ LamX.ExtN H3 Hd ∧ Hd pd = none ∧ H4 = upd Hd pd (.lst (fs.map V.ref)) ∧ NoT Hd ∧ LamX.Tabs TT Hd ∧ fs.length = 13 ∧ ∀ f ∈ fs, Refuses P w K mg base 6 Hd f "NoLand") (fun Q' k => ?_) ?_
    · refine ⟨_, rfl, odd, .non, "NoLand", rfl, .land hodd.no, nt3', T3', fun pa fa Ha ea na Ta _ hpa hla hra => ?_⟩
      refine ⟨_, rfl, odd, .non, .non, .non, "NoLand", rfl, .land (noland_flat (ext_flat ea) hodd.no), na, Ta, fun pb fb Hb eb nb Tb _ hpb hlb hrb => ?_⟩
      refine ⟨pa, pb, _, _, rfl, rfl, SqL.of (eb _ _ hpa fun ps z => by cases z), SqL.of hpb, Nat.le_of_lt (sz_small (by rw [List.length_map, List.length_map]; omega)), fun pc hpc => ?_⟩
      have e1 := same_new (o := .lst (fa.map V.ref ++ fb.map V.ref)) hpc
      have n1 : NoT (upd Hb pc (.lst (fa.map V.ref ++ fb.map V.ref))) := nb.lst
      have T1' := tabs_same Tb e1
      have z1 : upd Hb pc (.lst (fa.map V.ref ++ fb.map V.ref)) pc = some (.lst (fa.map V.ref ++ fb.map V.ref)) := upd_same
      generalize upd Hb pc (.lst (fa.map V.ref ++ fb.map V.ref)) = Hc at e1 n1 T1' z1 ⊢
      have ec : LamX.ExtN H3 Hc := LamX.ExtN.trans ea (LamX.ExtN.trans eb (Same.ext e1))
      refine ⟨_, rfl, odd, .non, .non, .non, "NoLand", rfl, .land (noland_flat (ext_flat ec) hodd.no), n1, T1', fun pe fe He ee ne Te _ hpe hle hre => ?_⟩
      refine ⟨pc, pe, _, _, rfl, rfl, SqL.of (ee _ _ z1 fun ps z => by cases z), SqL.of hpe, Nat.le_of_lt (sz_small (by simp only [List.length_append, List.length_map]; omega)), fun pd hpd => ?_⟩
      refine k _ _ ⟨pd, fa ++ fb ++ fe, He, rfl, LamX.ExtN.trans ec ee, hpd, by rw [List.map_append, List.map_append], ne, Te, by simp only [List.length_append]; omega, fun g hg => ?_⟩
      rcases List.mem_append.mp hg with hg | hg
      · rcases List.mem_append.mp hg with hg | hg
        · exact (hra g hg).ext (LamX.ExtN.trans eb (LamX.ExtN.trans (Same.ext e1) ee))
        · exact (hrb g hg).ext (LamX.ExtN.trans (Same.ext e1) ee)
      · exact hre g hg
    rintro _ _ ⟨pd, fs, Hd, rfl, ed, hpd, rfl, ntd, Td, lfs, hfs⟩
    have nt4 : NoT (upd Hd pd (.lst (fs.map V.ref))) := ntd.lst
    have T4 := tabs_same Td (same_new (o := .lst (fs.map V.ref)) hpd)
    have P0 : upd Hd pd (.lst (fs.map V.ref)) pd = some (.lst (fs.map V.ref)) := upd_same
    have sd := same_new (o := .lst (fs.map V.ref)) hpd
    generalize upd Hd pd (.lst (fs.map V.ref)) = H4 at nt4 T4 P0 sd ⊢
    refine nrm [some (.ref sc), some (.int ce), some (.ref dk), some (.ref a2), some (.ref pd), y5, some (.ref a), some odd] rfl ?_
    refine ⟨_, rfl, .inl ⟨rfl, _, SqL.of P0⟩, T4, fun f1 c1 pm1 ct1 G1 e1 U1 n1 hf1 hq1 => ?_⟩
    refine ⟨pd, (fs.map V.ref), _, rfl, rfl, (by rw [upd_ne (ne_of_none (e1 _ _ P0 fun ps z => by cases z) hf1)]; exact e1 _ _ P0 fun ps z => by cases z), sz_small (by simp only [List.length_append, List.length_map, List.length_singleton]; omega), ?_⟩
    obtain ⟨X1, V1, N1, P1, L1⟩ := lam_put (zs' := (fs.map V.ref) ++ [.ref f1]) P0 e1 U1 (n1 nt4) hf1 hq1 _ rfl
    generalize upd (upd G1 f1 _) pd _ = W1 at X1 V1 N1 P1 L1 ⊢
    refine ⟨_, rfl, .inl ⟨rfl, _, SqL.of P1⟩, V1, fun f2 c2 pm2 ct2 G2 e2 U2 n2 hf2 hq2 => ?_⟩
    refine ⟨pd, ((fs.map V.ref) ++ [.ref f1]), _, rfl, rfl, (by rw [upd_ne (ne_of_none (e2 _ _ P1 fun ps z => by cases z) hf2)]; exact e2 _ _ P1 fun ps z => by cases z), sz_small (by simp only [List.length_append, List.length_map, List.length_singleton]; omega), ?_⟩
    obtain ⟨X2, V2, N2, P2, L2⟩ := lam_put (zs' := ((fs.map V.ref) ++ [.ref f1]) ++ [.ref f2]) P1 e2 U2 (n2 N1) hf2 hq2 _ rfl
    generalize upd (upd G2 f2 _) pd _ = W2 at X2 V2 N2 P2 L2 ⊢
    refine ⟨_, rfl, .inl ⟨rfl, _, SqL.of P2⟩, V2, fun f3 c3 pm3 ct3 G3 e3 U3 n3 hf3 hq3 => ?_⟩
    refine ⟨pd, (((fs.map V.ref) ++ [.ref f1]) ++ [.ref f2]), _, rfl, rfl, (by rw [upd_ne (ne_of_none (e3 _ _ P2 fun ps z => by cases z) hf3)]; exact e3 _ _ P2 fun ps z => by cases z), sz_small (by simp only [List.length_append, List.length_map, List.length_singleton]; omega), ?_⟩
    obtain ⟨X3, V3, N3, P3, L3⟩ := lam_put (zs' := (((fs.map V.ref) ++ [.ref f1]) ++ [.ref f2]) ++ [.ref f3]) P2 e3 U3 (n3 N2) hf3 hq3 _ rfl
    generalize upd (upd G3 f3 _) pd _ = W3 at X3 V3 N3 P3 L3 ⊢
    refine ⟨_, rfl, .inl ⟨rfl, _, SqL.of P3⟩, V3, fun f4 c4 pm4 ct4 G4 e4 U4 n4 hf4 hq4 => ?_⟩
    refine ⟨pd, ((((fs.map V.ref) ++ [.ref f1]) ++ [.ref f2]) ++ [.ref f3]), _, rfl, rfl, (by rw [upd_ne (ne_of_none (e4 _ _ P3 fun ps z => by cases z) hf4)]; exact e4 _ _ P3 fun ps z => by cases z), sz_small (by simp only [List.length_append, List.length_map, List.length_singleton]; omega), ?_⟩
    obtain ⟨X4, V4, N4, P4, L4⟩ := lam_put (zs' := ((((fs.map V.ref) ++ [.ref f1]) ++ [.ref f2]) ++ [.ref f3]) ++ [.ref f4]) P3 e4 U4 (n4 N3) hf4 hq4 _ rfl
    generalize upd (upd G4 f4 _) pd _ = W4 at X4 V4 N4 P4 L4 ⊢
    have l1 := ((L1.ext P1 X2).ext P2 X3).ext P3 X4
    have l2 := (L2.ext P2 X3).ext P3 X4
    have l3 := L3.ext P3 X4
    have EX : ∀ b o, Hd b = some o → (∀ ps, o ≠ .tbl ps) → W4 b = some o := fun b o h t => (((X1.trans X2).trans X3).trans X4) b o (ne_of_none h hpd) (sd b o h) t
    have E3 : LamX.ExtN H3 W4 := fun b o h t => EX b o (ed b o h t) t
    have PA : W4 pd = some (.lst ((fs ++ [f1, f2, f3, f4]).map V.ref)) := by rw [P4]; simp
    have hoddB := noland_flat (H' := flatH H3) (Same.refl _) hodd.no
    have hlB := flat_t hl3
    have hl2B := flat_t hl23
    have hcB : flatH H3 p3 = some (.lst cells) := flat_eq hc3 rfl
    have fb := flat_b H3
    have sB := ext_flat E3
    generalize flatH H3 = B at hoddB hlB hl2B hcB fb sB
    refine nx_of ?_
    refine sq_if (fun H' => Same B H' ∧ NoT H' ∧ LamX.Tabs TT H') (fun Q' k => ?_) ?_
    · refine ⟨_, rfl, fun Hc Lt => ?_⟩
      have EC : LamX.ExtN Hd Hc := fun b o h t => lent_in Lt (EX b o h t)
      have sBc : Same B Hc := fun b o h => lent_in Lt (sB b o h)
      refine ⟨pd, fs ++ [f1, f2, f3, f4], "NoLand", rfl, SqL.of (lent_in Lt PA), by rw [List.length_append]; show fs.length + 4 < 1000; omega, fun g hg => ?_, strOk_of _, lent_nt Lt N4, fun H6 s6 n6 => ⟨_, rfl, iteF ?_⟩⟩
      · rcases List.mem_append.mp hg with hg | hg
        · exact (hfs g hg).ext EC
        · simp only [List.mem_cons, List.not_mem_nil, or_false] at hg
          rcases hg with rfl | rfl | rfl | rfl
          · refine refuses_lent (k := 5) Lt (LamX.lamS_by (sc := defScope s_law) (by decide +kernel)) l1 (fun _ _ _ _ _ => rfl) (fun cl c2 A2 o2 s2 H2 E2 hr2 => (pe_callD (rd_date A) hr2 (by decide) (by rfl) (L2N.passes_call (L2N.takes_of rfl rfl rfl rfl) (fun _ _ _ _ h => h)) (pa_cons (pv 7) (pa_cons pe_non pa_nil)))) fun Hx E Q s nx hE0 => ?_
            exact ⟨_, rfl, odd, .non, rfl, .inl ⟨noland_same (flat_mid fb sBc s) hoddB, fun D hD => hE0 D Hx hD (Same.refl _) nx⟩⟩
          · refine refuses_lent (k := 5) Lt (LamX.lamS_by (sc := defScope s_law) (by decide +kernel)) l2 (fun _ _ _ _ _ => rfl) (fun cl c2 A2 o2 s2 H2 E2 hr2 => (pe_callD (rd_alike A) hr2 (by decide) (by rfl) (L2N.passes_call (L2N.takes_of rfl rfl rfl rfl) (fun _ _ _ _ h => h)) (pa_cons (pv 7) (pa_cons pe_non pa_nil)))) fun Hx E Q s nx hE0 => ?_
            exact ⟨_, rfl, odd, .non, rfl, .inl ⟨noland_same (flat_mid fb sBc s) hoddB, fun D hD => hE0 D Hx hD (Same.refl _) nx⟩⟩
          · refine refuses_lent (k := 5) Lt (LamX.lamS_by (sc := defScope s_law) (by decide +kernel)) l3 (fun _ _ _ _ _ => rfl) (fun cl c2 A2 o2 s2 H2 E2 hr2 => (pe_callD (rd_first_parting A) hr2 (by decide) (by rfl) (L2N.passes_call (L2N.takes_of rfl rfl rfl rfl) (fun _ _ _ _ h => h)) (pa_cons (pv 6) (pa_cons (pv 7) pa_nil)))) fun Hx E Q s' nx hE0 => ?_
            exact ⟨_, rfl, _, rfl, .ref a, odd, rfl, .inr ⟨a, d, t, b, s, rfl, Same.t (flat_mid fb sBc s') hlB, hk, noland_same (flat_mid fb sBc s') hoddB, fun D hD => hE0 D Hx hD (Same.refl _) nx⟩⟩
          · refine refuses_lent (k := 5) Lt (LamX.lamS_by (sc := defScope s_law) (by decide +kernel)) L4 (fun _ _ _ _ _ => rfl) (fun cl c2 A2 o2 s2 H2 E2 hr2 => (pe_newD (rd_Realm_init A hC) hC hr2 (by decide) (by rfl) (L2N.passes_call (L2N.takes_of rfl rfl rfl rfl) (fun _ _ _ _ h => h)) (pa_cons (pv 7) pa_nil))) fun Hx E Q s' nx hE0 => ?_
            refine ⟨_, rfl, fun x dx hx hdx hxd => ?_⟩
            have k7 : Same Hx (upd (upd Hx dx (.own x)) x (.ins C dx [])) := fun b o e => by
              rw [upd_ne (ne_of_none e hx), upd_ne (ne_of_none e hdx)]
              exact e
            exact ⟨.ref x, odd, rfl, noland_same ((flat_mid fb sBc s').trans k7) hoddB, fun D hD => hE0 D _ hD k7 ((nx.upd rfl).upd rfl)⟩
      · have sb := lent_back Lt s6
        have nb : NoT (ovr (cellD (cxOf CX0 P w K mg base ["script", "cell", "deck", "other", "doors", "bad", "land", "odd"] "law" (defScope s_law) f (.ref c) A' outer sh H E).nox.env.cells) (fun _ => none) H6) := noT_ovr noT_none n6
        have Tb := tabs_same V4 sb
        have sBb := sB.trans sb
        refine ⟨_, rfl, _, rfl, .ref a, .int 0, odd, .non, "NoLand", rfl, .land2 (Same.t sBb hlB) hk (.int 0) (isFrom_yes (by omega) (by have := hk.1.1; omega)) (noland_same sBb hoddB), nb, Tb, fun pe fe He ee ne Te _ hpe hle hre => ?_⟩
        exact ⟨pe, fe, "NoLand", rfl, SqL.of hpe, by omega, hre, strOk_of _, ne, fun H7 s7 n7 => ⟨_, rfl, k _ ⟨(flat_ext fb sBb ee).trans s7, n7, tabs_same Te s7⟩⟩⟩
    rintro H5 ⟨s5, nt5, T5⟩
    refine sq_if (fun H' => Same B H' ∧ NoT H' ∧ LamX.Tabs TT H') (fun Q' k => ?_) ?_
    · exact ⟨_, rfl, _, rfl, a, a2, d, t, b, s, d2, t2, b2, s2, rfl, Same.t s5 hlB, hk, Same.t s5 hl2B, hk2, nt5, T5, fun H6 s6 n6 T6 => ⟨_, rfl, k _ ⟨flat_mid fb s5 s6, n6, T6⟩⟩⟩
    rintro H6 ⟨s6, nt6, T6⟩
    refine sq_str (fun σ H7 => (∃ y5, σ = [some (.ref sc), some (.int ce), some (.ref dk), some (.ref a2), some (.ref pd), y5, some (.ref a), some odd]) ∧ Same B H7 ∧ NoT H7 ∧ LamX.Tabs TT H7) (fun N0 kN => ?_) ?_
    · refine ⟨_, rfl, _, rfl, _, _, _, _, rfl, rfl, Same.t s6 hlB, (by rfl), by show 5 ≤ sizeLine; decide, fun o1 ho1 => ?_⟩
      obtain ⟨fb1, sB1, sB2⟩ := flat_new2 (zs := [.non, .bl true, .int (-1), .int d, .str "0"]) fb s6 ho1
      have n7 : NoT (upd H6 o1 (.lst [.non, .bl true, .int (-1), .int d, .str "0"])) := nt6.lst
      have T7 := tabs_same T6 (same_new (o := .lst [.non, .bl true, .int (-1), .int d, .str "0"]) ho1)
      have hB1 : upd B o1 (.lst [.non, .bl true, .int (-1), .int d, .str "0"]) o1 = some (.lst [.non, .bl true, .int (-1), .int d, .str "0"]) := upd_same
      generalize upd B o1 (.lst [.non, .bl true, .int (-1), .int d, .str "0"]) = B1 at fb1 sB1 sB2 hB1
      have hlB1 := Same.t sB1 hlB
      refine ⟨o1, rfl, ⟨_, SqL.of (sB2 _ _ hB1)⟩, for_list (xs := [.non, .bl true, .int (-1), .int d, .str "0"]) (fun i σ H' => (∃ y5, σ = [some (.ref sc), some (.int ce), some (.ref dk), some (.ref a2), some (.ref pd), y5, some (.ref a), some odd]) ∧ Same B1 H' ∧ NoT H' ∧ LamX.Tabs TT H') ⟨⟨_, rfl⟩, sB2, n7, T7⟩ (fun i σ H' _ pv => SqL.of (pv.2.1 _ _ hB1)) (fun i x σ H' hx hW => ?_) (fun σ H' hW => ?_)⟩
      · obtain ⟨⟨y5, rfl⟩, sH, ntH, TH⟩ := hW
        obtain ⟨kn, kx, ix⟩ : ∃ kn, (∀ H, Kn K H x kn) ∧ isFrom x 0 (d - 1) = false := by
          match i, hx with
          | 0, hx => cases hx; exact ⟨_, fun _ => .non, rfl⟩
          | 1, hx => cases hx; exact ⟨_, fun _ => .bl _, rfl⟩
          | 2, hx => cases hx; exact ⟨_, fun _ => .int _, (by rw [isFrom_int, decide_eq_false (show ¬ (0 : Int) ≤ -1 by decide), Bool.false_and])⟩
          | 3, hx => cases hx; exact ⟨_, fun _ => .int _, (by rw [isFrom_int, decide_eq_false (show ¬ d ≤ d - 1 by omega), Bool.and_false])⟩
          | 4, hx => cases hx; exact ⟨_, fun _ => .str _, rfl⟩
          | _ + 5, hx => cases hx
        show tIfS _ _ _ _ _ _
        refine nrm [some (.ref sc), some (.int ce), some (.ref dk), some (.ref a2), some (.ref pd), some x, some (.ref a), some odd] rfl ?_
        refine sq_ifL (fun H2 => Same B1 H2 ∧ NoT H2 ∧ LamX.Tabs TT H2) (fun Q' k => ?_) ?_
        · refine ⟨_, rfl, _, rfl, .ref a, x, .non, .non, "NoPlace", rfl, .place (Same.t sH hlB1) hk (kx _) ix, ntH, TH, fun pa fa Ha ea na Ta _ hpa hla hra => ?_⟩
          have sa := flat_ext fb1 sH ea
          refine ⟨_, rfl, _, rfl, .ref a, x, .non, .non, "NoPlace", rfl, .place (Same.t sa hlB1) hk (kx _) ix, na, Ta, fun pb fb' Hb eb nb Tb _ hpb hlb hrb => ?_⟩
          refine ⟨pa, pb, _, _, rfl, rfl, SqL.of (eb _ _ hpa fun ps z => by cases z), SqL.of hpb, Nat.le_of_lt (sz_small (by rw [List.length_map, List.length_map]; omega)), fun pc hpc => ?_⟩
          have e1 := same_new (o := .lst (fa.map V.ref ++ fb'.map V.ref)) hpc
          refine ⟨pc, fa ++ fb', "NoPlace", rfl, SqL.of (by rw [upd_same, List.map_append]), by rw [List.length_append]; omega, fun g hg => ?_, strOk_of _, nb.lst, fun H7 s7 n7 => ⟨_, rfl, k _ ⟨((flat_ext fb1 sa eb).trans e1).trans s7, n7, tabs_same (tabs_same Tb e1) s7⟩⟩⟩
          rcases List.mem_append.mp hg with hg | hg
          · exact (hra g hg).ext (LamX.ExtN.trans eb (Same.ext e1))
          · exact (hrb g hg).ext (Same.ext e1)
        rintro H2 ⟨s2', n2', T2'⟩
        exact ⟨⟨_, rfl⟩, s2', n2', T2'⟩
      · exact kN _ _ ⟨hW.1, sB1.trans hW.2.1, hW.2.2⟩
    rintro _ H7 ⟨⟨y5', rfl⟩, s7, nt7, T7⟩
    refine sq_if (fun H' => Same B H' ∧ NoT H' ∧ LamX.Tabs TT H') (fun Q' k => ?_) ?_
    · refine ⟨_, rfl, _, rfl, _, rfl, _, _, _, _, rfl, rfl, Same.t s7 hl2B, (by rfl), .ref a, .int 0, .ref a2, .int d2, "NoPlace", rfl, .place2 (Same.t s7 hlB) hk (.int 0) (isFrom_yes (by omega) (by have := hk.1.1; omega)) (Same.t s7 hl2B) hk2 (.int d2) (by rw [isFrom_int, decide_eq_false (show ¬ d2 ≤ d2 - 1 by omega), Bool.and_false]), nt7, T7, fun pe fe He ee ne Te _ hpe hle hre => ?_⟩
      exact ⟨pe, fe, "NoPlace", rfl, SqL.of hpe, by omega, hre, strOk_of _, ne, fun H8 s8 n8 => ⟨_, rfl, k _ ⟨(flat_ext fb s7 ee).trans s8, n8, tabs_same Te s8⟩⟩⟩
    rintro H8 ⟨s8, nt8, T8⟩
    refine sq_str (fun σ H7 => (∃ y5, σ = [some (.ref sc), some (.int ce), some (.ref dk), some (.ref a2), some (.ref pd), y5, some (.ref a), some odd]) ∧ Same B H7 ∧ NoT H7 ∧ LamX.Tabs TT H7) (fun N0 kN => ?_) ?_
    · refine ⟨by show 5 ≤ sizeLine; decide, fun o1 ho1 => ?_⟩
      obtain ⟨fb1, sB1, sB2⟩ := flat_new2 (zs := [.non, .bl true, .int 0, .int 21, .str "7"]) fb s8 ho1
      have n7 : NoT (upd H8 o1 (.lst [.non, .bl true, .int 0, .int 21, .str "7"])) := nt8.lst
      have T7 := tabs_same T8 (same_new (o := .lst [.non, .bl true, .int 0, .int 21, .str "7"]) ho1)
      have hB1 : upd B o1 (.lst [.non, .bl true, .int 0, .int 21, .str "7"]) o1 = some (.lst [.non, .bl true, .int 0, .int 21, .str "7"]) := upd_same
      generalize upd B o1 (.lst [.non, .bl true, .int 0, .int 21, .str "7"]) = B1 at fb1 sB1 sB2 hB1
      have hlB1 := Same.t sB1 hlB
      refine ⟨o1, rfl, ⟨_, SqL.of (sB2 _ _ hB1)⟩, for_list (xs := [.non, .bl true, .int 0, .int 21, .str "7"]) (fun i σ H' => (∃ y5, σ = [some (.ref sc), some (.int ce), some (.ref dk), some (.ref a2), some (.ref pd), y5, some (.ref a), some odd]) ∧ Same B1 H' ∧ NoT H' ∧ LamX.Tabs TT H') ⟨⟨_, rfl⟩, sB2, n7, T7⟩ (fun i σ H' _ pv => SqL.of (pv.2.1 _ _ hB1)) (fun i x σ H' hx hW => ?_) (fun σ H' hW => ?_)⟩
      · obtain ⟨⟨y5, rfl⟩, sH, ntH, TH⟩ := hW
        obtain ⟨kn, kx, ix⟩ : ∃ kn, (∀ H, Kn K H x kn) ∧ isFrom x 1 20 = false := by
          match i, hx with
          | 0, hx => cases hx; exact ⟨_, fun _ => .non, by decide⟩
          | 1, hx => cases hx; exact ⟨_, fun _ => .bl _, by decide⟩
          | 2, hx => cases hx; exact ⟨_, fun _ => .int _, by decide⟩
          | 3, hx => cases hx; exact ⟨_, fun _ => .int _, by decide⟩
          | 4, hx => cases hx; exact ⟨_, fun _ => .str _, by decide⟩
          | _ + 5, hx => cases hx
        show tIfS _ _ _ _ _ _
        refine nrm [some (.ref sc), some (.int ce), some (.ref dk), some (.ref a2), some (.ref pd), some x, some (.ref a), some odd] rfl ?_
        refine sq_ifL (fun H2 => Same B1 H2 ∧ NoT H2 ∧ LamX.Tabs TT H2) (fun Q' k => ?_) ?_
        · refine ⟨_, rfl, _, rfl, .ref a, .int 0, x, .non, "NoWeek", rfl, .week (Same.t sH hlB1) hk (.int 0) (isFrom_yes (by omega) (by have := hk.1.1; omega)) (kx _) ix, ntH, TH, fun pe fe He ee ne Te _ hpe hle hre => ?_⟩
          exact ⟨pe, fe, "NoWeek", rfl, SqL.of hpe, by omega, hre, strOk_of _, ne, fun H8 s8 n8 => ⟨_, rfl, k _ ⟨(flat_ext fb1 sH ee).trans s8, n8, tabs_same Te s8⟩⟩⟩
        rintro H2 ⟨s2', n2', T2'⟩
        exact ⟨⟨_, rfl⟩, s2', n2', T2'⟩
      · exact kN _ _ ⟨hW.1, sB1.trans hW.2.1, hW.2.2⟩
    rintro _ H9 ⟨⟨y5'', rfl⟩, s9, nt9, T9⟩
    refine ⟨_, rfl, by show 5 ≤ sizeLine; decide, fun o1 ho1 => ?_⟩
    obtain ⟨fb1, sB1, sB2⟩ := flat_new2 (zs := [.non, .bl true, .int (-1), .int 7, .str "0"]) fb s9 ho1
    have n7 : NoT (upd H9 o1 (.lst [.non, .bl true, .int (-1), .int 7, .str "0"])) := nt9.lst
    have T7 := tabs_same T9 (same_new (o := .lst [.non, .bl true, .int (-1), .int 7, .str "0"]) ho1)
    have hB1 : upd B o1 (.lst [.non, .bl true, .int (-1), .int 7, .str "0"]) o1 = some (.lst [.non, .bl true, .int (-1), .int 7, .str "0"]) := upd_same
    generalize upd B o1 (.lst [.non, .bl true, .int (-1), .int 7, .str "0"]) = B1 at fb1 sB1 sB2 hB1
    have hlB1 := Same.t sB1 hlB
    refine ⟨o1, rfl, ⟨_, SqL.of (sB2 _ _ hB1)⟩, for_list (xs := [.non, .bl true, .int (-1), .int 7, .str "0"]) (fun i σ H' => (∃ y5, σ = [some (.ref sc), some (.int ce), some (.ref dk), some (.ref a2), some (.ref pd), y5, some (.ref a), some odd]) ∧ Same B1 H' ∧ NoT H' ∧ LamX.Tabs TT H') ⟨⟨_, rfl⟩, sB2, n7, T7⟩ (fun i σ H' _ pv => SqL.of (pv.2.1 _ _ hB1)) (fun i x σ H' hx hW => ?_) (fun σ H' hW => ?_)⟩
    · obtain ⟨⟨y5, rfl⟩, sH, ntH, TH⟩ := hW
      obtain ⟨kn, kx, ix⟩ : ∃ kn, (∀ H, Kn K H x kn) ∧ isFrom x 0 (7 - 1) = false := by
        match i, hx with
        | 0, hx => cases hx; exact ⟨_, fun _ => .non, by decide⟩
        | 1, hx => cases hx; exact ⟨_, fun _ => .bl _, by decide⟩
        | 2, hx => cases hx; exact ⟨_, fun _ => .int _, by decide⟩
        | 3, hx => cases hx; exact ⟨_, fun _ => .int _, by decide⟩
        | 4, hx => cases hx; exact ⟨_, fun _ => .str _, by decide⟩
        | _ + 5, hx => cases hx
      show tIfS _ _ _ _ _ _
      refine nrm [some (.ref sc), some (.int ce), some (.ref dk), some (.ref a2), some (.ref pd), some x, some (.ref a), some odd] rfl ?_
      refine sq_ifL (fun H2 => Same B1 H2 ∧ NoT H2 ∧ LamX.Tabs TT H2) (fun Q' k => ?_) ?_
      · refine ⟨_, rfl, _, rfl, .ref a, .int 0, .int 7, x, "NoName", rfl, .name (Same.t sH hlB1) hk (.int 0) (isFrom_yes (by omega) (by have := hk.1.1; omega)) (by decide) (kx _) ix, ntH, TH, fun pe fe He ee ne Te _ hpe hle hre => ?_⟩
        exact ⟨pe, fe, "NoName", rfl, SqL.of hpe, by omega, hre, strOk_of _, ne, fun H8 s8 n8 => ⟨_, rfl, k _ ⟨(flat_ext fb1 sH ee).trans s8, n8, tabs_same Te s8⟩⟩⟩
      rintro H2 ⟨s2', n2', T2'⟩
      exact ⟨⟨_, rfl⟩, s2', n2', T2'⟩
    · obtain ⟨⟨y5, rfl⟩, sH, ntH, TH⟩ := hW
      exact ⟨⟨_, _, _, _, _, _, _, rfl⟩, sH _ _ (sB1 _ _ hcB), ntH, TH⟩

end
set_option maxHeartbeats 40000000 in
theorem all_mk {l : PySem.W.OpenLaw} {w : World} {K : PySem.W.Frag} {h : Heap} {mg : Str → Option Value} {fa : Addr} (X : K.In h) (G : h.Ns mainGlobals mg) (hfa : mg "law" = some (.ref fa))
    {C_Realm : Addr}
    {od0 an0 : Option Addr} {sl0 : Array (Option Value)} {oc0 kV0 dc0 pm0 ct0 : Value} {f0 : Addr} {cd0 : Value}
    {od1 an1 : Option Addr} {sl1 : Array (Option Value)} {oc1 kV1 dc1 pm1 ct1 : Value} {f1 : Addr} {cd1 : Value}
    {od2 an2 : Option Addr} {sl2 : Array (Option Value)} {oc2 kV2 dc2 pm2 ct2 : Value} {f2 : Addr} {cd2 : Value}
    {od3 an3 : Option Addr} {sl3 : Array (Option Value)} {oc3 kV3 dc3 pm3 ct3 : Value} {f3 : Addr} {cd3 : Value}
    {od4 an4 : Option Addr} {sl4 : Array (Option Value)} {oc4 kV4 dc4 pm4 ct4 : Value} {f4 : Addr} {cd4 : Value}
    {od5 an5 : Option Addr} {sl5 : Array (Option Value)} {oc5 kV5 dc5 pm5 ct5 : Value} {f5 : Addr} {cd5 : Value}
    {od6 an6 : Option Addr} {sl6 : Array (Option Value)} {oc6 kV6 dc6 pm6 ct6 : Value} {f6 : Addr} {cd6 : Value}
    {od7 an7 : Option Addr} {sl7 : Array (Option Value)} {oc7 kV7 dc7 pm7 ct7 : Value} {f7 : Addr} {cd7 : Value}
    {od8 an8 : Option Addr} {sl8 : Array (Option Value)} {oc8 kV8 dc8 pm8 ct8 : Value} {f8 : Addr} {cd8 : Value}
    {od9 an9 : Option Addr} {sl9 : Array (Option Value)} {oc9 kV9 dc9 pm9 ct9 : Value} {f9 : Addr} {cd9 : Value}
    {od10 an10 : Option Addr} {sl10 : Array (Option Value)} {oc10 kV10 dc10 pm10 ct10 : Value} {f10 : Addr} {cd10 : Value}
    {od11 an11 : Option Addr} {sl11 : Array (Option Value)} {oc11 kV11 dc11 pm11 ct11 : Value} {f11 : Addr} {cd11 : Value}
    {od12 an12 : Option Addr} {sl12 : Array (Option Value)} {oc12 kV12 dc12 pm12 ct12 : Value} {f12 : Addr} {cd12 : Value}
    {od13 an13 : Option Addr} {sl13 : Array (Option Value)} {oc13 kV13 dc13 pm13 ct13 : Value} {f13 : Addr} {cd13 : Value}
    {od14 an14 : Option Addr} {sl14 : Array (Option Value)} {oc14 kV14 dc14 pm14 ct14 : Value} {f14 : Addr} {cd14 : Value}
    {od15 an15 : Option Addr} {sl15 : Array (Option Value)} {oc15 kV15 dc15 pm15 ct15 : Value} {f15 : Addr} {cd15 : Value}
    {od16 an16 : Option Addr} {sl16 : Array (Option Value)} {oc16 kV16 dc16 pm16 ct16 : Value} {f16 : Addr} {cd16 : Value}
    {od17 an17 : Option Addr} {sl17 : Array (Option Value)} {oc17 kV17 dc17 pm17 ct17 : Value} {f17 : Addr} {cd17 : Value}
    {od18 an18 : Option Addr} {sl18 : Array (Option Value)} {oc18 kV18 dc18 pm18 ct18 : Value} {f18 : Addr} {cd18 : Value}
    {od19 an19 : Option Addr} {sl19 : Array (Option Value)} {oc19 kV19 dc19 pm19 ct19 : Value} {f19 : Addr} {cd19 : Value}
    {od20 an20 : Option Addr} {sl20 : Array (Option Value)} {oc20 kV20 dc20 pm20 ct20 : Value} {f20 : Addr} {cd20 : Value}
    {od21 an21 : Option Addr} {sl21 : Array (Option Value)} {oc21 kV21 dc21 pm21 ct21 : Value} {f21 : Addr} {cd21 : Value}
    {od22 an22 : Option Addr} {sl22 : Array (Option Value)} {oc22 kV22 dc22 pm22 ct22 : Value} {f22 : Addr} {cd22 : Value}
    {od23 an23 : Option Addr} {sl23 : Array (Option Value)} {oc23 kV23 dc23 pm23 ct23 : Value} {f23 : Addr} {cd23 : Value}
    {od24 an24 : Option Addr} {sl24 : Array (Option Value)} {oc24 kV24 dc24 pm24 ct24 : Value} {f24 : Addr} {cd24 : Value}
    {od25 an25 : Option Addr} {sl25 : Array (Option Value)} {oc25 kV25 dc25 pm25 ct25 : Value} {f25 : Addr} {cd25 : Value}
    {od26 an26 : Option Addr} {sl26 : Array (Option Value)} {oc26 kV26 dc26 pm26 ct26 : Value} {f26 : Addr} {cd26 : Value}
    {od27 an27 : Option Addr} {sl27 : Array (Option Value)} {oc27 kV27 dc27 pm27 ct27 : Value} {f27 : Addr} {cd27 : Value}
    {od28 an28 : Option Addr} {sl28 : Array (Option Value)} {oc28 kV28 dc28 pm28 ct28 : Value} {f28 : Addr} {cd28 : Value}
    {od29 an29 : Option Addr} {sl29 : Array (Option Value)} {oc29 kV29 dc29 pm29 ct29 : Value} {f29 : Addr} {cd29 : Value}
    {od30 an30 : Option Addr} {sl30 : Array (Option Value)} {oc30 kV30 dc30 pm30 ct30 : Value} {f30 : Addr} {cd30 : Value}
    {od31 an31 : Option Addr} {sl31 : Array (Option Value)} {oc31 kV31 dc31 pm31 ct31 : Value} {f31 : Addr} {cd31 : Addr}
    {od32 an32 : Option Addr} {sl32 : Array (Option Value)} {oc32 kV32 dc32 pm32 ct32 : Value} {f32 : Addr} {cd32 : Addr}
    {od33 an33 : Option Addr} {sl33 : Array (Option Value)} {oc33 kV33 dc33 pm33 ct33 : Value} {f33 : Addr} {cd33 : Addr}
    {od34 an34 : Option Addr} {sl34 : Array (Option Value)} {oc34 kV34 dc34 pm34 ct34 : Value} {f34 : Addr} {cd34 : Value}
    {od35 an35 : Option Addr} {sl35 : Array (Option Value)} {oc35 kV35 dc35 pm35 ct35 : Value} {f35 : Addr} {cd35 : Addr}
    {od36 an36 : Option Addr} {sl36 : Array (Option Value)} {oc36 kV36 dc36 pm36 ct36 : Value} {f36 : Addr} {cd36 : Addr}
    {t_MOST_DAYS : Tok}
    {t_MOST_BOTTOM : Tok}
    {t_MOST_SHIFT : Tok}
    {t_FAR : Tok}
    {t_MOST_WEEK : Tok}
    {eY e0 e1 e2 e3 e4 e5 e6 e7 e8 : Addr}
    (aC_Realm : PySem.W.nsIn K mainGlobals "Realm" = some (some (.ref C_Realm)))
    (pg_Realm : PySem.W.plainGet K C_Realm Str.empty = true)
    (hd_Realm : PySem.W.hasDictIn K C_Realm = true)
    (po_Realm : PySem.W.plainOver K C_Realm = true)
    (sa_Realm : PySem.W.findIn K (.ref C_Realm) "__setattr__" = some (some (.builtin "object.__setattr__")))
    (mk_Realm : PySem.W.makesIn K C_Realm = true)
    (kc_Realm : PySem.W.keepIn K (.ref C_Realm) = true)
    (nI_Realm : PySem.W.findIn K (.ref C_Realm) "rows" = some none)
    (a0 : PySem.W.nsIn K mainGlobals "is_from" = some (some (.ref f0)))
    (l0 : K.lookup f0 = some ⟨oc0, od0, .func (PySem.W.fnOf "is_from" "is_from" (defArgs s_is_from) (defBody s_is_from) (defScope s_is_from) .none kV0 dc0 pm0 an0 cd0 ct0), sl0⟩) (c0 : PySem.W.codeIn K cd0 "is_from" = true) (k0 : PySem.W.keepIn K (.ref f0) = true)
    (a1 : PySem.W.nsIn K mainGlobals "is_land" = some (some (.ref f1)))
    (l1 : K.lookup f1 = some ⟨oc1, od1, .func (PySem.W.fnOf "is_land" "is_land" (defArgs s_is_land) (defBody s_is_land) (defScope s_is_land) .none kV1 dc1 pm1 an1 cd1 ct1), sl1⟩) (c1 : PySem.W.codeIn K cd1 "is_land" = true) (k1 : PySem.W.keepIn K (.ref f1) = true)
    (a2 : PySem.W.nsIn K mainGlobals "need_land" = some (some (.ref f2)))
    (l2 : K.lookup f2 = some ⟨oc2, od2, .func (PySem.W.fnOf "need_land" "need_land" (defArgs s_need_land) (defBody s_need_land) (defScope s_need_land) .none kV2 dc2 pm2 an2 cd2 ct2), sl2⟩) (c2 : PySem.W.codeIn K cd2 "need_land" = true) (k2 : PySem.W.keepIn K (.ref f2) = true)
    (a3 : PySem.W.nsIn K mainGlobals "need_year" = some (some (.ref f3)))
    (l3 : K.lookup f3 = some ⟨oc3, od3, .func (PySem.W.fnOf "need_year" "need_year" (defArgs s_need_year) (defBody s_need_year) (defScope s_need_year) .none kV3 dc3 pm3 an3 cd3 ct3), sl3⟩) (c3 : PySem.W.codeIn K cd3 "need_year" = true) (k3 : PySem.W.keepIn K (.ref f3) = true)
    (a4 : PySem.W.nsIn K mainGlobals "need_day" = some (some (.ref f4)))
    (l4 : K.lookup f4 = some ⟨oc4, od4, .func (PySem.W.fnOf "need_day" "need_day" (defArgs s_need_day) (defBody s_need_day) (defScope s_need_day) .none kV4 dc4 pm4 an4 cd4 ct4), sl4⟩) (c4 : PySem.W.codeIn K cd4 "need_day" = true) (k4 : PySem.W.keepIn K (.ref f4) = true)
    (a5 : PySem.W.nsIn K mainGlobals "begin" = some (some (.ref f5)))
    (l5 : K.lookup f5 = some ⟨oc5, od5, .func (PySem.W.fnOf "begin" "begin" (defArgs s_begin) (defBody s_begin) (defScope s_begin) .none kV5 dc5 pm5 an5 cd5 ct5), sl5⟩) (c5 : PySem.W.codeIn K cd5 "begin" = true) (k5 : PySem.W.keepIn K (.ref f5) = true)
    (a6 : PySem.W.nsIn K mainGlobals "date" = some (some (.ref f6)))
    (l6 : K.lookup f6 = some ⟨oc6, od6, .func (PySem.W.fnOf "date" "date" (defArgs s_date) (defBody s_date) (defScope s_date) .none kV6 dc6 pm6 an6 cd6 ct6), sl6⟩) (c6 : PySem.W.codeIn K cd6 "date" = true) (k6 : PySem.W.keepIn K (.ref f6) = true)
    (a7 : PySem.W.nsIn K mainGlobals "is_long" = some (some (.ref f7)))
    (l7 : K.lookup f7 = some ⟨oc7, od7, .func (PySem.W.fnOf "is_long" "is_long" (defArgs s_is_long) (defBody s_is_long) (defScope s_is_long) .none kV7 dc7 pm7 an7 cd7 ct7), sl7⟩) (c7 : PySem.W.codeIn K cd7 "is_long" = true) (k7 : PySem.W.keepIn K (.ref f7) = true)
    (a8 : PySem.W.nsIn K mainGlobals "next_long" = some (some (.ref f8)))
    (l8 : K.lookup f8 = some ⟨oc8, od8, .func (PySem.W.fnOf "next_long" "next_long" (defArgs s_next_long) (defBody s_next_long) (defScope s_next_long) .none kV8 dc8 pm8 an8 cd8 ct8), sl8⟩) (c8 : PySem.W.codeIn K cd8 "next_long" = true) (k8 : PySem.W.keepIn K (.ref f8) = true)
    (a9 : PySem.W.nsIn K mainGlobals "long_years" = some (some (.ref f9)))
    (l9 : K.lookup f9 = some ⟨oc9, od9, .func (PySem.W.fnOf "long_years" "long_years" (defArgs s_long_years) (defBody s_long_years) (defScope s_long_years) .none kV9 dc9 pm9 an9 cd9 ct9), sl9⟩) (c9 : PySem.W.codeIn K cd9 "long_years" = true) (k9 : PySem.W.keepIn K (.ref f9) = true)
    (a10 : PySem.W.nsIn K mainGlobals "need_name" = some (some (.ref f10)))
    (l10 : K.lookup f10 = some ⟨oc10, od10, .func (PySem.W.fnOf "need_name" "need_name" (defArgs s_need_name) (defBody s_need_name) (defScope s_need_name) .none kV10 dc10 pm10 an10 cd10 ct10), sl10⟩) (c10 : PySem.W.codeIn K cd10 "need_name" = true) (k10 : PySem.W.keepIn K (.ref f10) = true)
    (a11 : PySem.W.nsIn K mainGlobals "next_year" = some (some (.ref f11)))
    (l11 : K.lookup f11 = some ⟨oc11, od11, .func (PySem.W.fnOf "next_year" "next_year" (defArgs s_next_year) (defBody s_next_year) (defScope s_next_year) .none kV11 dc11 pm11 an11 cd11 ct11), sl11⟩) (c11 : PySem.W.codeIn K cd11 "next_year" = true) (k11 : PySem.W.keepIn K (.ref f11) = true)
    (a12 : PySem.W.nsIn K mainGlobals "how_many" = some (some (.ref f12)))
    (l12 : K.lookup f12 = some ⟨oc12, od12, .func (PySem.W.fnOf "how_many" "how_many" (defArgs s_how_many) (defBody s_how_many) (defScope s_how_many) .none kV12 dc12 pm12 an12 cd12 ct12), sl12⟩) (c12 : PySem.W.codeIn K cd12 "how_many" = true) (k12 : PySem.W.keepIn K (.ref f12) = true)
    (a13 : PySem.W.nsIn K mainGlobals "lengths" = some (some (.ref f13)))
    (l13 : K.lookup f13 = some ⟨oc13, od13, .func (PySem.W.fnOf "lengths" "lengths" (defArgs s_lengths) (defBody s_lengths) (defScope s_lengths) .none kV13 dc13 pm13 an13 cd13 ct13), sl13⟩) (c13 : PySem.W.codeIn K cd13 "lengths" = true) (k13 : PySem.W.keepIn K (.ref f13) = true)
    (a14 : PySem.W.nsIn K mainGlobals "barring" = some (some (.ref f14)))
    (l14 : K.lookup f14 = some ⟨oc14, od14, .func (PySem.W.fnOf "barring" "barring" (defArgs s_barring) (defBody s_barring) (defScope s_barring) .none kV14 dc14 pm14 an14 cd14 ct14), sl14⟩) (c14 : PySem.W.codeIn K cd14 "barring" = true) (k14 : PySem.W.keepIn K (.ref f14) = true)
    (a15 : PySem.W.nsIn K mainGlobals "bars" = some (some (.ref f15)))
    (l15 : K.lookup f15 = some ⟨oc15, od15, .func (PySem.W.fnOf "bars" "bars" (defArgs s_bars) (defBody s_bars) (defScope s_bars) .none kV15 dc15 pm15 an15 cd15 ct15), sl15⟩) (c15 : PySem.W.codeIn K cd15 "bars" = true) (k15 : PySem.W.keepIn K (.ref f15) = true)
    (a16 : PySem.W.nsIn K mainGlobals "need_placed" = some (some (.ref f16)))
    (l16 : K.lookup f16 = some ⟨oc16, od16, .func (PySem.W.fnOf "need_placed" "need_placed" (defArgs s_need_placed) (defBody s_need_placed) (defScope s_need_placed) .none kV16 dc16 pm16 an16 cd16 ct16), sl16⟩) (c16 : PySem.W.codeIn K cd16 "need_placed" = true) (k16 : PySem.W.keepIn K (.ref f16) = true)
    (a17 : PySem.W.nsIn K mainGlobals "next_day" = some (some (.ref f17)))
    (l17 : K.lookup f17 = some ⟨oc17, od17, .func (PySem.W.fnOf "next_day" "next_day" (defArgs s_next_day) (defBody s_next_day) (defScope s_next_day) .none kV17 dc17 pm17 an17 cd17 ct17), sl17⟩) (c17 : PySem.W.codeIn K cd17 "next_day" = true) (k17 : PySem.W.keepIn K (.ref f17) = true)
    (a18 : PySem.W.nsIn K mainGlobals "days" = some (some (.ref f18)))
    (l18 : K.lookup f18 = some ⟨oc18, od18, .func (PySem.W.fnOf "days" "days" (defArgs s_days) (defBody s_days) (defScope s_days) .none kV18 dc18 pm18 an18 cd18 ct18), sl18⟩) (c18 : PySem.W.codeIn K cd18 "days" = true) (k18 : PySem.W.keepIn K (.ref f18) = true)
    (a19 : PySem.W.nsIn K mainGlobals "parting" = some (some (.ref f19)))
    (l19 : K.lookup f19 = some ⟨oc19, od19, .func (PySem.W.fnOf "parting" "parting" (defArgs s_parting) (defBody s_parting) (defScope s_parting) .none kV19 dc19 pm19 an19 cd19 ct19), sl19⟩) (c19 : PySem.W.codeIn K cd19 "parting" = true) (k19 : PySem.W.keepIn K (.ref f19) = true)
    (a20 : PySem.W.nsIn K mainGlobals "parts" = some (some (.ref f20)))
    (l20 : K.lookup f20 = some ⟨oc20, od20, .func (PySem.W.fnOf "parts" "parts" (defArgs s_parts) (defBody s_parts) (defScope s_parts) .none kV20 dc20 pm20 an20 cd20 ct20), sl20⟩) (c20 : PySem.W.codeIn K cd20 "parts" = true) (k20 : PySem.W.keepIn K (.ref f20) = true)
    (a21 : PySem.W.nsIn K mainGlobals "alike" = some (some (.ref f21)))
    (l21 : K.lookup f21 = some ⟨oc21, od21, .func (PySem.W.fnOf "alike" "alike" (defArgs s_alike) (defBody s_alike) (defScope s_alike) .none kV21 dc21 pm21 an21 cd21 ct21), sl21⟩) (c21 : PySem.W.codeIn K cd21 "alike" = true) (k21 : PySem.W.keepIn K (.ref f21) = true)
    (a22 : PySem.W.nsIn K mainGlobals "first_parting" = some (some (.ref f22)))
    (l22 : K.lookup f22 = some ⟨oc22, od22, .func (PySem.W.fnOf "first_parting" "first_parting" (defArgs s_first_parting) (defBody s_first_parting) (defScope s_first_parting) .none kV22 dc22 pm22 an22 cd22 ct22), sl22⟩) (c22 : PySem.W.codeIn K cd22 "first_parting" = true) (k22 : PySem.W.keepIn K (.ref f22) = true)
    (a23 : PySem.W.findIn K (.ref C_Realm) "__init__" = some (some (.ref f23))) (i23 : PySem.W.isFn K (.ref f23) = true)
    (l23 : K.lookup f23 = some ⟨oc23, od23, .func (PySem.W.fnOf "__init__" "Realm.__init__" (defArgs s_Realm_init) (defBody s_Realm_init) (defScope s_Realm_init) .none kV23 dc23 pm23 an23 cd23 ct23), sl23⟩) (c23 : PySem.W.codeIn K cd23 "Realm.__init__" = true) (k23 : PySem.W.keepIn K (.ref f23) = true)
    (a24 : PySem.W.nsIn K mainGlobals "_law_deck" = some (some (.ref f24)))
    (l24 : K.lookup f24 = some ⟨oc24, od24, .func (PySem.W.fnOf "_law_deck" "_law_deck" (defArgs s_law_deck) (defBody s_law_deck) (defScope s_law_deck) .none kV24 dc24 pm24 an24 cd24 ct24), sl24⟩) (c24 : PySem.W.codeIn K cd24 "_law_deck" = true) (k24 : PySem.W.keepIn K (.ref f24) = true)
    (a25 : PySem.W.nsIn K mainGlobals "_law_pick" = some (some (.ref f25)))
    (l25 : K.lookup f25 = some ⟨oc25, od25, .func (PySem.W.fnOf "_law_pick" "_law_pick" (defArgs s_law_pick) (defBody s_law_pick) (defScope s_law_pick) .none kV25 dc25 pm25 an25 cd25 ct25), sl25⟩) (c25 : PySem.W.codeIn K cd25 "_law_pick" = true) (k25 : PySem.W.keepIn K (.ref f25) = true)
    (a26 : PySem.W.nsIn K mainGlobals "_law_one" = some (some (.ref f26)))
    (l26 : K.lookup f26 = some ⟨oc26, od26, .func (PySem.W.fnOf "_law_one" "_law_one" (defArgs s_law_one) (defBody s_law_one) (defScope s_law_one) .none kV26 dc26 pm26 an26 cd26 ct26), sl26⟩) (c26 : PySem.W.codeIn K cd26 "_law_one" = true) (k26 : PySem.W.keepIn K (.ref f26) = true)
    (a27 : PySem.W.nsIn K mainGlobals "_law_kin" = some (some (.ref f27)))
    (l27 : K.lookup f27 = some ⟨oc27, od27, .func (PySem.W.fnOf "_law_kin" "_law_kin" (defArgs s_law_kin) (defBody s_law_kin) (defScope s_law_kin) .none kV27 dc27 pm27 an27 cd27 ct27), sl27⟩) (c27 : PySem.W.codeIn K cd27 "_law_kin" = true) (k27 : PySem.W.keepIn K (.ref f27) = true)
    (a28 : PySem.W.nsIn K mainGlobals "_law_try" = some (some (.ref f28)))
    (l28 : K.lookup f28 = some ⟨oc28, od28, .func (PySem.W.fnOf "_law_try" "_law_try" (defArgs s_law_try) (defBody s_law_try) (defScope s_law_try) .none kV28 dc28 pm28 an28 cd28 ct28), sl28⟩) (c28 : PySem.W.codeIn K cd28 "_law_try" = true) (k28 : PySem.W.keepIn K (.ref f28) = true)
    (a29 : PySem.W.nsIn K mainGlobals "_law_land" = some (some (.ref f29)))
    (l29 : K.lookup f29 = some ⟨oc29, od29, .func (PySem.W.fnOf "_law_land" "_law_land" (defArgs s_law_land) (defBody s_law_land) (defScope s_law_land) .none kV29 dc29 pm29 an29 cd29 ct29), sl29⟩) (c29 : PySem.W.codeIn K cd29 "_law_land" = true) (k29 : PySem.W.keepIn K (.ref f29) = true)
    (a30 : PySem.W.nsIn K mainGlobals "_law_any" = some (some (.ref f30)))
    (l30 : K.lookup f30 = some ⟨oc30, od30, .func (PySem.W.fnOf "_law_any" "_law_any" (defArgs s_law_any) (defBody s_law_any) (defScope s_law_any) .none kV30 dc30 pm30 an30 cd30 ct30), sl30⟩) (c30 : PySem.W.codeIn K cd30 "_law_any" = true) (k30 : PySem.W.keepIn K (.ref f30) = true)
    (a31 : PySem.W.nsIn K mainGlobals "_law_by_land" = some (some (.ref f31)))
    (l31 : K.lookup f31 = some ⟨oc31, od31, .func (PySem.W.fnOf "_law_by_land" "_law_by_land" (defArgs s_law_by_land) (defBody s_law_by_land) (defScope s_law_by_land) .none kV31 dc31 pm31 an31 (.ref cd31) ct31), sl31⟩) (c31 : PySem.W.codeIn K (.ref cd31) "_law_by_land" = true) (k31 : PySem.W.keepIn K (.ref f31) = true)
    (a32 : PySem.W.nsIn K mainGlobals "_law_by_week" = some (some (.ref f32)))
    (l32 : K.lookup f32 = some ⟨oc32, od32, .func (PySem.W.fnOf "_law_by_week" "_law_by_week" (defArgs s_law_by_week) (defBody s_law_by_week) (defScope s_law_by_week) .none kV32 dc32 pm32 an32 (.ref cd32) ct32), sl32⟩) (c32 : PySem.W.codeIn K (.ref cd32) "_law_by_week" = true) (k32 : PySem.W.keepIn K (.ref f32) = true)
    (a33 : PySem.W.nsIn K mainGlobals "_law_by_two" = some (some (.ref f33)))
    (l33 : K.lookup f33 = some ⟨oc33, od33, .func (PySem.W.fnOf "_law_by_two" "_law_by_two" (defArgs s_law_by_two) (defBody s_law_by_two) (defScope s_law_by_two) .none kV33 dc33 pm33 an33 (.ref cd33) ct33), sl33⟩) (c33 : PySem.W.codeIn K (.ref cd33) "_law_by_two" = true) (k33 : PySem.W.keepIn K (.ref f33) = true)
    (a34 : PySem.W.nsIn K mainGlobals "_law_all_told" = some (some (.ref f34)))
    (l34 : K.lookup f34 = some ⟨oc34, od34, .func (PySem.W.fnOf "_law_all_told" "_law_all_told" (defArgs s_law_all_told) (defBody s_law_all_told) (defScope s_law_all_told) .none kV34 dc34 pm34 an34 cd34 ct34), sl34⟩) (c34 : PySem.W.codeIn K cd34 "_law_all_told" = true) (k34 : PySem.W.keepIn K (.ref f34) = true)
    (a35 : PySem.W.nsIn K mainGlobals "_law_numbers_right" = some (some (.ref f35)))
    (l35 : K.lookup f35 = some ⟨oc35, od35, .func (PySem.W.fnOf "_law_numbers_right" "_law_numbers_right" (defArgs s_law_numbers_right) (defBody s_law_numbers_right) (defScope s_law_numbers_right) .none kV35 dc35 pm35 an35 (.ref cd35) ct35), sl35⟩) (c35 : PySem.W.codeIn K (.ref cd35) "_law_numbers_right" = true) (k35 : PySem.W.keepIn K (.ref f35) = true)
    (a36 : PySem.W.nsIn K mainGlobals "law" = some (some (.ref f36)))
    (l36 : K.lookup f36 = some ⟨oc36, od36, .func (PySem.W.fnOf "law" "law" (defArgs s_law) (defBody s_law) (defScope s_law) .none kV36 dc36 pm36 an36 (.ref cd36) ct36), sl36⟩) (c36 : PySem.W.codeIn K (.ref cd36) "law" = true) (k36 : PySem.W.keepIn K (.ref f36) = true)
    (tt : ∃ Pq31 Pq32 Pq33 Pq35 Pq36, (h.get? Pq31 = some { cls := .none, data := .fields #[] } ∧ PySem.W.codeHdIn K cd31 Pq31 = true ∧ K.lookup Pq31 = none) ∧ (h.get? Pq32 = some { cls := .none, data := .fields #[] } ∧ PySem.W.codeHdIn K cd32 Pq32 = true ∧ K.lookup Pq32 = none) ∧ (h.get? Pq33 = some { cls := .none, data := .fields #[] } ∧ PySem.W.codeHdIn K cd33 Pq33 = true ∧ K.lookup Pq33 = none) ∧ (h.get? Pq35 = some { cls := .none, data := .fields #[] } ∧ PySem.W.codeHdIn K cd35 Pq35 = true ∧ K.lookup Pq35 = none) ∧ (h.get? Pq36 = some { cls := .none, data := .fields #[] } ∧ PySem.W.codeHdIn K cd36 Pq36 = true ∧ K.lookup Pq36 = none) ∧ [Pq31, Pq32, Pq33, Pq35, Pq36].Nodup)
    (b_ValueError : PySem.W.nsIn K mainGlobals "ValueError" = some none)
    (b_all : PySem.W.nsIn K mainGlobals "all" = some none)
    (b_bool : PySem.W.nsIn K mainGlobals "bool" = some none)
    (b_int : PySem.W.nsIn K mainGlobals "int" = some none)
    (b_isinstance : PySem.W.nsIn K mainGlobals "isinstance" = some none)
    (b_len : PySem.W.nsIn K mainGlobals "len" = some none)
    (b_list : PySem.W.nsIn K mainGlobals "list" = some none)
    (b_range : PySem.W.nsIn K mainGlobals "range" = some none)
    (b_set : PySem.W.nsIn K mainGlobals "set" = some none)
    (b_sorted : PySem.W.nsIn K mainGlobals "sorted" = some none)
    (b_tuple : PySem.W.nsIn K mainGlobals "tuple" = some none)
    (b_zip : PySem.W.nsIn K mainGlobals "zip" = some none)
    (c_MOST_DAYS : PySem.W.nsIn K mainGlobals "MOST_DAYS" = some (some (.int 400 t_MOST_DAYS)))
    (c_MOST_BOTTOM : PySem.W.nsIn K mainGlobals "MOST_BOTTOM" = some (some (.int 60 t_MOST_BOTTOM)))
    (c_MOST_SHIFT : PySem.W.nsIn K mainGlobals "MOST_SHIFT" = some (some (.int 1000000 t_MOST_SHIFT)))
    (c_FAR : PySem.W.nsIn K mainGlobals "FAR" = some (some (.int 1000000000000000000000000000000 t_FAR)))
    (c_MOST_WEEK : PySem.W.nsIn K mainGlobals "MOST_WEEK" = some (some (.int 20 t_MOST_WEEK)))
    (aY : PySem.W.nsIn K mainGlobals "YearError" = some (some (.ref eY)))
    (n0 : PySem.W.nsIn K mainGlobals "NoLand" = some (some (.ref e0)))
    (n1 : PySem.W.nsIn K mainGlobals "NoYear" = some (some (.ref e1)))
    (n2 : PySem.W.nsIn K mainGlobals "NoDay" = some (some (.ref e2)))
    (n3 : PySem.W.nsIn K mainGlobals "NoPlace" = some (some (.ref e3)))
    (n4 : PySem.W.nsIn K mainGlobals "NoWeek" = some (some (.ref e4)))
    (n5 : PySem.W.nsIn K mainGlobals "NoName" = some (some (.ref e5)))
    (n6 : PySem.W.nsIn K mainGlobals "NoSeen" = some (some (.ref e6)))
    (n7 : PySem.W.nsIn K mainGlobals "NoNumber" = some (some (.ref e7)))
    (n8 : PySem.W.nsIn K mainGlobals "NothingLeft" = some (some (.ref e8)))
    (xe : ([e0, e1, e2, e3, e4, e5, e6, e7, e8].all (ecB K) && (errs.zip [e0, e1, e2, e3, e4, e5, e6, e7, e8]).all fun p => kinB K p.2 eY p.1 [e0, e1, e2, e3, e4, e5, e6, e7, e8]) = true) :
    LamX.LawAtS l w K CX0 12 63 "script" mg fa h := by
  have e := hfa.symm.trans (PySem.W.mg_of X G a36)
  cases e
  have R_Realm : Rm K mg "Realm" C_Realm := ⟨PySem.W.mg_of X G aC_Realm, ⟨pg_Realm, hd_Realm, po_Realm, sa_Realm⟩, nI_Realm, mk_Realm, kc_Realm⟩
  have F0 := fun_mk (st := s_is_from) l0 c0 k0
  have B0 := F0.binds (ps := ["thing", "low", "high"]) fun _ _ _ _ _ _ us hl => match us, hl with | [_, _, _], _ => rfl
  have F1 := fun_mk (st := s_is_land) l1 c1 k1
  have B1 := F1.binds (ps := ["thing"]) fun _ _ _ _ _ _ us hl => match us, hl with | [_], _ => rfl
  have F2 := fun_mk (st := s_need_land) l2 c2 k2
  have B2 := F2.binds (ps := ["land"]) fun _ _ _ _ _ _ us hl => match us, hl with | [_], _ => rfl
  have F3 := fun_mk (st := s_need_year) l3 c3 k3
  have B3 := F3.binds (ps := ["year"]) fun _ _ _ _ _ _ us hl => match us, hl with | [_], _ => rfl
  have F4 := fun_mk (st := s_need_day) l4 c4 k4
  have B4 := F4.binds (ps := ["day"]) fun _ _ _ _ _ _ us hl => match us, hl with | [_], _ => rfl
  have F5 := fun_mk (st := s_begin) l5 c5 k5
  have B5 := F5.binds (ps := ["land", "year"]) fun _ _ _ _ _ _ us hl => match us, hl with | [_, _], _ => rfl
  have F6 := fun_mk (st := s_date) l6 c6 k6
  have B6 := F6.binds (ps := ["land", "day"]) fun _ _ _ _ _ _ us hl => match us, hl with | [_, _], _ => rfl
  have F7 := fun_mk (st := s_is_long) l7 c7 k7
  have B7 := F7.binds (ps := ["land", "year"]) fun _ _ _ _ _ _ us hl => match us, hl with | [_, _], _ => rfl
  have F8 := fun_mk (st := s_next_long) l8 c8 k8
  have B8 := F8.binds (ps := ["land", "year"]) fun _ _ _ _ _ _ us hl => match us, hl with | [_, _], _ => rfl
  have F9 := fun_mk (st := s_long_years) l9 c9 k9
  have B9 := F9.binds (ps := ["land", "first", "last"]) fun _ _ _ _ _ _ us hl => match us, hl with | [_, _, _], _ => rfl
  have F10 := fun_mk (st := s_need_name) l10 c10 k10
  have B10 := F10.binds (ps := ["land", "place", "week", "name"]) fun _ _ _ _ _ _ us hl => match us, hl with | [_, _, _, _], _ => rfl
  have F11 := fun_mk (st := s_next_year) l11 c11 k11
  have B11 := F11.binds (ps := ["land", "place", "week", "name", "year"]) fun _ _ _ _ _ _ us hl => match us, hl with | [_, _, _, _, _], _ => rfl
  have F12 := fun_mk (st := s_how_many) l12 c12 k12
  have B12 := F12.binds (ps := ["land", "place", "week", "name", "first", "last"]) fun _ _ _ _ _ _ us hl => match us, hl with | [_, _, _, _, _, _], _ => rfl
  have F13 := fun_mk (st := s_lengths) l13 c13 k13
  have B13 := F13.binds (ps := ["land", "place", "week", "name"]) fun _ _ _ _ _ _ us hl => match us, hl with | [_, _, _, _], _ => rfl
  have F14 := fun_mk (st := s_barring) l14 c14 k14
  have B14 := F14.binds (ps := ["land", "place", "week", "name"]) fun _ _ _ _ _ _ us hl => match us, hl with | [_, _, _, _], _ => rfl
  have F15 := fun_mk (st := s_bars) l15 c15 k15
  have B15 := F15.binds (ps := ["land", "place", "week", "name", "thing"]) fun _ _ _ _ _ _ us hl => match us, hl with | [_, _, _, _, _], _ => rfl
  have F16 := fun_mk (st := s_need_placed) l16 c16 k16
  have B16 := F16.binds (ps := ["one", "place_one", "other", "place_other"]) fun _ _ _ _ _ _ us hl => match us, hl with | [_, _, _, _], _ => rfl
  have F17 := fun_mk (st := s_next_day) l17 c17 k17
  have B17 := F17.binds (ps := ["one", "place_one", "other", "place_other", "day"]) fun _ _ _ _ _ _ us hl => match us, hl with | [_, _, _, _, _], _ => rfl
  have F18 := fun_mk (st := s_days) l18 c18 k18
  have B18 := F18.binds (ps := ["one", "place_one", "other", "place_other", "first", "last"]) fun _ _ _ _ _ _ us hl => match us, hl with | [_, _, _, _, _, _], _ => rfl
  have F19 := fun_mk (st := s_parting) l19 c19 k19
  have B19 := F19.binds (ps := ["one", "place_one", "other", "place_other"]) fun _ _ _ _ _ _ us hl => match us, hl with | [_, _, _, _], _ => rfl
  have F20 := fun_mk (st := s_parts) l20 c20 k20
  have B20 := F20.binds (ps := ["one", "place_one", "other", "place_other", "thing"]) fun _ _ _ _ _ _ us hl => match us, hl with | [_, _, _, _, _], _ => rfl
  have F21 := fun_mk (st := s_alike) l21 c21 k21
  have B21 := F21.binds (ps := ["one", "other"]) fun _ _ _ _ _ _ us hl => match us, hl with | [_, _], _ => rfl
  have F22 := fun_mk (st := s_first_parting) l22 c22 k22
  have B22 := F22.binds (ps := ["one", "other"]) fun _ _ _ _ _ _ us hl => match us, hl with | [_, _], _ => rfl
  have F23 := fun_mk (st := s_Realm_init) l23 c23 k23
  have B23 := F23.binds (ps := ["self", "land"]) fun _ _ _ _ _ _ us hl => match us, hl with | [_, _], _ => rfl
  have F24 := fun_mk (st := s_law_deck) l24 c24 k24
  have B24 := F24.binds (ps := ["cell", "turn"]) fun _ _ _ _ _ _ us hl => match us, hl with | [_, _], _ => rfl
  have F25 := fun_mk (st := s_law_pick) l25 c25 k25
  have B25 := F25.binds (ps := ["deck", "size"]) fun _ _ _ _ _ _ us hl => match us, hl with | [_, _], _ => rfl
  have F26 := fun_mk (st := s_law_one) l26 c26 k26
  have B26 := F26.binds (ps := ["deck", "some"]) fun _ _ _ _ _ _ us hl => match us, hl with | [_, _], _ => rfl
  have F27 := fun_mk (st := s_law_kin) l27 c27 k27
  have B27 := F27.binds (ps := ["e"]) fun _ _ _ _ _ _ us hl => match us, hl with | [_], _ => rfl
  have F28 := fun_mk (st := s_law_try) l28 c28 k28
  have B28 := F28.binds (ps := ["door"]) fun _ _ _ _ _ _ us hl => match us, hl with | [_], _ => rfl
  have F29 := fun_mk (st := s_law_land) l29 c29 k29
  have B29 := F29.binds (ps := ["deck", "long_so", "bottoms", "shifts"]) fun _ _ _ _ _ _ us hl => match us, hl with | [_, _, _, _], _ => rfl
  have F30 := fun_mk (st := s_law_any) l30 c30 k30
  have B30 := F30.binds (ps := ["deck"]) fun _ _ _ _ _ _ us hl => match us, hl with | [_], _ => rfl
  have F31 := funC_mk (st := s_law_by_land) l31 c31 k31
  have B31 := (fun_mk (st := s_law_by_land) l31 c31 k31).binds (ps := ["land", "other"]) fun _ _ _ _ _ _ us hl => match us, hl with | [_, _], _ => rfl
  have F32 := funC_mk (st := s_law_by_week) l32 c32 k32
  have B32 := (fun_mk (st := s_law_by_week) l32 c32 k32).binds (ps := ["land", "place", "week", "name"]) fun _ _ _ _ _ _ us hl => match us, hl with | [_, _, _, _], _ => rfl
  have F33 := funC_mk (st := s_law_by_two) l33 c33 k33
  have B33 := (fun_mk (st := s_law_by_two) l33 c33 k33).binds (ps := ["one", "place_one", "other", "place_other"]) fun _ _ _ _ _ _ us hl => match us, hl with | [_, _, _, _], _ => rfl
  have F34 := fun_mk (st := s_law_all_told) l34 c34 k34
  have B34 := F34.binds (ps := ["doors", "word"]) fun _ _ _ _ _ _ us hl => match us, hl with | [_, _], _ => rfl
  have F35 := funC_mk (st := s_law_numbers_right) l35 c35 k35
  have B35 := (fun_mk (st := s_law_numbers_right) l35 c35 k35).binds (ps := ["land", "other"]) fun _ _ _ _ _ _ us hl => match us, hl with | [_, _], _ => rfl
  have F36 := funC_mk (st := s_law) l36 c36 k36
  have B36 := (fun_mk (st := s_law) l36 c36 k36).binds (ps := ["script"]) fun _ _ _ _ _ _ us hl => match us, hl with | [_], _ => rfl
  obtain ⟨P31, P32, P33, P35, P36, ⟨hP31, hH31, hN31⟩, ⟨hP32, hH32, hN32⟩, ⟨hP33, hH33, hN33⟩, ⟨hP35, hH35, hN35⟩, ⟨hP36, hH36, hN36⟩, hPP⟩ := tt
  rw [Bool.and_eq_true, List.all_eq_true, List.all_eq_true] at xe
  have er : Ers K mg eY e0 e1 e2 e3 e4 e5 e6 e7 e8 := ⟨PySem.W.mg_of X G aY, PySem.W.mg_of X G n0, PySem.W.mg_of X G n1, PySem.W.mg_of X G n2, PySem.W.mg_of X G n3, PySem.W.mg_of X G n4, PySem.W.mg_of X G n5, PySem.W.mg_of X G n6, PySem.W.mg_of X G n7, PySem.W.mg_of X G n8, xe.1, xe.2⟩
  have A : All K mg := ⟨⟨_, _, F0, PySem.W.mg_of X G a0, B0⟩, ⟨_, _, F1, PySem.W.mg_of X G a1, B1⟩, ⟨_, _, F2, PySem.W.mg_of X G a2, B2⟩, ⟨_, _, F3, PySem.W.mg_of X G a3, B3⟩, ⟨_, _, F4, PySem.W.mg_of X G a4, B4⟩, ⟨_, _, F5, PySem.W.mg_of X G a5, B5⟩, ⟨_, _, F6, PySem.W.mg_of X G a6, B6⟩, ⟨_, _, F7, PySem.W.mg_of X G a7, B7⟩, ⟨_, _, F8, PySem.W.mg_of X G a8, B8⟩, ⟨_, _, F9, PySem.W.mg_of X G a9, B9⟩, ⟨_, _, F10, PySem.W.mg_of X G a10, B10⟩, ⟨_, _, F11, PySem.W.mg_of X G a11, B11⟩, ⟨_, _, F12, PySem.W.mg_of X G a12, B12⟩, ⟨_, _, F13, PySem.W.mg_of X G a13, B13⟩, ⟨_, _, F14, PySem.W.mg_of X G a14, B14⟩, ⟨_, _, F15, PySem.W.mg_of X G a15, B15⟩, ⟨_, _, F16, PySem.W.mg_of X G a16, B16⟩, ⟨_, _, F17, PySem.W.mg_of X G a17, B17⟩, ⟨_, _, F18, PySem.W.mg_of X G a18, B18⟩, ⟨_, _, F19, PySem.W.mg_of X G a19, B19⟩, ⟨_, _, F20, PySem.W.mg_of X G a20, B20⟩, ⟨_, _, F21, PySem.W.mg_of X G a21, B21⟩, ⟨_, _, F22, PySem.W.mg_of X G a22, B22⟩, tm_mk R_Realm F23 ⟨a23, i23, k23⟩ B23, ⟨_, _, F24, PySem.W.mg_of X G a24, B24⟩, ⟨_, _, F25, PySem.W.mg_of X G a25, B25⟩, ⟨_, _, F26, PySem.W.mg_of X G a26, B26⟩, ⟨_, _, F27, PySem.W.mg_of X G a27, B27⟩, ⟨_, _, F28, PySem.W.mg_of X G a28, B28⟩, ⟨_, _, F29, PySem.W.mg_of X G a29, B29⟩, ⟨_, _, F30, PySem.W.mg_of X G a30, B30⟩, ⟨_, _, fun_mk (st := s_law_by_land) l31 c31 k31, PySem.W.mg_of X G a31, B31⟩, ⟨_, _, fun_mk (st := s_law_by_week) l32 c32 k32, PySem.W.mg_of X G a32, B32⟩, ⟨_, _, fun_mk (st := s_law_by_two) l33 c33 k33, PySem.W.mg_of X G a33, B33⟩, ⟨_, _, F34, PySem.W.mg_of X G a34, B34⟩, ⟨_, _, fun_mk (st := s_law_numbers_right) l35 c35 k35, PySem.W.mg_of X G a35, B35⟩, ⟨_, _, fun_mk (st := s_law) l36 c36 k36, PySem.W.mg_of X G a36, B36⟩, ⟨_, R_Realm⟩, PySem.W.mg_none_of X G b_ValueError, PySem.W.mg_none_of X G b_all, PySem.W.mg_none_of X G b_bool, PySem.W.mg_none_of X G b_int, PySem.W.mg_none_of X G b_isinstance, PySem.W.mg_none_of X G b_len, PySem.W.mg_none_of X G b_list, PySem.W.mg_none_of X G b_range, PySem.W.mg_none_of X G b_set, PySem.W.mg_none_of X G b_sorted, PySem.W.mg_none_of X G b_tuple, PySem.W.mg_none_of X G b_zip, ⟨_, _, _, _, _, _, _, _, _, _, er⟩, ⟨_, PySem.W.mg_of X G c_MOST_DAYS⟩, ⟨_, PySem.W.mg_of X G c_MOST_BOTTOM⟩, ⟨_, PySem.W.mg_of X G c_MOST_SHIFT⟩, ⟨_, PySem.W.mg_of X G c_FAR⟩, ⟨_, PySem.W.mg_of X G c_MOST_WEEK⟩⟩
  have key : ∀ p ∈ [(cd31, P31), (cd32, P32), (cd33, P33), (cd35, P35), (cd36, P36)], h.get? p.2 = some { cls := .none, data := .fields #[] } ∧ K.lookup p.2 = none ∧ PySem.W.CodeHd h p.1 p.2 := by
    intro p hp
    simp only [List.mem_cons, List.not_mem_nil, or_false] at hp
    rcases hp with rfl | rfl | rfl | rfl | rfl
    · exact ⟨hP31, hN31, PySem.W.codeHd_of_K X hH31⟩
    · exact ⟨hP32, hN32, PySem.W.codeHd_of_K X hH32⟩
    · exact ⟨hP33, hN33, PySem.W.codeHd_of_K X hH33⟩
    · exact ⟨hP35, hN35, PySem.W.codeHd_of_K X hH35⟩
    · exact ⟨hP36, hN36, PySem.W.codeHd_of_K X hH36⟩
  refine ⟨_, [(cd31, P31), (cd32, P32), (cd33, P33), (cd35, P35), (cd36, P36)], sp_start K [P31, P32, P33, P35, P36], fun p hp => (key p hp).1, fun p hp => (key p hp).2.1, fun p hp => (key p hp).2.2, fun s v => .of_eq rfl, fun H a ns hl _ hT hS => ⟨a, ns, rfl, hS, hl, fun p hp => ?_, fun _ => rfl⟩, fun base KB GB TB => fn_entry (ok_law A ⟨⟨_, _, F31, PySem.W.mg_of X G a31, B31⟩, ⟨_, _, F32, PySem.W.mg_of X G a32, B32⟩, ⟨_, _, F33, PySem.W.mg_of X G a33, B33⟩, ⟨_, _, F35, PySem.W.mg_of X G a35, B35⟩, TB (cd31, P31) (by simp), TB (cd32, P32) (by simp), TB (cd33, P33) (by simp), TB (cd35, P35) (by simp), TB (cd36, P36) (by simp)⟩ F36 hPP)⟩
  simp only [List.mem_cons, List.not_mem_nil, or_false] at hp
  rcases hp with rfl | rfl | rfl | rfl | rfl
  · exact hT (cd31, _) (by simp)
  · exact hT (cd32, _) (by simp)
  · exact hT (cd33, _) (by simp)
  · exact hT (cd35, _) (by simp)
  · exact hT (cd36, _) (by simp)
end K12
open PySem PySem.W PyProof.Rows
set_option maxHeartbeats 0 in
theorem PySem.Challenge.cw_longyears_k12_what_is_refused_holds : PySem.Challenge.rw_longyears_k12_what_is_refused.Holds := by
  w_on; o_law; k_head; (case hw => w_witness2)
  k_fill
  refine LamX.walk_ofTs (l := PySem.Challenge.rw_longyears_k12_what_is_refused) (n := 63) (k := 12) (x := "script") (CX := fun w => L2.CX0) rfl (by decide) rfl ⟨rfl, by decide, by decide⟩ (fun w h Y => PySem.W.km_in_of Y) ?F (fun _ _ _ _ _ h => h)
  case F =>
    intro w mg fa h Y KX G hmg
    have hT8 := PySem.W.km_tabs_of Y
    refine' K12.all_mk KX G hmg ?aC_Realm ?pg_Realm ?hd_Realm ?po_Realm ?sa_Realm ?mk_Realm ?kc_Realm ?nI_Realm ?a0 ?l0 ?c0 ?k0 ?a1 ?l1 ?c1 ?k1 ?a2 ?l2 ?c2 ?k2 ?a3 ?l3 ?c3 ?k3 ?a4 ?l4 ?c4 ?k4 ?a5 ?l5 ?c5 ?k5 ?a6 ?l6 ?c6 ?k6 ?a7 ?l7 ?c7 ?k7 ?a8 ?l8 ?c8 ?k8 ?a9 ?l9 ?c9 ?k9 ?a10 ?l10 ?c10 ?k10 ?a11 ?l11 ?c11 ?k11 ?a12 ?l12 ?c12 ?k12 ?a13 ?l13 ?c13 ?k13 ?a14 ?l14 ?c14 ?k14 ?a15 ?l15 ?c15 ?k15 ?a16 ?l16 ?c16 ?k16 ?a17 ?l17 ?c17 ?k17 ?a18 ?l18 ?c18 ?k18 ?a19 ?l19 ?c19 ?k19 ?a20 ?l20 ?c20 ?k20 ?a21 ?l21 ?c21 ?k21 ?a22 ?l22 ?c22 ?k22 ?a23 ?i23 ?l23 ?c23 ?k23 ?a24 ?l24 ?c24 ?k24 ?a25 ?l25 ?c25 ?k25 ?a26 ?l26 ?c26 ?k26 ?a27 ?l27 ?c27 ?k27 ?a28 ?l28 ?c28 ?k28 ?a29 ?l29 ?c29 ?k29 ?a30 ?l30 ?c30 ?k30 ?a31 ?l31 ?c31 ?k31 ?a32 ?l32 ?c32 ?k32 ?a33 ?l33 ?c33 ?k33 ?a34 ?l34 ?c34 ?k34 ?a35 ?l35 ?c35 ?k35 ?a36 ?l36 ?c36 ?k36 ?tt ?b_ValueError ?b_all ?b_bool ?b_int ?b_isinstance ?b_len ?b_list ?b_range ?b_set ?b_sorted ?b_tuple ?b_zip ?c_MOST_DAYS ?c_MOST_BOTTOM ?c_MOST_SHIFT ?c_FAR ?c_MOST_WEEK ?aY ?n0 ?n1 ?n2 ?n3 ?n4 ?n5 ?n6 ?n7 ?n8 ?xe
    (case aC_Realm => k_is); (case pg_Realm => k_is); (case hd_Realm => k_is); (case po_Realm => k_is); (case sa_Realm => k_is); (case mk_Realm => k_is); (case kc_Realm => k_is); (case nI_Realm => k_is); (case a0 => k_is); (case l0 => k_is); (case c0 => k_is); (case k0 => k_is); (case a1 => k_is); (case l1 => k_is); (case c1 => k_is); (case k1 => k_is); (case a2 => k_is); (case l2 => k_is); (case c2 => k_is); (case k2 => k_is); (case a3 => k_is); (case l3 => k_is); (case c3 => k_is); (case k3 => k_is); (case a4 => k_is); (case l4 => k_is); (case c4 => k_is); (case k4 => k_is); (case a5 => k_is); (case l5 => k_is); (case c5 => k_is); (case k5 => k_is); (case a6 => k_is); (case l6 => k_is); (case c6 => k_is); (case k6 => k_is); (case a7 => k_is); (case l7 => k_is); (case c7 => k_is); (case k7 => k_is); (case a8 => k_is); (case l8 => k_is); (case c8 => k_is); (case k8 => k_is); (case a9 => k_is); (case l9 => k_is); (case c9 => k_is); (case k9 => k_is); (case a10 => k_is); (case l10 => k_is); (case c10 => k_is); (case k10 => k_is); (case a11 => k_is); (case l11 => k_is); (case c11 => k_is); (case k11 => k_is); (case a12 => k_is); (case l12 => k_is); (case c12 => k_is); (case k12 => k_is); (case a13 => k_is); (case l13 => k_is); (case c13 => k_is); (case k13 => k_is); (case a14 => k_is); (case l14 => k_is); (case c14 => k_is); (case k14 => k_is); (case a15 => k_is); (case l15 => k_is); (case c15 => k_is); (case k15 => k_is); (case a16 => k_is); (case l16 => k_is); (case c16 => k_is); (case k16 => k_is); (case a17 => k_is); (case l17 => k_is); (case c17 => k_is); (case k17 => k_is); (case a18 => k_is); (case l18 => k_is); (case c18 => k_is); (case k18 => k_is); (case a19 => k_is); (case l19 => k_is); (case c19 => k_is); (case k19 => k_is); (case a20 => k_is); (case l20 => k_is); (case c20 => k_is); (case k20 => k_is); (case a21 => k_is); (case l21 => k_is); (case c21 => k_is); (case k21 => k_is); (case a22 => k_is); (case l22 => k_is); (case c22 => k_is); (case k22 => k_is); (case a23 => k_is); (case i23 => k_is); (case l23 => k_is); (case c23 => k_is); (case k23 => k_is); (case a24 => k_is); (case l24 => k_is); (case c24 => k_is); (case k24 => k_is); (case a25 => k_is); (case l25 => k_is); (case c25 => k_is); (case k25 => k_is); (case a26 => k_is); (case l26 => k_is); (case c26 => k_is); (case k26 => k_is); (case a27 => k_is); (case l27 => k_is); (case c27 => k_is); (case k27 => k_is); (case a28 => k_is); (case l28 => k_is); (case c28 => k_is); (case k28 => k_is); (case a29 => k_is); (case l29 => k_is); (case c29 => k_is); (case k29 => k_is); (case a30 => k_is); (case l30 => k_is); (case c30 => k_is); (case k30 => k_is); (case a31 => k_is); (case l31 => k_is); (case c31 => k_is); (case k31 => k_is); (case a32 => k_is); (case l32 => k_is); (case c32 => k_is); (case k32 => k_is); (case a33 => k_is); (case l33 => k_is); (case c33 => k_is); (case k33 => k_is); (case a34 => k_is); (case l34 => k_is); (case c34 => k_is); (case k34 => k_is); (case a35 => k_is); (case l35 => k_is); (case c35 => k_is); (case k35 => k_is); (case a36 => k_is); (case l36 => k_is); (case c36 => k_is); (case k36 => k_is); (case b_ValueError => k_is); (case b_all => k_is); (case b_bool => k_is); (case b_int => k_is); (case b_isinstance => k_is); (case b_len => k_is); (case b_list => k_is); (case b_range => k_is); (case b_set => k_is); (case b_sorted => k_is); (case b_tuple => k_is); (case b_zip => k_is); (case c_MOST_DAYS => k_is); (case c_MOST_BOTTOM => k_is); (case c_MOST_SHIFT => k_is); (case c_FAR => k_is); (case c_MOST_WEEK => k_is); (case aY => k_is); (case n0 => k_is); (case n1 => k_is); (case n2 => k_is); (case n3 => k_is); (case n4 => k_is); (case n5 => k_is); (case n6 => k_is); (case n7 => k_is); (case n8 => k_is)
    case tt => first | exact ⟨_, _, _, _, _, ⟨hT8 _ (.tail _ (.tail _ (.tail _ (.head _)))), by kernel_rfl, by kernel_rfl⟩, ⟨hT8 _ (.tail _ (.tail _ (.head _))), by kernel_rfl, by kernel_rfl⟩, ⟨hT8 _ (.tail _ (.head _)), by kernel_rfl, by kernel_rfl⟩, ⟨hT8 _ (.head _), by kernel_rfl, by kernel_rfl⟩, ⟨hT8 _ (.tail _ (.tail _ (.tail _ (.tail _ (.head _))))), by kernel_rfl, by kernel_rfl⟩, by decide⟩
    case xe => kernel_rfl
