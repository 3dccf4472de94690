/-
  Plain facts about days of the calendar: no program in sight.
-/
import Derived.KernelRfl
set_option maxRecDepth 100000
namespace Go.Proofs.YtgjchdhdopgkkaaDoor
namespace Civ

def leapB (y : Int) : Bool := y % 4 == 0 && (y % 100 != 0 || y % 400 == 0)
def lp (y : Int) : Int := if leapB y then 1 else 0
/-- days ahead of a year, from year 1 on -/
def bef (y : Int) : Int := 365 * (y - 1) + (y - 1) / 4 - (y - 1) / 100 + (y - 1) / 400
def mlen (y m : Int) : Int :=
  if m = 2 then 28 + lp y else if m = 4 then 30 else if m = 6 then 30 else if m = 9 then 30 else if m = 11 then 30 else 31
/-- days of a year ahead of a month -/
def cum (y m : Int) : Int := if m ≤ 2 then 31 * (m - 1) else 59 + lp y + (153 * (m - 3) + 2) / 5
def num (y m d : Int) : Int := bef y - 719162 + d - 1 + cum y m
def isDate (y m d : Int) : Bool := decide (1 ≤ y) && decide (y ≤ 9999) && decide (1 ≤ m) && decide (m ≤ 12) && decide (1 ≤ d) && decide (d ≤ mlen y m)

theorem isDate_iff {y m d : Int} : isDate y m d = true ↔ 1 ≤ y ∧ y ≤ 9999 ∧ 1 ≤ m ∧ m ≤ 12 ∧ 1 ≤ d ∧ d ≤ mlen y m := by
  simp [isDate, and_assoc]
theorem lp_iff (y : Int) : lp y = if y % 4 = 0 ∧ (y % 100 ≠ 0 ∨ y % 400 = 0) then 1 else 0 := by
  unfold lp leapB
  congr 1
  simp
theorem lp_01 (y : Int) : 0 ≤ lp y ∧ lp y ≤ 1 := by unfold lp; split <;> omega
theorem bef_succ (y : Int) : bef (y + 1) = bef y + 365 + lp y := by
  rw [lp_iff]; unfold bef; split <;> omega
theorem bef_mono {a b : Int} (h : a ≤ b) : bef a ≤ bef b := by unfold bef; omega
theorem bef_step {a b : Int} (h : a < b) : bef a + 365 ≤ bef b := by unfold bef; omega
theorem bef_bd {y : Int} (h0 : 1 ≤ y) (h : y ≤ 20000) : 0 ≤ bef y ∧ bef y ≤ 8000000 := by unfold bef; omega
theorem bef_1970 : bef 1970 = 719162 := by decide
theorem bef_1 : bef 1 = 0 := by decide
theorem bef_10000 : bef 10000 = 3652059 := by decide
theorem mlen_bd (y m : Int) : 28 ≤ mlen y m ∧ mlen y m ≤ 31 := by
  have := lp_01 y; unfold mlen; split <;> (try split) <;> (try split) <;> (try split) <;> (try split) <;> omega
theorem cum_succ {y m : Int} (h1 : 1 ≤ m) (h2 : m ≤ 12) : cum y (m + 1) = cum y m + mlen y m := by
  have : m = 1 ∨ m = 2 ∨ m = 3 ∨ m = 4 ∨ m = 5 ∨ m = 6 ∨ m = 7 ∨ m = 8 ∨ m = 9 ∨ m = 10 ∨ m = 11 ∨ m = 12 := by omega
  rcases this with h | h | h | h | h | h | h | h | h | h | h | h <;> subst h <;> simp [cum, mlen] <;> omega
theorem cum_1 (y : Int) : cum y 1 = 0 := by simp [cum]
theorem cum_13 (y : Int) : cum y 13 = 365 + lp y := by simp [cum]; omega
theorem cum_bd {y m : Int} (h1 : 1 ≤ m) (h2 : m ≤ 13) : 0 ≤ cum y m ∧ cum y m ≤ 366 := by
  have := lp_01 y; unfold cum; split <;> omega
theorem cum_le {y a b : Int} (h1 : 1 ≤ a) (h : a ≤ b) : cum y a ≤ cum y b := by
  have := lp_01 y; unfold cum; split <;> split <;> omega
theorem cum_mono {y a b : Int} (h1 : 1 ≤ a) (h : a < b) (h2 : b ≤ 13) : cum y a + mlen y a ≤ cum y b := by
  rw [← cum_succ (y := y) h1 (by omega)]
  exact cum_le (by omega) (by omega)

theorem num_year {y m d : Int} (h : isDate y m d = true) : bef y ≤ num y m d + 719162 ∧ num y m d + 719162 < bef (y + 1) := by
  rw [isDate_iff] at h
  have hs := bef_succ y
  have hc := cum_bd (y := y) (m := m) (by omega) (by omega)
  have : cum y m + mlen y m ≤ 365 + lp y := by rw [← cum_13]; exact cum_mono h.2.2.1 (by omega) (by omega)
  unfold num; omega
theorem num_bd {y m d : Int} (h : isDate y m d = true) : -719162 ≤ num y m d ∧ num y m d ≤ 2932896 := by
  have h1 := num_year h
  rw [isDate_iff] at h
  have a := bef_mono (a := 1) (b := y) (by omega)
  have b := bef_mono (a := y + 1) (b := 10000) (by omega)
  rw [bef_1] at a; rw [bef_10000] at b; omega

/-- the order of days is that of dates -/
theorem num_lt_year {y m d y' m' d' : Int} (h : isDate y m d = true) (h' : isDate y' m' d' = true) (hl : y < y') : num y m d < num y' m' d' := by
  have a := num_year h; have b := num_year h'
  have c := bef_mono (a := y + 1) (b := y') (by omega); omega
theorem num_lt_month {y m d m' d' : Int} (h : isDate y m d = true) (h' : isDate y m' d' = true) (hl : m < m') : num y m d < num y m' d' := by
  rw [isDate_iff] at h h'
  have := cum_mono (y := y) h.2.2.1 hl (by omega)
  unfold num; omega
theorem num_lt_iff {y m d y' m' d' : Int} (h : isDate y m d = true) (h' : isDate y' m' d' = true) :
    num y m d < num y' m' d' ↔ y < y' ∨ y = y' ∧ (m < m' ∨ m = m' ∧ d < d') := by
  constructor
  · intro hlt
    rcases Int.lt_trichotomy y y' with a | a | a
    · exact .inl a
    · subst a
      rcases Int.lt_trichotomy m m' with b | b | b
      · exact .inr ⟨rfl, .inl b⟩
      · subst b; refine .inr ⟨rfl, .inr ⟨rfl, ?_⟩⟩; unfold num at hlt; omega
      · have := num_lt_month h' h b; omega
    · have := num_lt_year h' h a; omega
  · rintro (a | ⟨rfl, a | ⟨rfl, a⟩⟩)
    · exact num_lt_year h h' a
    · exact num_lt_month h h' a
    · unfold num; omega
theorem num_inj {y m d y' m' d' : Int} (h : isDate y m d = true) (h' : isDate y' m' d' = true) (he : num y m d = num y' m' d') : y = y' ∧ m = m' ∧ d = d' := by
  have a := (num_lt_iff h h').2; have b := (num_lt_iff h' h).2
  rcases Int.lt_trichotomy y y' with c | c | c
  · have := a (.inl c); omega
  · subst c
    rcases Int.lt_trichotomy m m' with c | c | c
    · have := a (.inr ⟨rfl, .inl c⟩); omega
    · subst c; unfold num at he; exact ⟨rfl, rfl, by omega⟩
    · have := b (.inr ⟨rfl, .inl c⟩); omega
  · have := b (.inl c); omega

/-- the year of so many days from year 1 on, looked for upward; so many steps at most -/
def yrUp : Nat → Int → Int → Int
  | 0, _, y => y
  | k + 1, n, y => if bef (y + 1) ≤ n then yrUp k n (y + 1) else y
def moUp : Nat → Int → Int → Int → Int × Int
  | 0, _, m, r => (m, r)
  | k + 1, y, m, r => if mlen y m ≤ r then moUp k y (m + 1) (r - mlen y m) else (m, r)
def yrOf (days : Int) : Int := yrUp 60 (days + 719162) ((days + 719162) / 366 + 1)
def dateOf (days : Int) : Int × Int × Int :=
  let y := yrOf days
  let p := moUp 12 y 1 (days + 719162 - bef y)
  (y, p.1, p.2 + 1)

theorem yrUp_spec : ∀ (k : Nat) (n y : Int), bef y ≤ n → n < bef y + 365 * (k : Int) + 365 → bef (yrUp k n y) ≤ n ∧ n < bef (yrUp k n y + 1)
  | 0, n, y, h1, h2 => by
    simp only [yrUp]
    have := bef_succ y; have := lp_01 y
    exact ⟨h1, by simp at h2; omega⟩
  | k + 1, n, y, h1, h2 => by
    simp only [yrUp]
    split
    · rename_i h
      refine yrUp_spec k n (y + 1) h ?_
      have := bef_step (a := y) (b := y + 1) (by omega)
      simp only [Int.natCast_add, Int.cast_ofNat_Int] at h2; omega
    · exact ⟨h1, by omega⟩
theorem yr_uniq {n a b : Int} (ha : bef a ≤ n) (ha' : n < bef (a + 1)) (hb : bef b ≤ n) (hb' : n < bef (b + 1)) : a = b := by
  rcases Int.lt_trichotomy a b with c | c | c
  · have := bef_mono (a := a + 1) (b := b) (by omega); omega
  · exact c
  · have := bef_mono (a := b + 1) (b := a) (by omega); omega
theorem guess_le {n : Int} (h0 : 0 ≤ n) : bef (n / 366 + 1) ≤ n := by unfold bef; omega
theorem guess_near {n : Int} (h0 : 0 ≤ n) (h1 : n ≤ 3652058) : n < bef (n / 366 + 1) + 365 * 60 := by unfold bef; omega
theorem yrOf_spec {days : Int} (h0 : -719162 ≤ days) (h1 : days ≤ 2932896) : bef (yrOf days) ≤ days + 719162 ∧ days + 719162 < bef (yrOf days + 1) := by
  refine yrUp_spec 60 _ _ (guess_le (by omega)) ?_
  have := guess_near (n := days + 719162) (by omega) (by omega)
  simp; omega
theorem moUp_spec (y : Int) : ∀ (k : Nat) (m r : Int), 1 ≤ m → m + k = 13 → 0 ≤ r → cum y m + r < 365 + lp y →
    1 ≤ (moUp k y m r).1 ∧ (moUp k y m r).1 ≤ 12 ∧ 0 ≤ (moUp k y m r).2 ∧ (moUp k y m r).2 < mlen y (moUp k y m r).1 ∧ cum y (moUp k y m r).1 + (moUp k y m r).2 = cum y m + r
  | 0, m, r, h1, h2, h3, h4 => by
    have : m = 13 := by simpa using h2
    subst this; rw [cum_13] at h4; omega
  | k + 1, m, r, h1, h2, h3, h4 => by
    simp only [Int.natCast_add, Int.cast_ofNat_Int] at h2
    have hs := cum_succ (y := y) (m := m) h1 (by omega)
    simp only [moUp]
    split
    · rename_i h
      have ih := moUp_spec y k (m + 1) (r - mlen y m) (by omega) (by omega) (by omega) (by omega)
      omega
    · exact ⟨h1, by omega, h3, by show r < mlen y m; omega, rfl⟩
theorem dateOf_spec {days : Int} (h0 : -719162 ≤ days) (h1 : days ≤ 2932896) :
    isDate (dateOf days).1 (dateOf days).2.1 (dateOf days).2.2 = true ∧ num (dateOf days).1 (dateOf days).2.1 (dateOf days).2.2 = days := by
  have hy := yrOf_spec h0 h1
  have hs := bef_succ (yrOf days)
  have hm := moUp_spec (yrOf days) 12 1 (days + 719162 - bef (yrOf days)) (by omega) (by omega) (by omega) (by rw [cum_1]; omega)
  rw [cum_1] at hm
  rw [isDate_iff]
  have y1 : 1 ≤ yrOf days := by
    rcases Int.lt_or_le (yrOf days) 1 with c | c
    · have := bef_mono (a := yrOf days + 1) (b := 1) (by omega); rw [bef_1] at this; omega
    · exact c
  have y2 : yrOf days ≤ 9999 := by
    rcases Int.lt_or_le 9999 (yrOf days) with c | c
    · have := bef_mono (a := 10000) (b := yrOf days) (by omega); rw [bef_10000] at this; omega
    · exact c
  unfold dateOf num
  dsimp only
  refine ⟨⟨y1, y2, hm.1, hm.2.1, by omega, by omega⟩, by omega⟩
theorem dateOf_num {y m d : Int} (h : isDate y m d = true) : dateOf (num y m d) = (y, m, d) := by
  have hb := num_bd h
  have hs := dateOf_spec hb.1 hb.2
  obtain ⟨a, b, c⟩ := num_inj hs.1 h hs.2
  ext <;> simp [a, b, c]
/-- whatever date bears that number is the one -/
theorem dateOf_eq {days y m d : Int} (h : isDate y m d = true) (hn : num y m d = days) : dateOf days = (y, m, d) := by
  rw [← hn]; exact dateOf_num h

def wd (n : Int) : Int := (n + 4) % 7
theorem wd_bd (n : Int) : 0 ≤ wd n ∧ wd n ≤ 6 := by unfold wd; omega
theorem tmod7 (n : Int) : n.tmod 7 = if 0 ≤ n then n % 7 else -((-n) % 7) := by
  split
  · rename_i h; exact Int.tmod_eq_emod_of_nonneg h
  · rename_i h
    have : n = - (-n) := by omega
    rw [this, Int.neg_tmod, Int.tmod_eq_emod_of_nonneg (by omega)]; simp
theorem wd_go (n : Int) : (((n.tmod 7 + 4).tmod 7) + 7).tmod 7 = wd n := by
  simp only [tmod7, wd]
  repeat' split
  all_goals omega

end Civ
end Go.Proofs.YtgjchdhdopgkkaaDoor
