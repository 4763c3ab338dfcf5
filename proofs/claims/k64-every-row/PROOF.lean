import PyProof.Rows.All
import Wide.All
import OpenK.AllK
import Wide.FinOn
import PySem.Challenge.RW_everyplace_k64_whole_every_row_can_be
import HandS.ForMost
import HandS.Evl
import HandS.Codes
import HandS.IsInst
import HandS.WideBits
import HandS.More
import HandS.Zip
import KE.GoesZip
import KE.GoesMore
set_option Elab.async false
set_option linter.all false
set_option maxRecDepth 100000
set_option maxHeartbeats 4000000
namespace K64
/-! ### primes, numbers free of squares (plain Lean) -/
def Pr (p : Nat) : Prop := 2 ≤ p ∧ ∀ m, m ∣ p → m = 1 ∨ m = p
def Rough (d n : Nat) : Prop := ∀ m, 2 ≤ m → m < d → ¬ m ∣ n
def SqF (n : Nat) : Prop := ∀ t, t * t ∣ n → t = 1
theorem Pr.two {p : Nat} (h : Pr p) : 2 ≤ p := h.1
theorem Pr.pos {p : Nat} (h : Pr p) : 0 < p := Nat.lt_of_lt_of_le (by decide) h.1
theorem Pr.cop {p a : Nat} (h : Pr p) (n : ¬ p ∣ a) : Nat.Coprime p a := by
  rcases h.2 (Nat.gcd p a) (Nat.gcd_dvd_left p a) with e | e
  · exact e
  · exact absurd (e ▸ Nat.gcd_dvd_right p a) n
theorem Pr.euclid {p a b : Nat} (h : Pr p) (d : p ∣ a * b) : p ∣ a ∨ p ∣ b := by
  by_cases n : p ∣ a
  · exact .inl n
  · exact .inr ((h.cop n).dvd_of_dvd_mul_left d)
theorem Pr.dvd_pow {p a : Nat} (h : Pr p) : ∀ {n : Nat}, p ∣ a ^ n → p ∣ a
  | 0, d => by
    rw [Nat.pow_zero] at d
    have := Nat.le_of_dvd (by decide) d
    have := h.two
    omega
  | n + 1, d => by
    rw [Nat.pow_succ] at d
    rcases h.euclid d with d | d
    · exact h.dvd_pow d
    · exact d
theorem Pr.eq {p q : Nat} (h : Pr p) (g : Pr q) (d : p ∣ q) : p = q := by
  rcases g.2 p d with e | e
  · have := h.two
    omega
  · exact e
theorem Pr.not_one {p : Nat} (h : Pr p) : ¬ p ∣ 1 := fun d => by
  have := Nat.le_of_dvd (by decide) d
  have := h.two
  omega
theorem pr_of_rough {d n : Nat} (h2 : 2 ≤ n) (r : Rough d n) (hd : n < d * d) : Pr n := by
  refine ⟨h2, fun m ⟨c, e⟩ => ?_⟩
  have hm0 : m ≠ 0 := by
    rintro rfl
    omega
  have hc0 : c ≠ 0 := by
    rintro rfl
    omega
  by_cases m1 : m = 1
  · exact .inl m1
  by_cases c1 : c = 1
  · subst c1
    exact .inr (by omega)
  exfalso
  have dm : d ≤ m := Nat.le_of_not_lt fun lt => r m (by omega) lt ⟨c, e⟩
  have dc : d ≤ c := Nat.le_of_not_lt fun lt => r c (by omega) lt ⟨m, by rw [Nat.mul_comm]; exact e⟩
  have := Nat.mul_le_mul dm dc
  omega
theorem Rough.pr {d n : Nat} (r : Rough d n) (h2 : 2 ≤ d) (h : d ∣ n) : Pr d := by
  refine ⟨h2, fun m hm => ?_⟩
  by_cases m1 : m = 1
  · exact .inl m1
  have m0 : m ≠ 0 := by
    rintro rfl
    have := Nat.eq_zero_of_zero_dvd hm
    omega
  have le := Nat.le_of_dvd (by omega) hm
  by_cases md : m = d
  · exact .inr md
  · exact absurd (Nat.dvd_trans hm h) (r m (by omega) (by omega))
theorem exists_pr : ∀ n : Nat, 2 ≤ n → ∃ p, Pr p ∧ p ∣ n := by
  intro n
  induction n using Nat.strongRecOn with
  | ind n ih =>
    intro h
    by_cases hp : Pr n
    · exact ⟨n, hp, Nat.dvd_refl n⟩
    · have : ∃ m, m ∣ n ∧ m ≠ 1 ∧ m ≠ n := by
        apply Classical.byContradiction
        intro hn
        apply hp
        refine ⟨h, fun m hm => ?_⟩
        by_cases m1 : m = 1
        · exact .inl m1
        by_cases mn : m = n
        · exact .inr mn
        exact absurd ⟨m, hm, m1, mn⟩ hn
      obtain ⟨m, hm, m1, mn⟩ := this
      have m0 : m ≠ 0 := by
        rintro rfl
        have := Nat.eq_zero_of_zero_dvd hm
        omega
      have le := Nat.le_of_dvd (by omega) hm
      obtain ⟨p, pp, pd⟩ := ih m (by omega) (by omega)
      exact ⟨p, pp, Nat.dvd_trans pd hm⟩
theorem sqf_of_pr {n : Nat} (h : ∀ p, Pr p → ¬ p * p ∣ n) : SqF n := by
  intro t ht
  by_cases t1 : t = 1
  · exact t1
  exfalso
  by_cases t0 : t = 0
  · subst t0
    have n0 := Nat.eq_zero_of_zero_dvd ht
    subst n0
    exact h 2 ⟨Nat.le_refl 2, fun m hm => by
      have := Nat.le_of_dvd (by decide) hm
      have : m ≠ 0 := by
        rintro rfl
        have := Nat.eq_zero_of_zero_dvd hm
        omega
      omega⟩ (Nat.dvd_zero _)
  obtain ⟨p, pp, pd⟩ := exists_pr t (by omega)
  exact h p pp (Nat.dvd_trans (Nat.mul_dvd_mul pd pd) ht)
theorem SqF.pr {n p : Nat} (h : SqF n) (pp : Pr p) : ¬ p * p ∣ n := fun d => by
  have := h p d
  have := pp.two
  omega
theorem SqF.of_dvd {a b : Nat} (h : SqF b) (d : a ∣ b) : SqF a := fun t ht => h t (Nat.dvd_trans ht d)
theorem SqF.ne0 {n : Nat} (h : SqF n) : n ≠ 0 := by
  rintro rfl
  have := h 2 (Nat.dvd_zero _)
  omega
theorem sqf_one : SqF 1 := fun t ht => by
  have := Nat.le_of_dvd (by decide) ht
  have t0 : t ≠ 0 := by
    rintro rfl
    simp at ht
  have : t * t = 1 := by
    have := Nat.mul_pos (Nat.pos_of_ne_zero t0) (Nat.pos_of_ne_zero t0)
    omega
  exact Nat.eq_one_of_mul_eq_one_right this
theorem SqF.mul {a b : Nat} (ha : SqF a) (hb : SqF b) (c : ∀ p, Pr p → p ∣ a → ¬ p ∣ b) : SqF (a * b) := by
  refine sqf_of_pr fun p pp d => ?_
  by_cases pa : p ∣ a
  · have nb := c p pp pa
    have cop : Nat.Coprime (p * p) b := Nat.Coprime.mul_left (pp.cop nb) (pp.cop nb)
    exact ha.pr pp (cop.dvd_of_dvd_mul_right d)
  · have cop : Nat.Coprime (p * p) a := Nat.Coprime.mul_left (pp.cop pa) (pp.cop pa)
    exact hb.pr pp (cop.dvd_of_dvd_mul_left d)
theorem Pr.sqf {p : Nat} (h : Pr p) : SqF p := by
  refine sqf_of_pr fun q qq d => ?_
  have e : q = p := qq.eq h (Nat.dvd_trans (Nat.dvd_mul_right q q) d)
  subst e
  have := Nat.le_of_dvd h.pos d
  have := Nat.mul_le_mul_right q h.two
  have := h.two
  omega
theorem SqF.uniq {f g t s : Nat} (hf : SqF f) (hg : SqF g) (t0 : 0 < t) (s0 : 0 < s) (e : f * (t * t) = g * (s * s)) : f = g := by
  have d0 : 0 < Nat.gcd t s := Nat.gcd_pos_of_pos_left s t0
  have et : t / Nat.gcd t s * Nat.gcd t s = t := Nat.div_mul_cancel (Nat.gcd_dvd_left t s)
  have es : s / Nat.gcd t s * Nat.gcd t s = s := Nat.div_mul_cancel (Nat.gcd_dvd_right t s)
  have cop : Nat.Coprime (t / Nat.gcd t s) (s / Nat.gcd t s) := Nat.coprime_div_gcd_div_gcd d0
  generalize Nat.gcd t s = d at *
  generalize t / d = x at *
  generalize s / d = y at *
  subst et es
  have e2 : f * (x * x) = g * (y * y) := by
    have h1 : f * (x * d * (x * d)) = (f * (x * x)) * (d * d) := by
      simp only [Nat.mul_assoc, Nat.mul_left_comm, Nat.mul_comm]
    have h2 : g * (y * d * (y * d)) = (g * (y * y)) * (d * d) := by
      simp only [Nat.mul_assoc, Nat.mul_left_comm, Nat.mul_comm]
    rw [h1, h2] at e
    exact Nat.eq_of_mul_eq_mul_right (Nat.mul_pos d0 d0) e
  have cop2 : Nat.Coprime (x * x) (y * y) := Nat.Coprime.mul_left (Nat.Coprime.mul_right cop cop) (Nat.Coprime.mul_right cop cop)
  have x1 : x = 1 := hg x (cop2.dvd_of_dvd_mul_right ⟨f, by rw [Nat.mul_comm (x * x) f]; exact e2.symm⟩)
  have y1 : y = 1 := hf y (cop2.symm.dvd_of_dvd_mul_right ⟨g, by rw [Nat.mul_comm (y * y) g]; exact e2⟩)
  subst x1 y1
  simpa using e2
/-! ### how often p goes into k, and what is left -/
def vOf (p : Int) : Nat → Int → Nat
  | 0, _ => 0
  | n + 1, k => if k % p = 0 then vOf p n (k / p) + 1 else 0
def ord (p k : Int) : Nat := vOf p k.natAbs k
def unit (p k : Int) : Int := k / p ^ ord p k
/-- k is p ^ a times u, p does not divide u -/
def Spl (p k : Int) (a : Nat) (u : Int) : Prop := k = p ^ a * u ∧ ¬ p ∣ u
theorem Spl.uniq {p k u v : Int} {a b : Nat} (h2 : 2 ≤ p) (h : Spl p k a u) (g : Spl p k b v) : a = b ∧ u = v := by
  have aux : ∀ (a b : Nat) (u v : Int), a ≤ b → p ^ a * u = p ^ b * v → ¬ p ∣ u → a = b ∧ u = v := by
    intro a b u v hab e nu
    obtain ⟨c, rfl⟩ := Nat.le.dest hab
    have pa : p ^ a ≠ 0 := Int.pow_ne_zero (by omega)
    rw [Int.pow_add, Int.mul_assoc] at e
    have e2 : u = p ^ c * v := Int.eq_of_mul_eq_mul_left pa e
    cases c with
    | zero => simpa using e2
    | succ c =>
      exfalso
      apply nu
      rw [e2, Int.pow_succ, Int.mul_comm (p ^ c) p, Int.mul_assoc]
      exact ⟨_, rfl⟩
  obtain ⟨h1, hn⟩ := h
  obtain ⟨g1, gn⟩ := g
  rcases Nat.le_total a b with l | l
  · exact aux a b u v l (h1.symm.trans g1) hn
  · obtain ⟨e1, e2⟩ := aux b a v u l (g1.symm.trans h1) gn
    exact ⟨e1.symm, e2.symm⟩
theorem vOf_spl {p : Int} (h2 : 2 ≤ p) : ∀ (n : Nat) (k : Int), k ≠ 0 → k.natAbs ≤ n → Spl p k (vOf p n k) (k / p ^ vOf p n k) := by
  intro n
  induction n with
  | zero => intro k h0 hn; omega
  | succ n ih =>
    intro k h0 hn
    unfold vOf
    by_cases hk : k % p = 0
    · rw [if_pos hk]
      obtain ⟨c, rfl⟩ := Int.dvd_of_emod_eq_zero hk
      have p0 : p ≠ 0 := by omega
      have ec : p * c / p = c := Int.mul_ediv_cancel_left c p0
      rw [ec]
      have c0 : c ≠ 0 := by
        rintro rfl
        simp at h0
      have hc : c.natAbs ≤ n := by
        have e := Int.natAbs_mul p c
        have hp : 2 ≤ p.natAbs := by omega
        have hm := Nat.mul_le_mul_right c.natAbs hp
        omega
      obtain ⟨i1, i2⟩ := ih c c0 hc
      have ed : p * c / p ^ (vOf p n c + 1) = c / p ^ vOf p n c := by
        rw [Int.pow_succ, Int.mul_comm (p ^ vOf p n c) p]
        exact Int.mul_ediv_mul_of_pos _ _ (by omega)
      rw [ed]
      refine ⟨?_, i2⟩
      rw [Int.pow_succ, Int.mul_comm (p ^ vOf p n c) p, Int.mul_assoc, ← i1]
    · rw [if_neg hk]
      refine ⟨by simp, ?_⟩
      simp only [Int.pow_zero, Int.ediv_one]
      exact fun d => hk (Int.emod_eq_zero_of_dvd d)
theorem spl {p k : Int} (h2 : 2 ≤ p) (h0 : k ≠ 0) : Spl p k (ord p k) (unit p k) := vOf_spl h2 _ k h0 (Nat.le_refl _)
theorem Spl.is {p k u : Int} {a : Nat} (h2 : 2 ≤ p) (h0 : k ≠ 0) (h : Spl p k a u) : ord p k = a ∧ unit p k = u := (spl h2 h0).uniq h2 h
theorem unit_ne0 {p k : Int} (h2 : 2 ≤ p) (h0 : k ≠ 0) : unit p k ≠ 0 := fun e => by
  have := (spl h2 h0).2
  rw [e] at this
  exact this ⟨0, by simp⟩
theorem unit_nd {p k : Int} (h2 : 2 ≤ p) (h0 : k ≠ 0) : ¬ p ∣ unit p k := (spl h2 h0).2
theorem ord_unit {p k : Int} (h2 : 2 ≤ p) (h0 : k ≠ 0) (n : ¬ p ∣ k) : ord p k = 0 ∧ unit p k = k := Spl.is h2 h0 ⟨by simp, n⟩
/-- a prime that is handed in as an int -/
def Eu (p : Int) : Prop := 2 ≤ p ∧ ∀ a b : Int, p ∣ a * b → p ∣ a ∨ p ∣ b
theorem Pr.eu {p : Nat} (h : Pr p) : Eu (p : Int) := by
  refine ⟨by have := h.two; omega, fun a b d => ?_⟩
  have d' : p ∣ a.natAbs * b.natAbs := by
    rw [← Int.natAbs_mul]
    exact Int.ofNat_dvd_left.mp d
  rcases h.euclid d' with e | e
  · exact .inl (Int.ofNat_dvd_left.mpr e)
  · exact .inr (Int.ofNat_dvd_left.mpr e)
theorem ord_mul {p a b : Int} (e : Eu p) (ha : a ≠ 0) (hb : b ≠ 0) : ord p (a * b) = ord p a + ord p b ∧ unit p (a * b) = unit p a * unit p b := by
  refine Spl.is e.1 (Int.mul_ne_zero ha hb) ⟨?_, fun d => ?_⟩
  · have h1 := (spl e.1 ha).1
    have h2 := (spl e.1 hb).1
    rw [Int.pow_add]
    have : p ^ ord p a * p ^ ord p b * (unit p a * unit p b) = (p ^ ord p a * unit p a) * (p ^ ord p b * unit p b) := by
      simp only [Int.mul_assoc, Int.mul_left_comm, Int.mul_comm]
    rw [this, ← h1, ← h2]
  · rcases e.2 _ _ d with d | d
    · exact unit_nd e.1 ha d
    · exact unit_nd e.1 hb d
theorem ord_le {p k : Int} (h2 : 2 ≤ p) (h0 : k ≠ 0) : (ord p k : Int) < k.natAbs ∧ (unit p k).natAbs ≤ k.natAbs := by
  have h := (spl h2 h0).1
  have hu := unit_ne0 h2 h0
  generalize unit p k = u at *
  generalize ord p k = a at *
  have e : k.natAbs = p.natAbs ^ a * u.natAbs := by
    rw [h, Int.natAbs_mul, Int.natAbs_pow]
  have hp : 2 ≤ p.natAbs := by omega
  have h1 : a < 2 ^ a := Nat.lt_two_pow_self
  have h3 : 2 ^ a ≤ p.natAbs ^ a := Nat.pow_le_pow_left hp a
  have u1 : 1 ≤ u.natAbs := by omega
  have h4 : p.natAbs ^ a * 1 ≤ p.natAbs ^ a * u.natAbs := Nat.mul_le_mul_left _ u1
  have h5 : 1 * u.natAbs ≤ p.natAbs ^ a * u.natAbs := Nat.mul_le_mul_right _ (by omega)
  omega
/-! ### what a place says: a bilinear form of classes -/
def sq (u p : Int) : Int := if u % p = 0 then 0 else if p = 2 ∨ u ^ ((p - 1) / 2).toNat % p = 1 then 1 else -1
def turns2 (a b : Int) : Int := (unit 2 a - 1) / 2 * ((unit 2 b - 1) / 2) + ord 2 a * ((unit 2 b * unit 2 b - 1) / 8) + ord 2 b * ((unit 2 a * unit 2 a - 1) / 8)
def turnsP (a b p : Int) : Int := ord p a * ord p b * ((p - 1) / 2) + (if sq (unit p a) p = -1 then (ord p b : Int) else 0) + (if sq (unit p b) p = -1 then (ord p a : Int) else 0)
def saysB (a b p : Int) : Bool :=
  if p = 0 then decide (0 < a) || decide (0 < b) else if p = 2 then decide (turns2 a b % 2 = 0) else decide (turnsP a b p % 2 = 0)
def hb (p a b : Int) : Bool := !saysB a b p
def odd (m : Int) : Bool := decide (m % 2 = 1)
theorem odd_add (m n : Int) : odd (m + n) = (odd m ^^ odd n) := by
  unfold odd
  rcases Int.emod_two_eq m with h | h <;> rcases Int.emod_two_eq n with g | g
  · rw [show (m + n) % 2 = 0 by omega, h, g]; rfl
  · rw [show (m + n) % 2 = 1 by omega, h, g]; rfl
  · rw [show (m + n) % 2 = 1 by omega, h, g]; rfl
  · rw [show (m + n) % 2 = 0 by omega, h, g]; rfl
theorem odd_mul (m n : Int) : odd (m * n) = (odd m && odd n) := by
  unfold odd
  rw [Int.mul_emod]
  rcases Int.emod_two_eq m with h | h <;> rcases Int.emod_two_eq n with g | g <;> rw [h, g] <;> rfl
theorem not_odd (m : Int) : decide (m % 2 = 0) = !odd m := by
  unfold odd
  rcases Int.emod_two_eq m with h | h <;> rw [h] <;> rfl
theorem odd_ite (c : Prop) [Decidable c] (m : Int) : odd (if c then m else 0) = (decide c && odd m) := by
  by_cases h : c
  · rw [if_pos h, decide_eq_true h, Bool.true_and]
  · rw [if_neg h, decide_eq_false h, Bool.false_and]; rfl
abbrev B3 : Type := Bool × Bool × Bool
def cls (p a : Int) : B3 :=
  if p = 0 then (decide (a < 0), false, false)
  else if p = 2 then (odd (ord 2 a), odd ((unit 2 a - 1) / 2), odd ((unit 2 a * unit 2 a - 1) / 8))
  else (odd (ord p a), decide (sq (unit p a) p = -1), false)
def bil (p : Int) (x y : B3) : Bool :=
  if p = 0 then x.1 && y.1 else if p = 2 then ((x.2.1 && y.2.1) ^^ (x.1 && y.2.2)) ^^ (y.1 && x.2.2)
  else ((x.1 && y.1 && odd ((p - 1) / 2)) ^^ (x.2.1 && y.1)) ^^ (y.2.1 && x.1)
def xo (x y : B3) : B3 := (x.1 ^^ y.1, x.2.1 ^^ y.2.1, x.2.2 ^^ y.2.2)
theorem hb_cls {p a b : Int} (ha : a ≠ 0) (hb' : b ≠ 0) : hb p a b = bil p (cls p a) (cls p b) := by
  unfold hb saysB bil cls
  by_cases h0 : p = 0
  · simp only [if_pos h0]
    rw [Bool.not_or]
    congr 1
    · rw [← decide_not]; exact decide_eq_decide.mpr (by omega)
    · rw [← decide_not]; exact decide_eq_decide.mpr (by omega)
  simp only [if_neg h0]
  by_cases h2 : p = 2
  · simp only [if_pos h2, not_odd, Bool.not_not]
    unfold turns2
    simp only [odd_add, odd_mul]
  · simp only [if_neg h2, not_odd, Bool.not_not]
    unfold turnsP
    simp only [odd_add, odd_mul, odd_ite]
def P7 : List Int := [0, 2, 3, 5, 7, 11, 13]
def P5 : List Int := [3, 5, 7, 11, 13]
theorem pr_small {p : Nat} (h : p ∈ [2, 3, 5, 7, 11, 13]) : Pr p := by
  have aux : ∀ p ∈ [2, 3, 5, 7, 11, 13], 2 ≤ p ∧ p < 14 ∧ ∀ m, m < 14 → m ∣ p → m = 1 ∨ m = p := by decide +kernel
  obtain ⟨h2, hl, h⟩ := aux p h
  exact ⟨h2, fun m hm => h m (by have := Nat.le_of_dvd (by omega) hm; omega) hm⟩
theorem eu_small {p : Int} (h : p ∈ P7) (h0 : p ≠ 0) : Eu p := by
  have aux : ∃ q : Nat, q ∈ [2, 3, 5, 7, 11, 13] ∧ (q : Int) = p := by
    simp only [P7, List.mem_cons, List.not_mem_nil, or_false] at h
    rcases h with h | h | h | h | h | h | h
    · exact absurd h h0
    · exact ⟨2, by decide, h.symm⟩
    · exact ⟨3, by decide, h.symm⟩
    · exact ⟨5, by decide, h.symm⟩
    · exact ⟨7, by decide, h.symm⟩
    · exact ⟨11, by decide, h.symm⟩
    · exact ⟨13, by decide, h.symm⟩
  obtain ⟨q, hq, rfl⟩ := aux
  exact (pr_small hq).eu
theorem pow_mod (u p : Int) : ∀ n : Nat, u ^ n % p = (u % p) ^ n % p
  | 0 => by simp
  | n + 1 => by
    rw [Int.pow_succ, Int.pow_succ, Int.mul_emod, pow_mod u p n, Int.mul_emod ((u % p) ^ n) (u % p), Int.emod_emod_of_dvd u (Int.dvd_refl p)]
theorem sq_mod (u p : Int) : sq u p = sq (u % p) p := by
  unfold sq
  rw [Int.emod_emod_of_dvd u (Int.dvd_refl p), pow_mod u p]
def nres (u p : Int) : Bool := decide (sq u p = -1)
theorem nres_table : ∀ p ∈ P5, ∀ (x : Nat), x < 13 → ∀ (y : Nat), y < 13 → (x : Int) % p ≠ 0 → (y : Int) % p ≠ 0 → nres ((x : Int) * (y : Int)) p = (nres (x : Int) p ^^ nres (y : Int) p) := by
  decide +kernel
theorem nres_mul {p u v : Int} (hp : p ∈ P5) (hu : ¬ p ∣ u) (hv : ¬ p ∣ v) : nres (u * v) p = (nres u p ^^ nres v p) := by
  have pb : 2 ≤ p ∧ p ≤ 13 := by
    simp only [P5, List.mem_cons, List.not_mem_nil, or_false] at hp
    omega
  have e1 : nres (u * v) p = nres (u % p * (v % p)) p := by
    unfold nres
    rw [sq_mod (u * v), Int.mul_emod, ← sq_mod]
  have e2 : nres u p = nres (u % p) p := by
    unfold nres
    rw [sq_mod u]
  have e3 : nres v p = nres (v % p) p := by
    unfold nres
    rw [sq_mod v]
  rw [e1, e2, e3]
  have u1 := Int.emod_nonneg u (show p ≠ 0 by omega)
  have u2 := Int.emod_lt_of_pos u (show 0 < p by omega)
  have v1 := Int.emod_nonneg v (show p ≠ 0 by omega)
  have v2 := Int.emod_lt_of_pos v (show 0 < p by omega)
  have nu : u % p ≠ 0 := fun e => hu (Int.dvd_of_emod_eq_zero e)
  have nv : v % p ≠ 0 := fun e => hv (Int.dvd_of_emod_eq_zero e)
  obtain ⟨x, hx⟩ := Int.eq_ofNat_of_zero_le u1
  obtain ⟨y, hy⟩ := Int.eq_ofNat_of_zero_le v1
  have mu : u % p % p ≠ 0 := by rw [Int.emod_emod_of_dvd u (Int.dvd_refl p)]; exact nu
  have mv : v % p % p ≠ 0 := by rw [Int.emod_emod_of_dvd v (Int.dvd_refl p)]; exact nv
  rw [hx] at mu u2 ⊢
  rw [hy] at mv v2 ⊢
  exact nres_table p hp x (by omega) y (by omega) mu mv
theorem odd_half {u v : Int} (hu : u % 2 = 1) (hv : v % 2 = 1) : odd ((u * v - 1) / 2) = (odd ((u - 1) / 2) ^^ odd ((v - 1) / 2)) := by
  obtain ⟨x, rfl⟩ : ∃ x, u = 2 * x + 1 := ⟨u / 2, by omega⟩
  obtain ⟨y, rfl⟩ : ∃ y, v = 2 * y + 1 := ⟨v / 2, by omega⟩
  have e : (2 * x + 1) * (2 * y + 1) = 2 * (2 * (x * y) + x + y) + 1 := by
    simp only [Int.add_mul, Int.mul_add, Int.mul_assoc, Int.one_mul, Int.mul_one, Int.mul_left_comm x 2 y]
    omega
  rw [e, show (2 * (2 * (x * y) + x + y) + 1 - 1) / 2 = 2 * (x * y) + (x + y) by omega, show (2 * x + 1 - 1) / 2 = x by omega, show (2 * y + 1 - 1) / 2 = y by omega]
  rw [odd_add, odd_add, odd_mul]
  show (false ^^ _) = _
  rw [Bool.false_xor]
theorem odd_eighth {u v : Int} (hu : u % 2 = 1) (hv : v % 2 = 1) : odd ((u * v * (u * v) - 1) / 8) = (odd ((u * u - 1) / 8) ^^ odd ((v * v - 1) / 8)) := by
  have sq8 : ∀ w : Int, w % 2 = 1 → ∃ z, w * w = 8 * z + 1 := by
    intro w hw
    obtain ⟨x, rfl⟩ : ∃ x, w = 2 * x + 1 := ⟨w / 2, by omega⟩
    have e : (2 * x + 1) * (2 * x + 1) = 4 * (x * (x + 1)) + 1 := by
      simp only [Int.add_mul, Int.mul_add, Int.mul_assoc, Int.one_mul, Int.mul_one, Int.mul_left_comm x 2 x]
      omega
    have ev : x * (x + 1) % 2 = 0 := by
      rw [Int.mul_emod]
      rcases Int.emod_two_eq x with h | h
      · rw [h]; simp
      · rw [show (x + 1) % 2 = 0 by omega]; simp
    exact ⟨x * (x + 1) / 2, by rw [e]; omega⟩
  obtain ⟨a, ha⟩ := sq8 u hu
  obtain ⟨b, hb⟩ := sq8 v hv
  have e : u * v * (u * v) = 8 * (8 * (a * b) + a + b) + 1 := by
    have : u * v * (u * v) = (u * u) * (v * v) := by simp only [Int.mul_assoc, Int.mul_left_comm, Int.mul_comm]
    rw [this, ha, hb]
    simp only [Int.add_mul, Int.mul_add, Int.mul_assoc, Int.one_mul, Int.mul_one, Int.mul_left_comm a 8 b]
    omega
  rw [e, ha, hb, show (8 * (8 * (a * b) + a + b) + 1 - 1) / 8 = 8 * (a * b) + (a + b) by omega, show (8 * a + 1 - 1) / 8 = a by omega, show (8 * b + 1 - 1) / 8 = b by omega]
  rw [odd_add, odd_add, odd_mul]
  show (false ^^ _) = _
  rw [Bool.false_xor]
theorem cls_mul {p a b : Int} (hp : p ∈ P7) (ha : a ≠ 0) (hb : b ≠ 0) : cls p (a * b) = xo (cls p a) (cls p b) := by
  unfold cls xo
  by_cases h0 : p = 0
  · simp only [if_pos h0]
    have : decide (a * b < 0) = (decide (a < 0) ^^ decide (b < 0)) := by
      rcases Int.lt_or_gt_of_ne ha with h | h <;> rcases Int.lt_or_gt_of_ne hb with g | g
      · have := Int.mul_pos_of_neg_of_neg h g
        rw [decide_eq_false (show ¬ a * b < 0 by omega), decide_eq_true h, decide_eq_true g]; rfl
      · have := Int.mul_neg_of_neg_of_pos h g
        rw [decide_eq_true this, decide_eq_true h, decide_eq_false (show ¬ b < 0 by omega)]; rfl
      · have := Int.mul_neg_of_pos_of_neg h g
        rw [decide_eq_true this, decide_eq_false (show ¬ a < 0 by omega), decide_eq_true g]; rfl
      · have := Int.mul_pos h g
        rw [decide_eq_false (show ¬ a * b < 0 by omega), decide_eq_false (show ¬ a < 0 by omega), decide_eq_false (show ¬ b < 0 by omega)]; rfl
    rw [this]; rfl
  have eu := eu_small hp h0
  obtain ⟨o, u⟩ := ord_mul eu ha hb
  have na := unit_nd eu.1 ha
  have nb := unit_nd eu.1 hb
  simp only [if_neg h0]
  by_cases h2 : p = 2
  · subst h2
    simp only [if_true]
    rw [o, u]
    have oa : unit 2 a % 2 = 1 := by omega
    have ob : unit 2 b % 2 = 1 := by omega
    rw [odd_half oa ob, odd_eighth oa ob]
    have : odd ((ord 2 a + ord 2 b : Nat) : Int) = (odd (ord 2 a) ^^ odd (ord 2 b)) := by
      rw [← odd_add]; rfl
    rw [this]
  · simp only [if_neg h2]
    rw [o, u]
    have : odd ((ord p a + ord p b : Nat) : Int) = (odd (ord p a) ^^ odd (ord p b)) := by
      rw [← odd_add]; rfl
    rw [this]
    have p5 : p ∈ P5 := by
      simp only [P7, P5, List.mem_cons, List.not_mem_nil, or_false] at hp ⊢
      omega
    have := nres_mul p5 na nb
    unfold nres at this
    rw [this]; rfl
theorem bil_add : ∀ p ∈ P7, ∀ x1 x2 x3 y1 y2 y3 z1 z2 z3 : Bool, bil p (xo (x1, x2, x3) (y1, y2, y3)) (z1, z2, z3) = (bil p (x1, x2, x3) (z1, z2, z3) ^^ bil p (y1, y2, y3) (z1, z2, z3)) := by
  decide +kernel
theorem bil_sym : ∀ p ∈ P7, ∀ x1 x2 x3 y1 y2 y3 : Bool, bil p (x1, x2, x3) (y1, y2, y3) = bil p (y1, y2, y3) (x1, x2, x3) := by
  decide +kernel
theorem bil_self : ∀ p ∈ P7, ∀ x1 x2 x3 : Bool, (p ≠ 0 ∨ x2 = false) → (p = 0 → x3 = false) → bil p (x1, x2, x3) (xo (cls p (-1)) (x1, x2, x3)) = false := by
  decide +kernel
theorem hb_mul {p a b c : Int} (hp : p ∈ P7) (ha : a ≠ 0) (hb' : b ≠ 0) (hc : c ≠ 0) : hb p (a * b) c = (hb p a c ^^ hb p b c) := by
  rw [hb_cls (Int.mul_ne_zero ha hb') hc, hb_cls ha hc, hb_cls hb' hc, cls_mul hp ha hb']
  obtain ⟨x1, x2, x3⟩ := cls p a
  obtain ⟨y1, y2, y3⟩ := cls p b
  obtain ⟨z1, z2, z3⟩ := cls p c
  exact bil_add p hp x1 x2 x3 y1 y2 y3 z1 z2 z3
theorem hb_sym {p a b : Int} (hp : p ∈ P7) (ha : a ≠ 0) (hb' : b ≠ 0) : hb p a b = hb p b a := by
  rw [hb_cls ha hb', hb_cls hb' ha]
  obtain ⟨x1, x2, x3⟩ := cls p a
  obtain ⟨y1, y2, y3⟩ := cls p b
  exact bil_sym p hp x1 x2 x3 y1 y2 y3
theorem hb_mul' {p a b c : Int} (hp : p ∈ P7) (ha : a ≠ 0) (hb' : b ≠ 0) (hc : c ≠ 0) : hb p c (a * b) = (hb p c a ^^ hb p c b) := by
  rw [hb_sym hp hc (Int.mul_ne_zero ha hb'), hb_mul hp ha hb' hc, hb_sym hp ha hc, hb_sym hp hb' hc]
/-- a and minus a say yes -/
theorem hb_neg {p a : Int} (hp : p ∈ P7) (ha : a ≠ 0) : hb p a (-1 * a) = false := by
  rw [hb_cls ha (Int.mul_ne_zero (by decide) ha), cls_mul hp (by decide) ha]
  have h0 : p = 0 → cls p a = (decide (a < 0), false, false) := fun e => by unfold cls; rw [if_pos e]
  generalize cls p a = c at *
  obtain ⟨x1, x2, x3⟩ := c
  refine bil_self p hp x1 x2 x3 ?_ ?_
  · by_cases e : p = 0
    · have := h0 e
      simp only [Prod.mk.injEq] at this
      exact .inr this.2.1
    · exact .inl e
  · intro e
    have := h0 e
    simp only [Prod.mk.injEq] at this
    exact this.2.2
/-- squares fall out -/
theorem hb_sq {p a t c : Int} (hp : p ∈ P7) (ha : a ≠ 0) (ht : t ≠ 0) (hc : c ≠ 0) : hb p c (a * (t * t)) = hb p c a := by
  rw [hb_mul' hp ha (Int.mul_ne_zero ht ht) hc, hb_mul' hp ht ht hc, Bool.xor_self, Bool.xor_false]
theorem hb_one {p c : Int} (hp : p ∈ P7) (hc : c ≠ 0) : hb p c 1 = false := by
  have h := hb_mul' (p := p) (a := 1) (b := 1) (c := c) hp (by decide) (by decide) hc
  rw [show (1 : Int) * 1 = 1 from rfl, Bool.xor_self] at h
  exact h
/-! ### rows: the noes, the product formula -/
def rc (p a : Int) : List Int → Nat
  | [] => 0
  | b :: r => (if hb p a b = true then 1 else 0) + rc p a r
def cz (p : Int) : List Int → Nat
  | [] => 0
  | a :: r => rc p a r + cz p r
def nz (p : Int) (r : List Int) : Bool := odd (cz p r)
def prod : List Int → Int
  | [] => 1
  | a :: r => a * prod r
theorem prod_ne0 : ∀ {r : List Int}, (∀ a ∈ r, a ≠ 0) → prod r ≠ 0
  | [], _ => by decide
  | a :: r, h => Int.mul_ne_zero (h a List.mem_cons_self) (prod_ne0 fun b hb => h b (List.mem_cons_of_mem _ hb))
theorem odd_nat (m n : Nat) : odd ((m + n : Nat) : Int) = (odd (m : Int) ^^ odd (n : Int)) := by
  rw [← odd_add]; rfl
theorem odd_one_if (c : Bool) : odd ((if c = true then 1 else 0 : Nat) : Int) = c := by
  cases c <;> rfl
theorem rc_odd {p a : Int} (hp : p ∈ P7) (ha : a ≠ 0) : ∀ {r : List Int}, (∀ b ∈ r, b ≠ 0) → odd (rc p a r) = hb p a (prod r)
  | [], _ => (hb_one hp ha).symm
  | b :: r, h => by
    have hr : ∀ c ∈ r, c ≠ 0 := fun c hc => h c (List.mem_cons_of_mem _ hc)
    have h0 := h b List.mem_cons_self
    show odd (((if hb p a b = true then 1 else 0) + rc p a r : Nat) : Int) = hb p a (b * prod r)
    rw [odd_nat, odd_one_if, rc_odd hp ha hr, hb_mul' hp h0 (prod_ne0 hr) ha]
theorem nz_cons {p a : Int} {r : List Int} (hp : p ∈ P7) (ha : a ≠ 0) (hr : ∀ b ∈ r, b ≠ 0) : nz p (a :: r) = (hb p a (prod r) ^^ nz p r) := by
  show odd ((rc p a r + cz p r : Nat) : Int) = _
  rw [odd_nat, rc_odd hp ha hr]; rfl
theorem nz_one (p a : Int) : nz p [a] = false := rfl
/-- the seven places, one after the other -/
def xs (f : Int → Bool) : Bool := f 0 ^^ f 2 ^^ f 3 ^^ f 5 ^^ f 7 ^^ f 11 ^^ f 13
theorem xs_xor (f g : Int → Bool) : xs (fun p => f p ^^ g p) = (xs f ^^ xs g) := by
  have ac : ∀ a b c d : Bool, ((a ^^ b) ^^ (c ^^ d)) = ((a ^^ c) ^^ (b ^^ d)) := by decide
  unfold xs
  dsimp only
  rw [ac (f 0), ac (f 0 ^^ f 2), ac (f 0 ^^ f 2 ^^ f 3), ac (f 0 ^^ f 2 ^^ f 3 ^^ f 5), ac (f 0 ^^ f 2 ^^ f 3 ^^ f 5 ^^ f 7), ac (f 0 ^^ f 2 ^^ f 3 ^^ f 5 ^^ f 7 ^^ f 11)]
theorem xs_congr {f g : Int → Bool} (h : ∀ p ∈ P7, f p = g p) : xs f = xs g := by
  unfold xs
  rw [h 0 (by decide), h 2 (by decide), h 3 (by decide), h 5 (by decide), h 7 (by decide), h 11 (by decide), h 13 (by decide)]
theorem xs_false : xs (fun _ => false) = false := rfl
theorem xs_filter (f : Int → Bool) : odd ((P7.filter f).length : Int) = xs f := by
  have aux : ∀ (l : List Int) (g : Int → Bool), odd ((l.filter g).length : Int) = l.foldl (fun b p => b ^^ g p) false := by
    intro l g
    have gen : ∀ (l : List Int) (b : Bool), l.foldl (fun b p => b ^^ g p) b = (b ^^ odd ((l.filter g).length : Int)) := by
      intro l
      induction l with
      | nil => intro b; show b = (b ^^ false); rw [Bool.xor_false]
      | cons x l ih =>
        intro b
        rw [List.foldl_cons, ih, List.filter_cons]
        cases hx : g x with
        | true =>
          rw [if_pos rfl, List.length_cons]
          have := odd_nat (l.filter g).length 1
          rw [this]
          show ((b ^^ true) ^^ _) = (b ^^ (_ ^^ true))
          generalize odd _ = c
          cases b <;> cases c <;> rfl
        | false =>
          rw [if_neg (by decide), Bool.xor_false]
    rw [gen, Bool.false_xor]
  rw [aux]
  show (((((((false ^^ f 0) ^^ f 2) ^^ f 3) ^^ f 5) ^^ f 7) ^^ f 11) ^^ f 13) = _
  rw [Bool.false_xor]; rfl
def gens : List Int := [-1, 2, 3, 5, 7, 11, 13]
/-- numbers made of -1 and the small primes -/
inductive Sm : Int → Prop where
  | one : Sm 1
  | gen {g : Int} (h : g ∈ gens) : Sm g
  | mul {a b : Int} (ha : Sm a) (hb : Sm b) : Sm (a * b)
theorem Sm.ne0 {a : Int} (h : Sm a) : a ≠ 0 := by
  induction h with
  | one => decide
  | gen h => rename_i g; revert h; revert g; decide
  | mul _ _ i j => exact Int.mul_ne_zero i j
theorem pf_gens : ∀ a ∈ gens, ∀ b ∈ gens, xs (fun p => hb p a b) = false := by decide +kernel
theorem pf_gen {a b : Int} (ha : a ∈ gens) (hb' : Sm b) : xs (fun p => hb p a b) = false := by
  have a0 := (Sm.gen ha).ne0
  induction hb' with
  | one =>
    rw [xs_congr (g := fun _ => false) fun p hp => hb_one hp a0]; rfl
  | gen h => exact pf_gens a ha _ h
  | mul hx hy i j =>
    rw [xs_congr fun p hp => hb_mul' hp hx.ne0 hy.ne0 a0, xs_xor, i, j]; rfl
/-- the product formula -/
theorem pf {a b : Int} (ha : Sm a) (hb' : Sm b) : xs (fun p => hb p a b) = false := by
  induction ha with
  | one =>
    rw [xs_congr (g := fun _ => false) fun p hp => (by rw [hb_sym hp (by decide) hb'.ne0]; exact hb_one hp hb'.ne0)]; rfl
  | gen h => exact pf_gen h hb'
  | mul hx hy i j =>
    rw [xs_congr fun p hp => hb_mul hp hx.ne0 hy.ne0 hb'.ne0, xs_xor, i, j]; rfl
theorem Sm.prod : ∀ {r : List Int}, (∀ a ∈ r, Sm a) → Sm (prod r)
  | [], _ => .one
  | a :: r, h => .mul (h a List.mem_cons_self) (Sm.prod fun b hb => h b (List.mem_cons_of_mem _ hb))
theorem pf_row : ∀ {r : List Int}, (∀ a ∈ r, Sm a) → xs (fun p => nz p r) = false
  | [], _ => rfl
  | a :: r, h => by
    have hr : ∀ b ∈ r, Sm b := fun b hb => h b (List.mem_cons_of_mem _ hb)
    have ha := h a List.mem_cons_self
    rw [xs_congr fun p hp => nz_cons hp ha.ne0 fun b hb => (hr b hb).ne0, xs_xor, pf ha (Sm.prod hr), pf_row hr]; rfl
/-- divisors of 30030, with a sign -/
def D (n : Int) : Prop := n.natAbs ∣ 30030
def SP : List Nat := [2, 3, 5, 7, 11, 13]
theorem strip {p m n : Nat} (pp : Pr p) (h : n ∣ p * m) : n ∣ m ∨ ∃ n', n = p * n' ∧ n' ∣ m := by
  by_cases d : p ∣ n
  · obtain ⟨n', rfl⟩ := d
    exact .inr ⟨n', rfl, Nat.dvd_of_mul_dvd_mul_left pp.pos h⟩
  · exact .inl ((pp.cop d).symm.dvd_of_dvd_mul_left h)
theorem sm_strip {p m : Nat} (hp : p ∈ SP) (ih : ∀ n : Nat, n ∣ m → Sm (n : Int)) (n : Nat) (h : n ∣ p * m) : Sm (n : Int) := by
  rcases strip (pr_small hp) h with g | ⟨n', rfl, g⟩
  · exact ih n g
  · have e : ((p * n' : Nat) : Int) = (p : Int) * (n' : Int) := by simp
    rw [e]
    refine .mul (.gen ?_) (ih n' g)
    simp only [SP, List.mem_cons, List.not_mem_nil, or_false] at hp
    rcases hp with rfl | rfl | rfl | rfl | rfl | rfl <;> decide
theorem sm_nat {n : Nat} (h : n ∣ 30030) : Sm (n : Int) := by
  refine sm_strip (p := 2) (m := 15015) (by decide) (sm_strip (p := 3) (m := 5005) (by decide) (sm_strip (p := 5) (m := 1001) (by decide) (sm_strip (p := 7) (m := 143) (by decide)
    (sm_strip (p := 11) (m := 13) (by decide) (sm_strip (p := 13) (m := 1) (by decide) fun n h => ?_))))) n h
  have : n = 1 := Nat.dvd_one.mp h
  subst this
  exact .one
theorem D.sm {n : Int} (h : D n) : Sm n := by
  rcases Int.natAbs_eq n with e | e
  · rw [e]; exact sm_nat h
  · rw [e]
    have : -((n.natAbs : Nat) : Int) = -1 * (n.natAbs : Int) := by omega
    rw [this]
    exact .mul (.gen (by decide)) (sm_nat h)
theorem D.ne0 {n : Int} (h : D n) : n ≠ 0 := h.sm.ne0
theorem D.le {n : Int} (h : D n) : n.natAbs ≤ 30030 := Nat.le_of_dvd (by decide) h
theorem prs_of {p : Nat} (pp : Pr p) (h : p ∣ 30030) : p ∈ SP := by
  have e : 30030 = 2 * (3 * (5 * (7 * (11 * 13)))) := rfl
  rw [e] at h
  have q : ∀ {r : Nat}, r ∈ SP → p ∣ r → p ∈ SP := fun hr d => by
    rw [pp.eq (pr_small hr) d]; exact hr
  rcases pp.euclid h with h | h
  · exact q (by decide) h
  rcases pp.euclid h with h | h
  · exact q (by decide) h
  rcases pp.euclid h with h | h
  · exact q (by decide) h
  rcases pp.euclid h with h | h
  · exact q (by decide) h
  rcases pp.euclid h with h | h
  · exact q (by decide) h
  · exact q (by decide) h
theorem sqf_all : SqF 30030 := by
  have e : 30030 = 2 * (3 * (5 * (7 * (11 * 13)))) := rfl
  rw [e]
  have c : ∀ {r m : Nat}, r ∈ SP → ¬ r ∣ m → ∀ p, Pr p → p ∣ r → ¬ p ∣ m := fun hr n p pp d => by
    rw [pp.eq (pr_small hr) d]; exact n
  have s : ∀ {r : Nat}, r ∈ SP → SqF r := fun hr => (pr_small hr).sqf
  refine (s (by decide)).mul ((s (by decide)).mul ((s (by decide)).mul ((s (by decide)).mul ((s (by decide)).mul (s (by decide)) (c (by decide) (by decide))) (c (by decide) (by decide))) (c (by decide) (by decide))) (c (by decide) (by decide))) (c (by decide) (by decide))
theorem D.sqf {n : Int} (h : D n) : SqF n.natAbs := sqf_all.of_dvd h
/-! ### products freed of squares -/
def ft (a b : Int) : Int := a / (Int.gcd a b : Int) * (b / (Int.gcd a b : Int))
theorem ft_parts {a b : Int} (ha : a ≠ 0) : ∃ x y g : Int, 0 < g ∧ g = (Int.gcd a b : Int) ∧ a = x * g ∧ b = y * g ∧ a / g = x ∧ b / g = y ∧ Nat.Coprime x.natAbs y.natAbs ∧ ft a b = x * y := by
  have g0 : 0 < Int.gcd a b := Nat.gcd_pos_of_pos_left _ (by omega)
  have ga : ((Int.gcd a b : Nat) : Int) ∣ a := Int.gcd_dvd_left a b
  have gb : ((Int.gcd a b : Nat) : Int) ∣ b := Int.gcd_dvd_right a b
  refine ⟨a / (Int.gcd a b : Int), b / (Int.gcd a b : Int), (Int.gcd a b : Int), by omega, rfl, (Int.ediv_mul_cancel ga).symm, (Int.ediv_mul_cancel gb).symm, rfl, rfl, ?_, rfl⟩
  rw [Int.natAbs_ediv_of_dvd ga, Int.natAbs_ediv_of_dvd gb]
  exact Nat.coprime_div_gcd_div_gcd g0
theorem ft_sq {a b : Int} (ha : a ≠ 0) : ∃ t, t ≠ 0 ∧ a * b = ft a b * (t * t) := by
  obtain ⟨x, y, g, g0, _, ea, eb, _, _, _, e⟩ := ft_parts (b := b) ha
  refine ⟨g, by omega, ?_⟩
  rw [e, ea, eb]
  simp only [Int.mul_assoc, Int.mul_left_comm, Int.mul_comm]
theorem ft_sq' {a b : Int} (ha : a ≠ 0) : ∃ t, t ≠ 0 ∧ a * ft a b = b * (t * t) := by
  obtain ⟨x, y, g, g0, _, ea, eb, _, _, _, e⟩ := ft_parts (b := b) ha
  refine ⟨x, ?_, ?_⟩
  · rintro rfl
    simp at ea
    exact ha ea
  · rw [e, ea, eb]
    simp only [Int.mul_assoc, Int.mul_left_comm, Int.mul_comm]
theorem ft_D {a b : Int} (ha : D a) (hb : D b) : D (ft a b) := by
  obtain ⟨x, y, g, g0, _, ea, eb, _, _, c, e⟩ := ft_parts (b := b) ha.ne0
  unfold D
  rw [e, Int.natAbs_mul]
  refine c.mul_dvd_of_dvd_of_dvd (Nat.dvd_trans ?_ ha) (Nat.dvd_trans ?_ hb)
  · rw [ea, Int.natAbs_mul]; exact Nat.dvd_mul_right _ _
  · rw [eb, Int.natAbs_mul]; exact Nat.dvd_mul_right _ _
theorem ft_sqf {a b : Int} (ha : SqF a.natAbs) (hb : SqF b.natAbs) : SqF (ft a b).natAbs := by
  have a0 : a ≠ 0 := by
    rintro rfl
    exact ha.ne0 rfl
  obtain ⟨x, y, g, g0, _, ea, eb, _, _, c, e⟩ := ft_parts (b := b) a0
  rw [e, Int.natAbs_mul]
  refine SqF.mul (ha.of_dvd ?_) (hb.of_dvd ?_) fun p pp dx dy => ?_
  · rw [ea, Int.natAbs_mul]; exact Nat.dvd_mul_right _ _
  · rw [eb, Int.natAbs_mul]; exact Nat.dvd_mul_right _ _
  · have := Nat.dvd_gcd dx dy
    rw [c] at this
    exact pp.not_one this
theorem sqf_uniq {n m t s : Int} (hn : SqF n.natAbs) (hm : SqF m.natAbs) (t0 : t ≠ 0) (s0 : s ≠ 0) (e : n * (t * t) = m * (s * s)) : n = m := by
  have e1 : n.natAbs = m.natAbs := by
    refine hn.uniq hm (t := t.natAbs) (s := s.natAbs) (by omega) (by omega) ?_
    rw [← Int.natAbs_mul, ← Int.natAbs_mul, ← Int.natAbs_mul, ← Int.natAbs_mul, e]
  have tt : 0 < t * t := by
    rcases Int.lt_or_gt_of_ne t0 with h | h
    · exact Int.mul_pos_of_neg_of_neg h h
    · exact Int.mul_pos h h
  have ss : 0 < s * s := by
    rcases Int.lt_or_gt_of_ne s0 with h | h
    · exact Int.mul_pos_of_neg_of_neg h h
    · exact Int.mul_pos h h
  have m0 := hm.ne0
  rcases Int.natAbs_eq_natAbs_iff.mp e1 with h | h
  · exact h
  · exfalso
    subst h
    rcases Int.lt_or_gt_of_ne (show m ≠ 0 by omega) with h | h
    · have h1 := Int.mul_pos (show 0 < -m by omega) tt
      have h2 := Int.mul_neg_of_neg_of_pos h ss
      omega
    · have h1 := Int.mul_neg_of_neg_of_pos (show -m < 0 by omega) tt
      have h2 := Int.mul_pos h ss
      omega
theorem sq_pos {t : Int} (t0 : t ≠ 0) : 0 < t * t := by
  rcases Int.lt_or_gt_of_ne t0 with h | h
  · exact Int.mul_pos_of_neg_of_neg h h
  · exact Int.mul_pos h h
theorem sign_sq {n t : Int} (t0 : t ≠ 0) : n * (t * t) < 0 ↔ n < 0 := by
  have tt := sq_pos t0
  constructor
  · intro h
    rcases Int.lt_or_le n 0 with g | g
    · exact g
    · have := Int.mul_nonneg g (Int.le_of_lt tt)
      omega
  · intro h
    exact Int.mul_neg_of_neg_of_pos h tt
/-! ### counts of signs -/
def posc (r : List Int) : Nat := (r.filter fun a => decide (0 < a)).length
def negc (r : List Int) : Nat := (r.filter fun a => decide (a < 0)).length
theorem pos_neg : ∀ {r : List Int}, (∀ a ∈ r, a ≠ 0) → posc r + negc r = r.length
  | [], _ => rfl
  | a :: r, h => by
    have ih := pos_neg fun b hb => h b (List.mem_cons_of_mem a hb)
    have a0 := h a List.mem_cons_self
    unfold posc negc at *
    rw [List.filter_cons, List.filter_cons, List.length_cons]
    rcases Int.lt_or_gt_of_ne a0 with g | g
    · rw [if_neg (by simp; omega), if_pos (by simp; omega), List.length_cons]; omega
    · rw [if_pos (by simp; omega), if_neg (by simp; omega), List.length_cons]; omega
theorem negc_cons (a : Int) (r : List Int) : negc (a :: r) = (if a < 0 then 1 else 0) + negc r := by
  unfold negc
  rw [List.filter_cons]
  by_cases h : a < 0
  · rw [if_pos (decide_eq_true h), if_pos h, List.length_cons]; omega
  · rw [if_neg (by simp; omega), if_neg h]; omega
theorem posc_cons (a : Int) (r : List Int) : posc (a :: r) = (if 0 < a then 1 else 0) + posc r := by
  unfold posc
  rw [List.filter_cons]
  by_cases h : 0 < a
  · rw [if_pos (decide_eq_true h), if_pos h, List.length_cons]; omega
  · rw [if_neg (by simp; omega), if_neg h]; omega
theorem prod_sign : ∀ {r : List Int}, (∀ a ∈ r, a ≠ 0) → decide (prod r < 0) = odd (negc r)
  | [], _ => rfl
  | a :: r, h => by
    have hr : ∀ b ∈ r, b ≠ 0 := fun b hb => h b (List.mem_cons_of_mem a hb)
    have ih := prod_sign hr
    have a0 := h a List.mem_cons_self
    have c := cls_mul (p := 0) (by decide) a0 (prod_ne0 hr)
    have c1 : decide (a * prod r < 0) = (decide (a < 0) ^^ decide (prod r < 0)) := congrArg Prod.fst c
    show decide (a * prod r < 0) = _
    rw [c1, ih, negc_cons]
    rw [odd_nat]
    congr 1
    by_cases g : a < 0
    · rw [if_pos g, decide_eq_true g]; rfl
    · rw [if_neg g, decide_eq_false g]; rfl
def tri (n : Int) : Int := n * (n - 1) / 2
theorem tri_succ (n : Int) : tri (n + 1) = n + tri n := by
  unfold tri
  have e : (n + 1) * (n + 1 - 1) = n * (n - 1) + 2 * n := by
    rw [show n + 1 - 1 = n by omega, Int.add_mul, Int.mul_sub]
    omega
  rw [e]
  omega
theorem cz_zero : ∀ {r : List Int}, (∀ a ∈ r, a ≠ 0) → (cz 0 r : Int) = tri (negc r)
  | [], _ => by decide
  | a :: r, h => by
    have hr : ∀ b ∈ r, b ≠ 0 := fun b hb => h b (List.mem_cons_of_mem a hb)
    have ih := cz_zero hr
    have a0 := h a List.mem_cons_self
    have hrc : ∀ {l : List Int}, (∀ b ∈ l, b ≠ 0) → rc 0 a l = if a < 0 then negc l else 0 := by
      intro l
      induction l with
      | nil => intro _; by_cases g : a < 0 <;> simp [rc, negc, g]
      | cons b l il =>
        intro hl
        have b0 := hl b List.mem_cons_self
        have e := il fun c hc => hl c (List.mem_cons_of_mem b hc)
        show (if hb 0 a b = true then 1 else 0) + rc 0 a l = _
        rw [e, negc_cons]
        have : hb 0 a b = (decide (a < 0) && decide (b < 0)) := hb_cls a0 b0
        rw [this]
        by_cases g : a < 0
        · by_cases k : b < 0
          · simp [g, k]
          · simp [g, k]
        · simp [g]
    show ((rc 0 a r + cz 0 r : Nat) : Int) = _
    rw [negc_cons, hrc hr]
    by_cases g : a < 0
    · rw [if_pos g, if_pos g]
      have : (((1 + negc r : Nat)) : Int) = (negc r : Int) + 1 := by omega
      rw [this, tri_succ, ← ih]; omega
    · rw [if_neg g, if_neg g, Nat.zero_add, Nat.zero_add]; exact ih
/-! ### what can be wished -/
def isSqB (k p : Int) : Bool :=
  if p = 0 then decide (0 < k) else if p = 2 then decide ((ord 2 k : Int) % 2 = 0) && decide (unit 2 k % 8 = 1)
  else decide ((ord p k : Int) % 2 = 0) && decide (sq (unit p k) p = 1)
theorem sq_unit {u p : Int} (h2 : 2 ≤ p) (h : ¬ p ∣ u) : sq u p = 1 ∨ sq u p = -1 := by
  unfold sq
  rw [if_neg fun e => h (Int.dvd_of_emod_eq_zero e)]
  by_cases c : p = 2 ∨ u ^ ((p - 1) / 2).toNat % p = 1
  · rw [if_pos c]; exact .inl rfl
  · rw [if_neg c]; exact .inr rfl
theorem eight {u : Int} (h : u % 2 = 1) : odd ((u - 1) / 2) = decide (u % 8 = 3 ∨ u % 8 = 7) ∧ odd ((u * u - 1) / 8) = decide (u % 8 = 3 ∨ u % 8 = 5) := by
  obtain ⟨k, r, hk, hr⟩ : ∃ k r, u = 8 * k + r ∧ (r = 1 ∨ r = 3 ∨ r = 5 ∨ r = 7) := ⟨u / 8, u % 8, by omega, by omega⟩
  have e : ∀ r : Int, (8 * k + r) * (8 * k + r) = 8 * (8 * (k * k) + 2 * (k * r)) + r * r := by
    intro r
    have e1 : 8 * k * (8 * k) = 8 * (8 * (k * k)) := by rw [Int.mul_assoc, Int.mul_left_comm k 8 k]
    have e2 : 8 * k * r = 8 * (k * r) := Int.mul_assoc _ _ _
    have e3 : r * (8 * k) = 8 * (k * r) := by rw [Int.mul_comm, e2]
    rw [Int.add_mul, Int.mul_add, Int.mul_add, e1, e2, e3]
    omega
  unfold odd
  subst hk
  rw [e]
  generalize k * r = z
  generalize k * k = y
  rcases hr with rfl | rfl | rfl | rfl
  · constructor
    · rw [decide_eq_false (by omega), decide_eq_false (by omega)]
    · rw [decide_eq_false (by omega), decide_eq_false (by omega)]
  · constructor
    · rw [decide_eq_true (by omega), decide_eq_true (by omega)]
    · rw [decide_eq_true (by omega), decide_eq_true (by omega)]
  · constructor
    · rw [decide_eq_false (by omega), decide_eq_false (by omega)]
    · rw [decide_eq_true (by omega), decide_eq_true (by omega)]
  · constructor
    · rw [decide_eq_true (by omega), decide_eq_true (by omega)]
    · rw [decide_eq_false (by omega), decide_eq_false (by omega)]
theorem isSqB_cls {k p : Int} (hp : p ∈ P7) (k0 : k ≠ 0) : isSqB k p = true ↔ cls p k = (false, false, false) := by
  unfold isSqB cls
  by_cases h0 : p = 0
  · simp only [if_pos h0, Prod.mk.injEq, decide_eq_true_eq, decide_eq_false_iff_not, and_true]
    omega
  have eu := eu_small hp h0
  have nu := unit_nd eu.1 k0
  simp only [if_neg h0]
  by_cases h2 : p = 2
  · subst h2
    simp only [if_true]
    have u2 : unit 2 k % 2 = 1 := by omega
    obtain ⟨e1, e2⟩ := eight u2
    rw [e1, e2]
    unfold odd
    simp only [Prod.mk.injEq, Bool.and_eq_true, decide_eq_true_eq, decide_eq_false_iff_not]
    omega
  · simp only [if_neg h2]
    have := sq_unit eu.1 nu
    unfold odd
    simp only [Prod.mk.injEq, Bool.and_eq_true, decide_eq_true_eq, decide_eq_false_iff_not, and_true]
    omega
/-- a square class says yes to all -/
theorem hb_sqcls {a k p : Int} (hp : p ∈ P7) (a0 : a ≠ 0) (k0 : k ≠ 0) (h : isSqB k p = true) : hb p a k = false := by
  rw [hb_cls a0 k0, (isSqB_cls hp k0).mp h]
  generalize cls p a = c
  obtain ⟨x, y, z⟩ := c
  have aux : ∀ p ∈ P7, ∀ x y z : Bool, bil p (x, y, z) (false, false, false) = false := by decide +kernel
  exact aux p hp x y z
def canB (size signs number : Int) (noes : List Int) : Bool :=
  if (decide (number < 0) != decide ((size - signs) % 2 = 1)) || decide ((noes.length : Int) % 2 = 1) then false
  else if decide (0 ∈ noes) != decide (tri (size - signs) % 2 = 1) then false
  else if size = 1 then decide (noes.length = 0)
  else if size = 2 then decide ((noes.filter fun p => isSqB (0 - number) p).length = 0)
  else true
structure Can (size signs n : Int) (f : Int → Bool) : Prop where
  lo : 1 ≤ size
  hi : size ≤ 8
  s0 : 0 ≤ signs
  s1 : signs ≤ size
  d : D n
  sgn : decide (n < 0) = odd (size - signs)
  even : xs f = false
  zero : f 0 = odd (tri (size - signs))
  one : size = 1 → ∀ p ∈ P7, f p = false
  two : size = 2 → ∀ p ∈ P7, f p = true → isSqB (0 - n) p = false
theorem Can.can {size signs n : Int} {f : Int → Bool} (c : Can size signs n f) : canB size signs n (P7.filter f) = true := by
  unfold canB
  have h1 := c.sgn
  have h2 := c.even
  rw [← xs_filter] at h2
  have h3 := c.zero
  unfold odd at h1 h2 h3
  rw [if_neg (by rw [h1, h2]; simp)]
  have h4 : decide (0 ∈ P7.filter f) = f 0 := by
    cases e : f 0 with
    | true => exact decide_eq_true (List.mem_filter.mpr ⟨by decide, e⟩)
    | false => exact decide_eq_false fun m => by rw [(List.mem_filter.mp m).2] at e; cases e
  rw [if_neg (by rw [h4, h3]; simp)]
  by_cases s : size = 1
  · rw [if_pos s]
    refine decide_eq_true ?_
    rw [List.length_eq_zero_iff, List.filter_eq_nil_iff]
    intro p hp e
    rw [c.one s p hp] at e
    cases e
  rw [if_neg s]
  by_cases t : size = 2
  · rw [if_pos t]
    refine decide_eq_true ?_
    rw [List.length_eq_zero_iff, List.filter_eq_nil_iff]
    intro p hp e
    obtain ⟨h7, hf⟩ := List.mem_filter.mp hp
    rw [c.two t p h7 hf] at e
    cases e
  · rw [if_neg t]
theorem can_odd {size signs n : Int} {l : List Int} (h : (l.length : Int) % 2 = 1) : canB size signs n l = false := by
  unfold canB
  rw [if_pos (by rw [decide_eq_true h]; simp)]
theorem can_sign {size signs n : Int} {l : List Int} (h : decide (n < 0) = odd (size - signs)) : canB size (signs - 1) n l = false := by
  unfold canB
  have : decide (n < 0) ≠ decide ((size - (signs - 1)) % 2 = 1) := by
    rw [h]
    unfold odd
    intro e
    have := decide_eq_decide.mp e
    omega
  rw [if_pos (by rw [bne_iff_ne.mpr this]; rfl)]
/-- what a row has can be wished -/
theorem can_row {r : List Int} {n t : Int} (hr : ∀ a ∈ r, Sm a) (lo : 1 ≤ r.length) (hi : r.length ≤ 8) (d : D n) (t0 : t ≠ 0) (e : prod r = n * (t * t)) :
    Can r.length (posc r) n (fun p => nz p r) := by
  have r0 : ∀ a ∈ r, a ≠ 0 := fun a ha => (hr a ha).ne0
  have pn := pos_neg r0
  have bel : (r.length : Int) - (posc r : Int) = (negc r : Int) := by omega
  refine ⟨by omega, by omega, by omega, by omega, d, ?_, pf_row hr, ?_, ?_, ?_⟩
  · rw [bel, ← prod_sign r0, e]
    exact decide_eq_decide.mpr (sign_sq t0).symm
  · rw [bel, ← cz_zero r0]; rfl
  · intro s p _
    match r, s with
    | [a], _ => rfl
  · intro s p hp hf
    match r, s with
    | [a, b], _ =>
      have a0 := r0 a (by simp)
      have b0 := r0 b (by simp)
      cases hs : isSqB (0 - n) p with
      | false => rfl
      | true =>
        exfalso
        have h1 : nz p [a, b] = hb p a b := by
          rw [nz_cons hp a0 (by simpa using b0), nz_one, Bool.xor_false]
          show hb p a (b * 1) = _
          rw [Int.mul_one]
        rw [h1] at hf
        have n0 := d.ne0
        have h2 : hb p a ((-1 * a) * b) = hb p a b := by
          rw [hb_mul' hp (Int.mul_ne_zero (by decide) a0) b0 a0, hb_neg hp a0, Bool.false_xor]
        have e2 : (-1 * a) * b = (0 - n) * (t * t) := by
          have e3 : a * b = n * (t * t) := by
            have e4 : a * (b * 1) = n * (t * t) := e
            rw [Int.mul_one] at e4
            exact e4
          rw [Int.mul_assoc, e3, Int.sub_mul]
          omega
        rw [e2, hb_sq hp (by omega) t0 a0, hb_sqcls hp a0 (by omega) hs] at h2
        rw [← h2] at hf
        cases hf
/-! ### primes above 13: reciprocity against -1 and the small primes -/
def PrI (k : Int) : Prop := 2 ≤ k ∧ ∀ d, 2 ≤ d → d * d ≤ k → ¬ d ∣ k
theorem PrI.pr {k : Int} (h : PrI k) : Pr k.toNat := by
  have k2 := h.1
  refine ⟨by omega, fun m ⟨c, e⟩ => ?_⟩
  have ek : k = (m : Int) * (c : Int) := by
    have : (k.toNat : Int) = k := Int.toNat_of_nonneg (by omega)
    rw [← this, e]; simp
  have hm0 : m ≠ 0 := by
    rintro rfl
    simp at ek
    omega
  have hc0 : c ≠ 0 := by
    rintro rfl
    simp at ek
    omega
  by_cases m1 : m = 1
  · exact .inl m1
  by_cases c1 : c = 1
  · subst c1
    exact .inr (by omega)
  exfalso
  rcases Nat.le_total m c with l | l
  · refine h.2 m (by omega) ?_ ⟨c, ek⟩
    rw [ek]
    exact Int.mul_le_mul_of_nonneg_left (by omega) (by omega)
  · refine h.2 c (by omega) ?_ ⟨m, by rw [ek, Int.mul_comm]⟩
    rw [ek]
    exact Int.mul_le_mul_of_nonneg_right (by omega) (by omega)
def pb : Nat → Nat → Nat → Bool
  | 0, _, _ => true
  | f + 1, d, q => bif Nat.ble (d * d) q then (bif Nat.beq (q % d) 0 then false else pb f (d + 1) q) else true
theorem pb_true {q : Nat} (h : PrI q) : ∀ (f d : Nat), 2 ≤ d → pb f d q = true
  | 0, _, _ => rfl
  | f + 1, d, hd => by
    unfold pb
    cases e : Nat.ble (d * d) q with
    | false => rfl
    | true =>
      have le := Nat.le_of_ble_eq_true e
      have nd : Nat.beq (q % d) 0 = false := by
        cases g : Nat.beq (q % d) 0 with
        | false => rfl
        | true =>
          exfalso
          have := Nat.eq_of_beq_eq_true g
          have dv : d ∣ q := Nat.dvd_of_mod_eq_zero this
          refine h.2 d (by omega) ?_ (Int.ofNat_dvd.mpr dv)
          exact_mod_cast le
      rw [nd]
      exact pb_true h f (d + 1) (by omega)
def allB (f : Nat → Bool) : Nat → Nat → Bool
  | 0, lo => f lo
  | k + 1, lo => allB f k lo && allB f k (lo + 2 ^ k)
theorem allB_at {f : Nat → Bool} : ∀ (k lo : Nat), allB f k lo = true → ∀ n, lo ≤ n → n < lo + 2 ^ k → f n = true
  | 0, lo, h, n, h1, h2 => by
    have : n = lo := by
      simp at h2
      omega
    subst this
    exact h
  | k + 1, lo, h, n, h1, h2 => by
    have h' : (allB f k lo && allB f k (lo + 2 ^ k)) = true := h
    rw [Bool.and_eq_true] at h'
    by_cases c : n < lo + 2 ^ k
    · exact allB_at k lo h'.1 n h1 c
    · refine allB_at k (lo + 2 ^ k) h'.2 n (by omega) ?_
      rw [Nat.pow_succ] at h2
      omega
/-- squares by the small primes, by the rest -/
def resid : Nat → Nat → Bool
  | 3, r => Nat.beq r 1
  | 5, r => Nat.beq r 1 || Nat.beq r 4
  | 7, r => Nat.beq r 1 || Nat.beq r 2 || Nat.beq r 4
  | 11, r => Nat.beq r 1 || Nat.beq r 3 || Nat.beq r 4 || Nat.beq r 5 || Nat.beq r 9
  | 13, r => Nat.beq r 1 || Nat.beq r 3 || Nat.beq r 4 || Nat.beq r 9 || Nat.beq r 10 || Nat.beq r 12
  | _, _ => false
def recB (g q : Nat) : Bool :=
  bif Nat.beq g 2 then Nat.beq (q % 8) 3 || Nat.beq (q % 8) 5
  else (!resid g (q % g)) ^^ (Nat.beq (g % 4) 3 && Nat.beq (q % 4) 3)
def chk1 (q g : Nat) : Bool :=
  let e := g ^ ((q - 1) / 2) % q
  (Nat.beq e 1 && !recB g q) || (Nat.beq e (q - 1) && recB g q)
def chk (q : Nat) : Bool := bif Nat.ble q 13 then true else bif pb 95 2 q then
  chk1 q 2 && chk1 q 3 && chk1 q 5 && chk1 q 7 && chk1 q 11 && chk1 q 13 else true
set_option maxRecDepth 100000 in
theorem chk_all : allB chk 13 0 = true := by decide +kernel
/-! ### reciprocity, over all numbers made of small primes -/
theorem xs_eq (f : Int → Bool) : xs f = (f 0 ^^ f 2 ^^ f 3 ^^ f 5 ^^ f 7 ^^ f 11 ^^ f 13) := rfl
theorem hb_units {p a b : Int} (hp : p ∈ P5) (ha : a ≠ 0) (hb' : b ≠ 0) (na : ¬ p ∣ a) (nb : ¬ p ∣ b) : hb p a b = false := by
  have p7 : p ∈ P7 := by
    simp only [P7, P5, List.mem_cons, List.not_mem_nil, or_false] at hp ⊢
    omega
  have pn : p ≠ 0 ∧ p ≠ 2 ∧ 2 ≤ p := by
    simp only [P5, List.mem_cons, List.not_mem_nil, or_false] at hp
    omega
  rw [hb_cls ha hb']
  unfold cls bil
  simp only [if_neg pn.1, if_neg pn.2.1]
  rw [(ord_unit pn.2.2 ha na).1, (ord_unit pn.2.2 hb' nb).1]
  show (((false && false && _) ^^ (_ && false)) ^^ (_ && false)) = false
  simp
theorem hb_own {p b : Int} (hp : p ∈ P5) (hb' : b ≠ 0) (nb : ¬ p ∣ b) : hb p p b = nres b p := by
  have pn : p ≠ 0 ∧ p ≠ 2 ∧ 2 ≤ p := by
    simp only [P5, List.mem_cons, List.not_mem_nil, or_false] at hp
    omega
  rw [hb_cls pn.1 hb']
  unfold cls bil nres
  simp only [if_neg pn.1, if_neg pn.2.1]
  have n1 : ¬ p ∣ 1 := fun d => by
    have := Int.le_of_dvd (by decide) d
    omega
  obtain ⟨o1, u1⟩ := Spl.is (a := 1) (u := 1) pn.2.2 pn.1 ⟨by rw [Int.pow_succ, Int.pow_zero, Int.one_mul, Int.mul_one], n1⟩
  obtain ⟨o2, u2⟩ := ord_unit pn.2.2 hb' nb
  rw [o1, o2, u2]
  show (((true && false && _) ^^ (_ && false)) ^^ (_ && true)) = _
  simp
theorem hb_two {a b : Int} (ha : a % 2 = 1) (hb' : b % 2 = 1) : hb 2 a b = (odd ((a - 1) / 2) && odd ((b - 1) / 2)) := by
  have a0 : a ≠ 0 := by omega
  have b0 : b ≠ 0 := by omega
  rw [hb_cls a0 b0]
  unfold cls bil
  obtain ⟨o1, u1⟩ := ord_unit (p := 2) (by decide) a0 (by omega)
  obtain ⟨o2, u2⟩ := ord_unit (p := 2) (by decide) b0 (by omega)
  rw [o1, o2, u1, u2]
  show (((_ && _) ^^ (false && _)) ^^ (false && _)) = _
  simp
theorem hb_twotwo {b : Int} (hb' : b % 2 = 1) : hb 2 2 b = odd ((b * b - 1) / 8) := by
  have b0 : b ≠ 0 := by omega
  rw [hb_cls (by decide) b0]
  obtain ⟨o2, u2⟩ := ord_unit (p := 2) (by decide) b0 (by omega)
  have c2 : cls 2 2 = (true, false, false) := by decide +kernel
  rw [c2]
  unfold cls bil
  rw [o2, u2]
  show (((false && _) ^^ (true && _)) ^^ (_ && false)) = _
  simp
theorem hb_zero {a b : Int} (ha : a ≠ 0) (hb' : 0 < b) : hb 0 a b = false := by
  rw [hb_cls ha (by omega)]
  show (decide (a < 0) && decide (b < 0)) = false
  rw [decide_eq_false (show ¬ b < 0 by omega), Bool.and_false]
/-- a prime above 13 -/
structure Big (q : Nat) : Prop where
  pr : Pr q
  pi : PrI q
  lo : 13 < q
  hi : q < 8192
theorem Big.nd {q p : Nat} (h : Big q) (hp : p ∈ SP) : ¬ p ∣ q := fun d => by
  have e := (pr_small hp).eq h.pr d
  subst e
  have := h.lo
  simp only [SP, List.mem_cons, List.not_mem_nil, or_false] at hp
  omega
theorem Big.ndI {q : Nat} {p : Int} (h : Big q) (hp : p ∈ P5) : ¬ p ∣ (q : Int) := by
  simp only [P5, List.mem_cons, List.not_mem_nil, or_false] at hp
  rcases hp with rfl | rfl | rfl | rfl | rfl
  · exact fun d => h.nd (p := 3) (by decide) (Int.ofNat_dvd.mp d)
  · exact fun d => h.nd (p := 5) (by decide) (Int.ofNat_dvd.mp d)
  · exact fun d => h.nd (p := 7) (by decide) (Int.ofNat_dvd.mp d)
  · exact fun d => h.nd (p := 11) (by decide) (Int.ofNat_dvd.mp d)
  · exact fun d => h.nd (p := 13) (by decide) (Int.ofNat_dvd.mp d)
theorem Big.odd {q : Nat} (h : Big q) : q % 2 = 1 := by
  have : ¬ 2 ∣ q := h.nd (p := 2) (by decide)
  omega
theorem chk_at {q : Nat} (h : Big q) : chk1 q 2 = true ∧ chk1 q 3 = true ∧ chk1 q 5 = true ∧ chk1 q 7 = true ∧ chk1 q 11 = true ∧ chk1 q 13 = true := by
  have c := allB_at 13 0 chk_all q (Nat.zero_le _) (by have := h.hi; simpa using this)
  unfold chk at c
  have n : Nat.ble q 13 = false := by
    cases e : Nat.ble q 13 with
    | false => rfl
    | true =>
      have := Nat.le_of_ble_eq_true e
      have := h.lo
      omega
  rw [n, pb_true h.pi 95 2 (by decide)] at c
  have c' : (chk1 q 2 && chk1 q 3 && chk1 q 5 && chk1 q 7 && chk1 q 11 && chk1 q 13) = true := c
  simp only [Bool.and_eq_true] at c'
  obtain ⟨⟨⟨⟨⟨a, b⟩, c⟩, d⟩, e⟩, f⟩ := c'
  exact ⟨a, b, c, d, e, f⟩
def hf (q : Nat) : Nat := (q - 1) / 2
/-- what Euler's power of u tells, and the noes of u and q at the seven places -/
def Recip (q : Nat) (u : Int) : Prop :=
  (u ^ hf q % q = 1 ∧ xs (fun p => hb p u q) = false) ∨ (u ^ hf q % q = q - 1 ∧ xs (fun p => hb p u q) = true)
theorem recip_of {q g : Nat} (h : Big q) (c : chk1 q g = true) (e : xs (fun p => hb p (g : Int) q) = recB g q) : Recip q (g : Int) := by
  unfold chk1 at c
  have ep : (g : Int) ^ hf q % q = ((g ^ hf q % q : Nat) : Int) := by simp
  have q2 := h.lo
  rw [Bool.or_eq_true, Bool.and_eq_true, Bool.and_eq_true] at c
  rcases c with ⟨c1, c2⟩ | ⟨c1, c2⟩
  · left
    have := Nat.eq_of_beq_eq_true c1
    refine ⟨?_, ?_⟩
    · rw [ep, show g ^ hf q % q = 1 from this]; rfl
    · rw [e]
      simpa using c2
  · right
    have := Nat.eq_of_beq_eq_true c1
    refine ⟨?_, ?_⟩
    · rw [ep, show g ^ hf q % q = q - 1 from this]; omega
    · rw [e]; exact c2
theorem nres_resid : ∀ g ∈ [3, 5, 7, 11, 13], ∀ (r : Nat), r < 13 → r % g ≠ 0 → r < g → nres (r : Int) (g : Int) = !resid g r := by decide +kernel
theorem nres_rest {q g : Nat} (hg : g ∈ [3, 5, 7, 11, 13]) (n : ¬ g ∣ q) : nres (q : Int) (g : Int) = !resid g (q % g) := by
  have g2 : 0 < g ∧ g ≤ 13 := by
    simp only [List.mem_cons, List.not_mem_nil, or_false] at hg
    omega
  have lt := Nat.mod_lt q g2.1
  have nn : q % g % g ≠ 0 := by
    rw [Nat.mod_mod]
    exact fun e => n (Nat.dvd_of_mod_eq_zero e)
  have e : nres (q : Int) (g : Int) = nres ((q % g : Nat) : Int) (g : Int) := by
    unfold nres
    rw [sq_mod (q : Int)]
    rfl
  rw [e]
  exact nres_resid g hg _ (by omega) nn lt
theorem odd3 (m : Nat) (h : m % 2 = 1) : odd (((m : Int) - 1) / 2) = Nat.beq (m % 4) 3 := by
  unfold odd
  by_cases c : m % 4 = 3
  · rw [c, decide_eq_true (by omega)]; rfl
  · rw [decide_eq_false (by omega)]
    cases e : Nat.beq (m % 4) 3 with
    | false => rfl
    | true => exact absurd (Nat.eq_of_beq_eq_true e) c
theorem xs_own {q g : Nat} (h : Big q) (hg : g ∈ [3, 5, 7, 11, 13]) : xs (fun p => hb p (g : Int) q) = recB g q := by
  have q0 := h.lo
  have qo := h.odd
  have qn : (q : Int) ≠ 0 := by omega
  have n3 := h.ndI (p := 3) (by decide)
  have n5 := h.ndI (p := 5) (by decide)
  have n7 := h.ndI (p := 7) (by decide)
  have n11 := h.ndI (p := 11) (by decide)
  have n13 := h.ndI (p := 13) (by decide)
  have qo2 : (q : Int) % 2 = 1 := by omega
  have fin : ∀ g : Nat, g ∈ [3, 5, 7, 11, 13] → ¬ g ∣ q → g % 2 = 1 → ((odd (((g : Int) - 1) / 2) && odd (((q : Int) - 1) / 2)) ^^ nres (q : Int) (g : Int)) = recB g q := by
    intro g hg n go
    rw [odd3 g go, odd3 q qo, nres_rest hg n]
    have n2 : Nat.beq g 2 = false := by
      cases e : Nat.beq g 2 with
      | false => rfl
      | true =>
        have := Nat.eq_of_beq_eq_true e
        omega
    unfold recB
    rw [n2, Bool.xor_comm]; rfl
  rw [xs_eq]
  simp only [List.mem_cons, List.not_mem_nil, or_false] at hg
  rcases hg with rfl | rfl | rfl | rfl | rfl
  · rw [show ((3 : Nat) : Int) = 3 from rfl, hb_zero (by decide) (by omega), hb_two (by decide) qo2, hb_own (p := 3) (by decide) qn n3, hb_units (p := 5) (by decide) (by decide) qn (by decide) n5, hb_units (p := 7) (by decide) (by decide) qn (by decide) n7, hb_units (p := 11) (by decide) (by decide) qn (by decide) n11, hb_units (p := 13) (by decide) (by decide) qn (by decide) n13]
    simp only [Bool.xor_false, Bool.false_xor]
    exact fin 3 (by decide) (h.nd (by decide)) (by decide)
  · rw [show ((5 : Nat) : Int) = 5 from rfl, hb_zero (by decide) (by omega), hb_two (by decide) qo2, hb_own (p := 5) (by decide) qn n5, hb_units (p := 3) (by decide) (by decide) qn (by decide) n3, hb_units (p := 7) (by decide) (by decide) qn (by decide) n7, hb_units (p := 11) (by decide) (by decide) qn (by decide) n11, hb_units (p := 13) (by decide) (by decide) qn (by decide) n13]
    simp only [Bool.xor_false, Bool.false_xor]
    exact fin 5 (by decide) (h.nd (by decide)) (by decide)
  · rw [show ((7 : Nat) : Int) = 7 from rfl, hb_zero (by decide) (by omega), hb_two (by decide) qo2, hb_own (p := 7) (by decide) qn n7, hb_units (p := 3) (by decide) (by decide) qn (by decide) n3, hb_units (p := 5) (by decide) (by decide) qn (by decide) n5, hb_units (p := 11) (by decide) (by decide) qn (by decide) n11, hb_units (p := 13) (by decide) (by decide) qn (by decide) n13]
    simp only [Bool.xor_false, Bool.false_xor]
    exact fin 7 (by decide) (h.nd (by decide)) (by decide)
  · rw [show ((11 : Nat) : Int) = 11 from rfl, hb_zero (by decide) (by omega), hb_two (by decide) qo2, hb_own (p := 11) (by decide) qn n11, hb_units (p := 3) (by decide) (by decide) qn (by decide) n3, hb_units (p := 5) (by decide) (by decide) qn (by decide) n5, hb_units (p := 7) (by decide) (by decide) qn (by decide) n7, hb_units (p := 13) (by decide) (by decide) qn (by decide) n13]
    simp only [Bool.xor_false, Bool.false_xor]
    exact fin 11 (by decide) (h.nd (by decide)) (by decide)
  · rw [show ((13 : Nat) : Int) = 13 from rfl, hb_zero (by decide) (by omega), hb_two (by decide) qo2, hb_own (p := 13) (by decide) qn n13, hb_units (p := 3) (by decide) (by decide) qn (by decide) n3, hb_units (p := 5) (by decide) (by decide) qn (by decide) n5, hb_units (p := 7) (by decide) (by decide) qn (by decide) n7, hb_units (p := 11) (by decide) (by decide) qn (by decide) n11]
    simp only [Bool.xor_false, Bool.false_xor]
    exact fin 13 (by decide) (h.nd (by decide)) (by decide)
theorem xs_own2 {q : Nat} (h : Big q) : xs (fun p => hb p ((2 : Nat) : Int) q) = recB 2 q := by
  have q0 := h.lo
  have qo := h.odd
  have qn : (q : Int) ≠ 0 := by omega
  have qo2 : (q : Int) % 2 = 1 := by omega
  rw [xs_eq]
  rw [show ((2 : Nat) : Int) = 2 from rfl, hb_zero (by decide) (by omega), hb_units (p := 3) (by decide) (by decide) qn (by decide) (h.ndI (by decide)), hb_units (p := 5) (by decide) (by decide) qn (by decide) (h.ndI (by decide)), hb_units (p := 7) (by decide) (by decide) qn (by decide) (h.ndI (by decide)), hb_units (p := 11) (by decide) (by decide) qn (by decide) (h.ndI (by decide)), hb_units (p := 13) (by decide) (by decide) qn (by decide) (h.ndI (by decide))]
  rw [hb_twotwo qo2, (eight qo2).2]
  simp only [Bool.xor_false, Bool.false_xor]
  show _ = (Nat.beq (q % 8) 3 || Nat.beq (q % 8) 5)
  have hq : q % 8 < 8 := Nat.mod_lt _ (by decide)
  have e : (q : Int) % 8 = ((q % 8 : Nat) : Int) := rfl
  rw [e]
  generalize q % 8 = r at *
  have aux : ∀ (r : Nat), r < 8 → decide ((r : Int) = 3 ∨ (r : Int) = 5) = (Nat.beq r 3 || Nat.beq r 5) := by decide
  exact aux r hq
theorem xs_ownm {q : Nat} (h : Big q) : xs (fun p => hb p (-1) q) = odd (((q : Int) - 1) / 2) := by
  have q0 := h.lo
  have qo := h.odd
  have qn : (q : Int) ≠ 0 := by omega
  have qo2 : (q : Int) % 2 = 1 := by omega
  rw [xs_eq]
  rw [hb_zero (by decide) (by omega), hb_units (p := 3) (by decide) (by decide) qn (by decide) (h.ndI (by decide)), hb_units (p := 5) (by decide) (by decide) qn (by decide) (h.ndI (by decide)), hb_units (p := 7) (by decide) (by decide) qn (by decide) (h.ndI (by decide)), hb_units (p := 11) (by decide) (by decide) qn (by decide) (h.ndI (by decide)), hb_units (p := 13) (by decide) (by decide) qn (by decide) (h.ndI (by decide))]
  rw [hb_two (by decide) qo2]
  simp only [Bool.xor_false, Bool.false_xor]
  rw [show odd ((-1 - 1) / 2) = true from rfl, Bool.true_and]
theorem recip {q : Nat} (h : Big q) {u : Int} (hu : Sm u) : Recip q u := by
  have q0 := h.lo
  have qo := h.odd
  have q1 : (1 : Int) % q = 1 := Int.emod_eq_of_lt (by decide) (by omega)
  obtain ⟨c2, c3, c5, c7, c11, c13⟩ := chk_at h
  induction hu with
  | one =>
    left
    refine ⟨by rw [Int.one_pow]; exact q1, ?_⟩
    rw [xs_congr (g := fun _ => false) fun p hp => (by rw [hb_sym hp (by decide) (by omega)]; exact hb_one hp (by omega))]; rfl
  | gen hg =>
    rename_i g
    simp only [gens, List.mem_cons, List.not_mem_nil, or_false] at hg
    rcases hg with rfl | rfl | rfl | rfl | rfl | rfl | rfl
    · unfold Recip
      rw [xs_ownm h]
      have eh : ((q : Int) - 1) / 2 = (hf q : Int) := by unfold hf; omega
      rw [eh]
      have par : ∀ n : Nat, ((-1 : Int) ^ n = 1 ∧ odd (n : Int) = false) ∨ ((-1 : Int) ^ n = -1 ∧ odd (n : Int) = true) := by
        intro n
        induction n with
        | zero => exact .inl ⟨rfl, rfl⟩
        | succ n ih =>
          have e : odd ((n + 1 : Nat) : Int) = (odd (n : Int) ^^ true) := odd_nat n 1
          rw [Int.pow_succ, e]
          rcases ih with ⟨a, b⟩ | ⟨a, b⟩
          · right; rw [a, b]; exact ⟨rfl, rfl⟩
          · left; rw [a, b]; exact ⟨rfl, rfl⟩
      rcases par (hf q) with ⟨a, b⟩ | ⟨a, b⟩
      · left
        rw [a, b]
        exact ⟨q1, rfl⟩
      · right
        rw [a, b]
        refine ⟨?_, rfl⟩
        have : (-1 : Int) % q = (-1 + q) % q := by rw [Int.add_emod_right]
        rw [this, Int.emod_eq_of_lt (by omega) (by omega)]
        omega
    · exact recip_of h c2 (xs_own2 h)
    · exact recip_of h c3 (xs_own h (by decide))
    · exact recip_of h c5 (xs_own h (by decide))
    · exact recip_of h c7 (xs_own h (by decide))
    · exact recip_of h c11 (xs_own h (by decide))
    · exact recip_of h c13 (xs_own h (by decide))
  | mul hx hy i j =>
    rename_i x y
    unfold Recip at i j ⊢
    rw [xs_congr (f := fun p => hb p (x * y) q) fun p hp => hb_mul hp hx.ne0 hy.ne0 (show (q : Int) ≠ 0 by omega), xs_xor, Int.mul_pow, Int.mul_emod]
    rcases i with ⟨a, b⟩ | ⟨a, b⟩ <;> rcases j with ⟨c, d⟩ | ⟨c, d⟩ <;> rw [a, b, c, d]
    · left; exact ⟨q1, rfl⟩
    · right
      refine ⟨?_, rfl⟩
      rw [Int.one_mul]; exact Int.emod_eq_of_lt (by omega) (by omega)
    · right
      refine ⟨?_, rfl⟩
      rw [Int.mul_one]; exact Int.emod_eq_of_lt (by omega) (by omega)
    · left
      refine ⟨?_, rfl⟩
      have e : ((q : Int) - 1) * (q - 1) = 1 + q * (q - 2) := by
        rw [Int.sub_mul, Int.mul_sub, Int.mul_sub, Int.mul_sub]
        omega
      rw [e, Int.add_mul_emod_self_left]; exact q1
/-! ### rows that meet a wish -/
theorem hb_unitP {p : Nat} (pp : Pr p) (p2 : 2 < p) {a b : Int} (ha : a ≠ 0) (hb' : b ≠ 0) (na : ¬ (p : Int) ∣ a) :
    hb p a b = (nres a p && odd (ord p b)) := by
  have h0 : (p : Int) ≠ 0 := by omega
  have h2 : (p : Int) ≠ 2 := by omega
  rw [hb_cls ha hb']
  unfold cls bil nres
  simp only [if_neg h0, if_neg h2]
  obtain ⟨o, u⟩ := ord_unit (p := p) (by omega) ha na
  rw [o, u]
  show (((false && _ && _) ^^ (_ && _)) ^^ (_ && false)) = _
  simp
theorem rc_unitP {p : Nat} (pp : Pr p) (p2 : 2 < p) {a : Int} (ha : a ≠ 0) (na : ¬ (p : Int) ∣ a) :
    ∀ {r : List Int}, (∀ b ∈ r, b ≠ 0) → odd (rc p a r) = (nres a p && odd (ord p (prod r)))
  | [], _ => by
    have : ord p (prod []) = 0 := (ord_unit (p := (p : Int)) (by omega) (by decide) (fun d => by
      have : (p : Int) ≤ 1 := Int.le_of_dvd (by decide) d
      omega)).1
    rw [this]
    show false = (_ && false)
    rw [Bool.and_false]
  | b :: r, h => by
    have hr : ∀ c ∈ r, c ≠ 0 := fun c hc => h c (List.mem_cons_of_mem _ hc)
    have h0 := h b List.mem_cons_self
    show odd (((if hb p a b = true then 1 else 0) + rc p a r : Nat) : Int) = (_ && odd (ord p (b * prod r)))
    rw [odd_nat, odd_one_if, rc_unitP pp p2 ha na hr, hb_unitP pp p2 ha h0 na, (ord_mul pp.eu h0 (prod_ne0 hr)).1, odd_nat]
    generalize nres a p = x
    generalize odd _ = y
    generalize odd _ = z
    cases x <;> cases y <;> cases z <;> rfl
theorem nz_unitP {p : Nat} (pp : Pr p) (p2 : 2 < p) {a : Int} {r : List Int} (ha : a ≠ 0) (na : ¬ (p : Int) ∣ a) (hr : ∀ b ∈ r, b ≠ 0) :
    nz p (a :: r) = ((nres a p && odd (ord p (prod r))) ^^ nz p r) := by
  show odd ((rc p a r + cz p r : Nat) : Int) = _
  rw [odd_nat, rc_unitP pp p2 ha na hr]; rfl
/-- where the prime goes into none of them, there is no no -/
theorem nz_units {p : Nat} (pp : Pr p) (p2 : 2 < p) : ∀ {r : List Int}, (∀ b ∈ r, b ≠ 0) → (∀ b ∈ r, ¬ (p : Int) ∣ b) → nz p r = false
  | [], _, _ => rfl
  | a :: r, h, n => by
    have hr : ∀ c ∈ r, c ≠ 0 := fun c hc => h c (List.mem_cons_of_mem _ hc)
    have nr : ∀ c ∈ r, ¬ (p : Int) ∣ c := fun c hc => n c (List.mem_cons_of_mem _ hc)
    have pn : ∀ {r : List Int}, (∀ c ∈ r, ¬ (p : Int) ∣ c) → ¬ (p : Int) ∣ prod r := by
      intro r
      induction r with
      | nil =>
        intro _ d
        have : (p : Int) ≤ 1 := Int.le_of_dvd (by decide) d
        omega
      | cons x r ih =>
        intro hx d
        rcases pp.eu.2 _ _ d with d | d
        · exact hx x List.mem_cons_self d
        · exact ih (fun c hc => hx c (List.mem_cons_of_mem _ hc)) d
    rw [nz_unitP pp p2 (h a List.mem_cons_self) (n a List.mem_cons_self) hr, nz_units pp p2 hr nr, (ord_unit (by omega) (prod_ne0 hr) (pn nr)).1]
    show ((_ && false) ^^ false) = false
    rw [Bool.and_false]; rfl
def SQ (q : Nat) : List Nat := [2, 3, 5, 7, 11, 13, q]
structure Good (size signs n : Int) (f : Int → Bool) (r : List Int) : Prop where
  len : (r.length : Int) = size
  pos : (posc r : Int) = signs
  sqn : ∃ t, t ≠ 0 ∧ prod r = n * (t * t)
  nzs : ∀ p ∈ P7, nz p r = f p
  ne0 : ∀ a ∈ r, a ≠ 0
  bd : ∀ a ∈ r, a.natAbs < 1073741824
  big : ∀ p : Nat, Pr p → 13 < p → nz p r = false
  pl : ∃ q : Nat, ∀ a ∈ r, ∀ p, Pr p → p ∣ a.natAbs → p ∈ SQ q
theorem D.nd {n : Int} (h : D n) {p : Nat} (pp : Pr p) (lo : 13 < p) : ¬ (p : Int) ∣ n := fun d => by
  have := prs_of pp (Nat.dvd_trans (Int.ofNat_dvd_left.mp d) h)
  simp only [SP, List.mem_cons, List.not_mem_nil, or_false] at this
  omega
theorem ord_sq {p : Nat} (pp : Pr p) {n t : Int} (n0 : n ≠ 0) (nn : ¬ (p : Int) ∣ n) (t0 : t ≠ 0) : odd (ord p (n * (t * t))) = false := by
  rw [(ord_mul pp.eu n0 (Int.mul_ne_zero t0 t0)).1, (ord_mul pp.eu t0 t0).1, (ord_unit (by have := pp.two; omega) n0 nn).1]
  unfold odd
  rw [decide_eq_false (by omega)]
/-- one more number of small primes ahead -/
theorem Good.step {size signs n left a : Int} {f : Int → Bool} {r : List Int} (da : D a) (dn : D n) (el : left = ft a n)
    (g : Good (size - 1) (signs - (if 0 < a then 1 else 0)) left (fun p => f p ^^ hb p a left) r) : Good size signs n f (a :: r) := by
  obtain ⟨t, t0, et⟩ := g.sqn
  obtain ⟨z, z0, ez⟩ := ft_sq' (a := a) (b := n) da.ne0
  have dl : D left := by rw [el]; exact ft_D da dn
  refine ⟨?_, ?_, ⟨z * t, Int.mul_ne_zero z0 t0, ?_⟩, ?_, ?_, ?_, ?_, ?_⟩
  · have := g.len
    rw [List.length_cons]; omega
  · have := g.pos
    rw [posc_cons]
    by_cases h : 0 < a
    · rw [if_pos h] at this ⊢; omega
    · rw [if_neg h] at this ⊢; omega
  · show a * prod r = _
    rw [et, el, ← Int.mul_assoc, ez]
    simp only [Int.mul_assoc, Int.mul_left_comm, Int.mul_comm]
  · intro p hp
    rw [nz_cons hp da.ne0 g.ne0, g.nzs p hp, et, hb_sq hp dl.ne0 t0 da.ne0]
    generalize hb p a left = x
    generalize f p = y
    cases x <;> cases y <;> rfl
  · intro b hb'
    rcases List.mem_cons.mp hb' with rfl | h
    · exact da.ne0
    · exact g.ne0 b h
  · intro b hb'
    rcases List.mem_cons.mp hb' with rfl | h
    · have := da.le
      omega
    · exact g.bd b h
  · intro p pp lo
    rw [nz_unitP pp (by omega) da.ne0 (da.nd pp lo) g.ne0, g.big p pp lo, et, ord_sq pp dl.ne0 (dl.nd pp lo) t0]
    show ((_ && false) ^^ false) = false
    rw [Bool.and_false]; rfl
  · obtain ⟨q, hq⟩ := g.pl
    refine ⟨q, fun b hb' p pp d => ?_⟩
    rcases List.mem_cons.mp hb' with rfl | h
    · have := prs_of pp (Nat.dvd_trans d da)
      unfold SQ
      simp only [SP, List.mem_cons, List.not_mem_nil, or_false] at this ⊢
      omega
    · exact hq b h p pp d
theorem Good.one {size signs n : Int} {f : Int → Bool} (c : Can size signs n f) (s : size = 1) : Good size signs n f [n] := by
  have n0 := c.d.ne0
  have h1 := c.sgn
  have lo := c.s0
  have hi := c.s1
  refine ⟨s ▸ rfl, ?_, ⟨1, by decide, by show n * 1 = n * (1 * 1); rfl⟩, ?_, ?_, ?_, ?_, ?_⟩
  · rw [posc_cons]
    unfold odd at h1
    have := decide_eq_decide.mp h1
    show (((if 0 < n then 1 else 0) + 0 : Nat) : Int) = signs
    by_cases g : 0 < n
    · rw [if_pos g]; omega
    · rw [if_neg g]; omega
  · intro p hp
    rw [c.one s p hp]; rfl
  · intro a ha
    simp only [List.mem_cons, List.not_mem_nil, or_false] at ha
    rw [ha]; exact n0
  · intro a ha
    simp only [List.mem_cons, List.not_mem_nil, or_false] at ha
    rw [ha]
    have := c.d.le
    omega
  · intro p _ _; rfl
  · refine ⟨2, fun a ha p pp d => ?_⟩
    simp only [List.mem_cons, List.not_mem_nil, or_false] at ha
    rw [ha] at d
    have := prs_of pp (Nat.dvd_trans d c.d)
    unfold SQ
    simp only [SP, List.mem_cons, List.not_mem_nil, or_false] at this ⊢
    omega
/-- the number that stands ahead -/
def firstN (size signs n : Int) : Int :=
  let a := if size = 3 then 30030 / (n.natAbs : Int) else 1
  if signs = 0 then 0 - a else a
theorem firstN_pos {size signs n : Int} (d : D n) : 0 < (if size = 3 then 30030 / (n.natAbs : Int) else 1) := by
  by_cases h : size = 3
  · rw [if_pos h]
    have := d.le
    have := d.ne0
    exact Int.ediv_pos_of_pos_of_dvd (by decide) (by omega) (Int.ofNat_dvd.mpr d)
  · rw [if_neg h]; decide
theorem firstN_D {size signs n : Int} (d : D n) : D (firstN size signs n) := by
  have a : D (if size = 3 then 30030 / (n.natAbs : Int) else 1) := by
    by_cases h : size = 3
    · rw [if_pos h]
      unfold D
      have e : (30030 : Int) / (n.natAbs : Int) = ((30030 / n.natAbs : Nat) : Int) := by simp
      rw [e, Int.natAbs_natCast]
      exact Nat.div_dvd_of_dvd d
    · rw [if_neg h]; exact Nat.one_dvd _
  unfold firstN
  by_cases s : signs = 0
  · simp only [if_pos s]
    unfold D at a ⊢
    rw [Int.zero_sub, Int.natAbs_neg]; exact a
  · simp only [if_neg s]; exact a
theorem firstN_sign {size signs n : Int} (d : D n) : 0 < firstN size signs n ↔ signs ≠ 0 := by
  have := firstN_pos (size := size) (signs := signs) d
  unfold firstN
  by_cases s : signs = 0
  · simp only [if_pos s]; omega
  · simp only [if_neg s]; omega
theorem ft_sign {a b : Int} (ha : a ≠ 0) : decide (ft a b < 0) = decide (a * b < 0) := by
  obtain ⟨t, t0, e⟩ := ft_sq (b := b) ha
  rw [e]
  exact decide_eq_decide.mpr (sign_sq t0).symm
theorem can_step {size signs n left : Int} {f : Int → Bool} (c : Can size signs n f) (h3 : 3 ≤ size) (el : left = ft (firstN size signs n) n) :
    Can (size - 1) (signs - (if 0 < firstN size signs n then 1 else 0)) left (fun p => f p ^^ hb p (firstN size signs n) left) := by
  have da := firstN_D (size := size) (signs := signs) c.d
  have sa := firstN_sign (size := size) (signs := signs) c.d
  have dl : D left := by rw [el]; exact ft_D da c.d
  have n0 := c.d.ne0
  have a0 := da.ne0
  have lo := c.s0
  have hi := c.s1
  have h8 := c.hi
  have slef : decide (left < 0) = (decide (firstN size signs n < 0) ^^ decide (n < 0)) := by
    rw [el, ft_sign a0]
    exact congrArg Prod.fst (cls_mul (p := 0) (by decide) a0 n0)
  have hb0 : hb 0 (firstN size signs n) left = (decide (firstN size signs n < 0) && decide (left < 0)) := hb_cls a0 dl.ne0
  have sg := c.sgn
  have zr := c.zero
  have size3 : size = 3 → left.natAbs = 30030 := by
    intro s
    have ea : (firstN size signs n).natAbs = 30030 / n.natAbs := by
      have e : (30030 : Int) / (n.natAbs : Int) = ((30030 / n.natAbs : Nat) : Int) := by simp
      unfold firstN
      by_cases z : signs = 0
      · simp only [if_pos z, if_pos s, e]
        rw [Int.zero_sub, Int.natAbs_neg, Int.natAbs_natCast]
      · simp only [if_neg z, if_pos s, e]
        rw [Int.natAbs_natCast]
    obtain ⟨x, y, g, g0, _, e1, e2, _, _, cp, e⟩ := ft_parts (b := n) a0
    have e5 : (firstN size signs n).natAbs * n.natAbs = 30030 := by
      rw [ea]; exact Nat.div_mul_cancel c.d
    have e6 : g.natAbs * g.natAbs ∣ 30030 := by
      rw [← e5, e1, e2, Int.natAbs_mul, Int.natAbs_mul]
      exact ⟨x.natAbs * y.natAbs, by simp only [Nat.mul_assoc, Nat.mul_left_comm, Nat.mul_comm]⟩
    have g1 := sqf_all _ e6
    rw [el, e, ← e5, e1, e2, Int.natAbs_mul, Int.natAbs_mul, Int.natAbs_mul, g1, Nat.mul_one, Nat.mul_one]
  have zero' : (f 0 ^^ hb 0 (firstN size signs n) left) = odd (tri (size - 1 - (signs - (if 0 < firstN size signs n then 1 else 0)))) := by
    rw [hb0, zr]
    by_cases z : signs = 0
    · have na : firstN size signs n < 0 := by
        have : ¬ 0 < firstN size signs n := fun q => (sa.mp q) z
        omega
      rw [if_neg (by omega), slef, sg, decide_eq_true na]
      have e : size - signs = (size - 1 - (signs - 0)) + 1 := by omega
      rw [e, tri_succ, odd_add, odd_add, show odd 1 = true from rfl]
      generalize odd (tri _) = x
      generalize odd _ = y
      cases x <;> cases y <;> rfl
    · have pa := sa.mpr z
      rw [if_pos pa, decide_eq_false (show ¬ firstN size signs n < 0 by omega)]
      have e : size - signs = size - 1 - (signs - 1) := by omega
      rw [e, Bool.false_and, Bool.xor_false]
  refine ⟨by omega, by omega, ?_, ?_, dl, ?_, ?_, zero', fun s => by omega, ?_⟩
  · by_cases z : signs = 0
    · rw [if_neg fun q => sa.mp q z]; omega
    · rw [if_pos (sa.mpr z)]; omega
  · by_cases z : signs = 0
    · rw [if_neg fun q => sa.mp q z]; omega
    · rw [if_pos (sa.mpr z)]; omega
  · rw [slef, sg]
    by_cases z : signs = 0
    · have na : firstN size signs n < 0 := by
        have : ¬ 0 < firstN size signs n := fun q => (sa.mp q) z
        omega
      rw [if_neg (by omega), decide_eq_true na]
      have e : size - signs = (size - 1 - (signs - 0)) + 1 := by omega
      rw [e, odd_add]
      show (true ^^ (_ ^^ true)) = _
      generalize odd _ = x
      cases x <;> rfl
    · have pa := sa.mpr z
      rw [if_pos pa, decide_eq_false (show ¬ firstN size signs n < 0 by omega), Bool.false_xor]
      congr 1
      omega
  · rw [xs_xor, c.even, pf da.sm dl.sm]; rfl
  · intro s p hp hf
    have s3 : size = 3 := by omega
    have ab := size3 s3
    cases hs : isSqB (0 - left) p with
    | false => rfl
    | true =>
      exfalso
      have l0 := dl.ne0
      have hc := (isSqB_cls hp (show 0 - left ≠ 0 by omega)).mp hs
      by_cases p0 : p = 0
      · subst p0
        have hn : decide (0 - left < 0) = false := congrArg Prod.fst hc
        have hn' := of_decide_eq_false hn
        rw [zero'] at hf
        have l1 : left < 0 := by omega
        have e1 := slef
        rw [decide_eq_true l1, sg] at e1
        by_cases z : signs = 0
        · have na : firstN size signs n < 0 := by
            have : ¬ 0 < firstN size signs n := fun q => (sa.mp q) z
            omega
          rw [decide_eq_true na, s3, z] at e1
          revert e1
          decide
        · rw [if_pos (sa.mpr z), s3] at hf
          rw [decide_eq_false (show ¬ firstN size signs n < 0 by have := sa.mpr z; omega), s3] at e1
          have : signs = 1 ∨ signs = 2 ∨ signs = 3 := by omega
          rcases this with rfl | rfl | rfl
          · revert e1; decide
          · revert hf; decide
          · revert e1; decide
      · have eu := eu_small hp p0
        have ho : odd (ord p (0 - left)) = false := by
          unfold cls at hc
          rw [if_neg p0] at hc
          by_cases p2 : p = 2
          · rw [if_pos p2] at hc
            rw [p2]
            exact congrArg Prod.fst hc
          · rw [if_neg p2] at hc
            exact congrArg Prod.fst hc
        have fin : ∀ p ∈ P7, p ≠ 0 → ord p 30030 = 1 ∧ ord p (-30030) = 1 := by decide +kernel
        obtain ⟨f1, f2⟩ := fin p hp p0
        have : 0 - left = 30030 ∨ 0 - left = -30030 := by omega
        rcases this with e | e
        · rw [e, f1] at ho; cases ho
        · rw [e, f2] at ho; cases ho
/-! ### the number with wished classes, and the last two of a built row -/
def P6 : List Int := [2, 3, 5, 7, 11, 13]
def qtab : List Nat := [1, 2689, 2521, 1009, 1609, 1321, 601, 241, 1873, 2017, 337, 193, 313, 97, 937, 73, 641, 401, 569, 281, 521, 89, 1361, 41, 113, 137, 233, 1913, 257, 353, 17, 593, 1171, 331, 211, 739, 859, 619, 139, 19, 883, 67, 43, 1723, 1483, 643, 283, 307, 179, 2699, 491, 1019, 251, 59, 131, 1931, 443, 683, 107, 827, 467, 587, 563, 83, 1621, 421, 1381, 109, 181, 229, 61, 349, 757, 37, 277, 613, 157, 397, 997, 733, 389, 1061, 29, 149, 269, 509, 101, 461, 53, 317, 1733, 197, 797, 773, 173, 293, 751, 631, 79, 151, 199, 31, 439, 271, 823, 463, 127, 967, 103, 223, 607, 3583, 191, 71, 1031, 239, 311, 839, 1559, 479, 23, 863, 263, 743, 647, 47, 503, 167]
theorem pb_sound {q : Nat} : ∀ (f d : Nat), pb f d q = true → ∀ m, d ≤ m → m < d + f → m * m ≤ q → ¬ m ∣ q
  | 0, d, _, m, h1, h2, _ => by omega
  | f + 1, d, h, m, h1, h2, h3 => by
    unfold pb at h
    by_cases c : m = d
    · subst c
      have e : Nat.ble (m * m) q = true := Nat.ble_eq_true_of_le h3
      rw [e] at h
      intro dv
      have z : Nat.beq (q % m) 0 = true := by rw [Nat.mod_eq_zero_of_dvd dv]; rfl
      rw [z] at h
      cases h
    · have e : Nat.ble (d * d) q = true := Nat.ble_eq_true_of_le (by have := Nat.mul_le_mul h1 h1; omega)
      rw [e] at h
      cases z : Nat.beq (q % d) 0 with
      | true => rw [z] at h; cases h
      | false =>
        rw [z] at h
        exact pb_sound f (d + 1) h m (by omega) (by omega) h3
theorem big_of {q : Nat} (lo : 13 < q) (hi : q < 8192) (h : pb 95 2 q = true) : Big q := by
  have pi : PrI (q : Int) := by
    refine ⟨by omega, fun d h2 hd dv => ?_⟩
    obtain ⟨m, rfl⟩ := Int.eq_ofNat_of_zero_le (show 0 ≤ d by omega)
    have hm : m * m ≤ q := by exact_mod_cast hd
    have m97 : m < 97 := by
      apply Nat.lt_of_not_le
      intro l
      have := Nat.mul_le_mul l l
      omega
    exact pb_sound 95 2 h m (by omega) (by omega) hm (Int.ofNat_dvd.mp dv)
  exact ⟨by have := pi.pr; rwa [Int.toNat_natCast] at this, pi, lo, hi⟩
theorem big_pi {k : Int} (h : PrI k) (lo : 13 < k) (hi : k < 8192) : Big k.toNat ∧ ((k.toNat : Nat) : Int) = k := by
  have e : ((k.toNat : Nat) : Int) = k := Int.toNat_of_nonneg (by omega)
  exact ⟨⟨h.pr, by rw [e]; exact h, by omega, by omega⟩, e⟩
theorem qtab_big : ∀ q ∈ qtab, q = 1 ∨ (13 < q ∧ q < 8192 ∧ pb 95 2 q = true) := by decide +kernel
set_option maxRecDepth 100000 in
theorem qtab_fit : ∀ f ∈ [(1 : Int), 3, 5, 7], ∀ w3 ∈ [(1 : Int), -1], ∀ w5 ∈ [(1 : Int), -1], ∀ w7 ∈ [(1 : Int), -1], ∀ w11 ∈ [(1 : Int), -1], ∀ w13 ∈ [(1 : Int), -1],
    (qtab.any fun q => decide ((q : Int) % 8 = f ∧ sq q 3 = w3 ∧ sq q 5 = w5 ∧ sq q 7 = w7 ∧ sq q 11 = w11 ∧ sq q 13 = w13)) = true := by decide +kernel
def Fits (q first : Int) (w : Int → Int) : Prop := q % 8 = first ∧ ∀ p ∈ P5, sq q p = w p
theorem fit_ex {first : Int} {w : Int → Int} (hf : first ∈ [(1 : Int), 3, 5, 7]) (hw : ∀ p ∈ P5, w p = 1 ∨ w p = -1) : ∃ q : Nat, (q = 1 ∨ Big q) ∧ Fits q first w := by
  have m : ∀ p ∈ P5, w p ∈ [(1 : Int), -1] := fun p hp => by
    rcases hw p hp with e | e <;> rw [e] <;> decide
  obtain ⟨q, hq, hd⟩ := List.any_eq_true.mp (qtab_fit first hf (w 3) (m 3 (by decide)) (w 5) (m 5 (by decide)) (w 7) (m 7 (by decide)) (w 11) (m 11 (by decide)) (w 13) (m 13 (by decide)))
  obtain ⟨h0, h3, h5, h7, h11, h13⟩ := of_decide_eq_true hd
  refine ⟨q, ?_, h0, fun p hp => ?_⟩
  · rcases qtab_big q hq with e | ⟨a, b, c⟩
    · exact .inl e
    · exact .inr (big_of a b c)
  · simp only [P5, List.mem_cons, List.not_mem_nil, or_false] at hp
    rcases hp with rfl | rfl | rfl | rfl | rfl
    · exact h3
    · exact h5
    · exact h7
    · exact h11
    · exact h13
def leftM (n p : Int) : Int := if n % p = 0 then n / p else n
def kn : Int → List (Int × Bool) → Int
  | c0, [] => c0
  | c0, (p, b) :: l => kn (if b = true then c0 * p else c0) l
def bits (b : Int → Bool) : List (Int × Bool) := P6.map fun p => (p, b p)
def knownM (c0 : Int) (c : Int → Int × Int) : Int := kn c0 (bits fun p => decide ((c p).1 = 1))
theorem kn_table : ∀ c0 ∈ [(1 : Int), -1], ∀ b2 b3 b5 b7 b11 b13 : Bool,
    (kn c0 [(2, b2), (3, b3), (5, b5), (7, b7), (11, b11), (13, b13)]).natAbs ∣ 30030 ∧ decide (kn c0 [(2, b2), (3, b3), (5, b5), (7, b7), (11, b11), (13, b13)] < 0) = decide (c0 < 0) ∧
    ∀ x ∈ [((2 : Int), b2), (3, b3), (5, b5), (7, b7), (11, b11), (13, b13)],
      ord x.1 (kn c0 [(2, b2), (3, b3), (5, b5), (7, b7), (11, b11), (13, b13)]) = (if x.2 = true then 1 else 0) ∧
      leftM (kn c0 [(2, b2), (3, b3), (5, b5), (7, b7), (11, b11), (13, b13)]) x.1 = unit x.1 (kn c0 [(2, b2), (3, b3), (5, b5), (7, b7), (11, b11), (13, b13)]) := by
  decide +kernel
structure CW (c0 : Int) (c : Int → Int × Int) : Prop where
  s : c0 = 1 ∨ c0 = -1
  v : ∀ p ∈ P6, (c p).1 = 0 ∨ (c p).1 = 1
  r2 : (c 2).2 ∈ [(1 : Int), 3, 5, 7]
  r : ∀ p ∈ P5, (c p).2 = 1 ∨ (c p).2 = -1
theorem CW.known {c0 : Int} {c : Int → Int × Int} (h : CW c0 c) : D (knownM c0 c) ∧ decide (knownM c0 c < 0) = decide (c0 < 0) ∧
    ∀ p ∈ P6, (ord p (knownM c0 c) : Int) = (c p).1 ∧ leftM (knownM c0 c) p = unit p (knownM c0 c) := by
  have hs : c0 ∈ [(1 : Int), -1] := by
    rcases h.s with e | e <;> rw [e] <;> decide
  obtain ⟨d, s, x⟩ := kn_table c0 hs (decide ((c 2).1 = 1)) (decide ((c 3).1 = 1)) (decide ((c 5).1 = 1)) (decide ((c 7).1 = 1)) (decide ((c 11).1 = 1)) (decide ((c 13).1 = 1))
  refine ⟨d, s, fun p hp => ?_⟩
  have hx : (p, decide ((c p).1 = 1)) ∈ [((2 : Int), decide ((c 2).1 = 1)), (3, decide ((c 3).1 = 1)), (5, decide ((c 5).1 = 1)), (7, decide ((c 7).1 = 1)), (11, decide ((c 11).1 = 1)), (13, decide ((c 13).1 = 1))] := by
    show (p, decide ((c p).1 = 1)) ∈ bits fun p => decide ((c p).1 = 1)
    exact List.mem_map.mpr ⟨p, hp, rfl⟩
  obtain ⟨e1, e2⟩ := x _ hx
  refine ⟨?_, e2⟩
  have e1' : ord p (knownM c0 c) = if decide ((c p).1 = 1) = true then 1 else 0 := e1
  rw [e1']
  rcases h.v p hp with e | e
  · rw [e]; rfl
  · rw [e]; rfl
def firstM (c0 : Int) (c : Int → Int × Int) : Int := (c 2).2 * leftM (knownM c0 c) 2 % 8
def wM (c0 : Int) (c : Int → Int × Int) (p : Int) : Int := (c p).2 * sq (leftM (knownM c0 c) p) p
theorem p6_eu {p : Int} (hp : p ∈ P6) : Eu p ∧ p ∈ P7 := by
  have p7 : p ∈ P7 := by
    simp only [P7, P6, List.mem_cons, List.not_mem_nil, or_false] at hp ⊢
    omega
  refine ⟨eu_small p7 ?_, p7⟩
  simp only [P6, List.mem_cons, List.not_mem_nil, or_false] at hp
  omega
theorem CW.want {c0 : Int} {c : Int → Int × Int} (h : CW c0 c) : firstM c0 c ∈ [(1 : Int), 3, 5, 7] ∧ ∀ p ∈ P5, wM c0 c p = 1 ∨ wM c0 c p = -1 := by
  obtain ⟨d, _, x⟩ := h.known
  constructor
  · have e := (x 2 (by decide)).2
    have u := unit_nd (p := 2) (by decide) d.ne0
    rw [← e] at u
    have r := h.r2
    unfold firstM
    generalize leftM (knownM c0 c) 2 = l at *
    generalize (c 2).2 = r2 at *
    simp only [List.mem_cons, List.not_mem_nil, or_false] at r ⊢
    rcases r with rfl | rfl | rfl | rfl <;> omega
  · intro p hp
    have p6 : p ∈ P6 := by
      simp only [P5, P6, List.mem_cons, List.not_mem_nil, or_false] at hp ⊢
      omega
    have eu := (p6_eu p6).1
    have e := (x p p6).2
    have u := unit_nd eu.1 d.ne0
    rw [← e] at u
    unfold wM
    rcases h.r p hp with a | a <;> rcases sq_unit eu.1 u with b | b <;> rw [a, b]
    · exact .inl rfl
    · exact .inr rfl
    · exact .inr rfl
    · exact .inl rfl
def Num (c0 : Int) (c : Int → Int × Int) (A : Int) : Prop :=
  ∃ q : Nat, (q = 1 ∨ Big q) ∧ A = knownM c0 c * q ∧ Fits q (firstM c0 c) (wM c0 c)
def cv (p k : Int) : Int × Int := if p = 2 then ((ord 2 k : Int) % 2, unit 2 k % 8) else ((ord p k : Int) % 2, sq (unit p k) p)
theorem cv_cw {t : Int → Int} {c : Int → Int × Int} {c0 : Int} (hs : c0 = 1 ∨ c0 = -1) (t0 : ∀ p ∈ P6, t p ≠ 0) (hc : ∀ p ∈ P6, c p = cv p (t p)) : CW c0 c := by
  refine ⟨hs, fun p hp => ?_, ?_, fun p hp => ?_⟩
  · rw [hc p hp]
    unfold cv
    by_cases h : p = 2
    · rw [if_pos h]; dsimp only; omega
    · rw [if_neg h]; dsimp only; omega
  · rw [hc 2 (by decide)]
    have u := unit_nd (p := 2) (by decide) (t0 2 (by decide))
    show unit 2 (t 2) % 8 ∈ _
    simp only [List.mem_cons, List.not_mem_nil, or_false]
    omega
  · have p6 : p ∈ P6 := by
      simp only [P5, P6, List.mem_cons, List.not_mem_nil, or_false] at hp ⊢
      omega
    have p2 : p ≠ 2 := by
      simp only [P5, List.mem_cons, List.not_mem_nil, or_false] at hp
      omega
    rw [hc p p6]
    unfold cv
    rw [if_neg p2]
    exact sq_unit (p6_eu p6).1.1 (unit_nd (p6_eu p6).1.1 (t0 p p6))
theorem Fits.nd {q : Nat} {first : Int} {w : Int → Int} (h : Fits q first w) (hf : first ∈ [(1 : Int), 3, 5, 7]) (hw : ∀ p ∈ P5, w p = 1 ∨ w p = -1) : ∀ p ∈ P6, ¬ p ∣ (q : Int) := by
  intro p hp d
  by_cases p2 : p = 2
  · subst p2
    have := h.1
    simp only [List.mem_cons, List.not_mem_nil, or_false] at hf
    omega
  · have p5 : p ∈ P5 := by
      simp only [P5, P6, List.mem_cons, List.not_mem_nil, or_false] at hp ⊢
      omega
    have e := h.2 p p5
    unfold sq at e
    rw [if_pos (Int.emod_eq_zero_of_dvd d)] at e
    rcases hw p p5 with g | g <;> rw [g] at e <;> cases e
theorem num_cls {t : Int → Int} {c : Int → Int × Int} {c0 A : Int} (hs : c0 = 1 ∨ c0 = -1) (t0 : ∀ p ∈ P6, t p ≠ 0) (hc : ∀ p ∈ P6, c p = cv p (t p)) (h : Num c0 c A) :
    A ≠ 0 ∧ (∀ p ∈ P6, cls p A = cls p (t p)) ∧ decide (A < 0) = decide (c0 < 0) := by
  have cw := cv_cw hs t0 hc
  obtain ⟨d, sg, x⟩ := cw.known
  obtain ⟨wf, ww⟩ := cw.want
  obtain ⟨q, hq, rfl, fit⟩ := h
  have nd := fit.nd wf ww
  have q0 : (q : Int) ≠ 0 := fun e => nd 2 (by decide) (by rw [e]; exact ⟨0, rfl⟩)
  refine ⟨Int.mul_ne_zero d.ne0 q0, fun p hp => ?_, ?_⟩
  · obtain ⟨eu, p7⟩ := p6_eu hp
    obtain ⟨o, hl⟩ := x p hp
    obtain ⟨o2, u2⟩ := ord_mul eu d.ne0 q0
    obtain ⟨o3, u3⟩ := ord_unit eu.1 q0 (nd p hp)
    rw [o3, Nat.add_zero] at o2
    rw [u3, ← hl] at u2
    have nl := unit_nd eu.1 d.ne0
    rw [← hl] at nl
    have nt := unit_nd eu.1 (t0 p hp)
    have ep : p ≠ 0 := by have := eu.1; omega
    have hcp := hc p hp
    unfold cls
    rw [if_neg ep, if_neg ep]
    by_cases p2 : p = 2
    · subst p2
      have e1 : (c 2).1 = (ord 2 (t 2) : Int) % 2 := congrArg Prod.fst hcp
      have e2 : (c 2).2 = unit 2 (t 2) % 8 := congrArg Prod.snd hcp
      have f1 : (q : Int) % 8 = (c 2).2 * leftM (knownM c0 c) 2 % 8 := fit.1
      rw [if_pos rfl, if_pos rfl, o2, u2]
      have ou : (leftM (knownM c0 c) 2 * (q : Int)) % 8 = unit 2 (t 2) % 8 := by
        rw [Int.mul_emod, f1, e2]
        generalize leftM (knownM c0 c) 2 = l at *
        generalize unit 2 (t 2) = u at *
        have l8 : l % 8 = 1 ∨ l % 8 = 3 ∨ l % 8 = 5 ∨ l % 8 = 7 := by omega
        rw [Int.mul_emod (u % 8) l]
        have u8 : u % 8 % 8 = 1 ∨ u % 8 % 8 = 3 ∨ u % 8 % 8 = 5 ∨ u % 8 % 8 = 7 := by omega
        have u9 : u % 8 = u % 8 % 8 := by omega
        rw [u9]
        generalize u % 8 % 8 = y at *
        generalize l % 8 = z at *
        rcases l8 with rfl | rfl | rfl | rfl <;> rcases u8 with rfl | rfl | rfl | rfl <;> rfl
      have a1 : leftM (knownM c0 c) 2 * (q : Int) % 2 = 1 := by omega
      have a2 : unit 2 (t 2) % 2 = 1 := by omega
      rw [(eight a1).1, (eight a1).2, (eight a2).1, (eight a2).2, ou, o, e1]
      have : odd ((ord 2 (t 2) : Int) % 2) = odd (ord 2 (t 2)) := by
        unfold odd
        exact decide_eq_decide.mpr (by omega)
      rw [this]
    · have p5 : p ∈ P5 := by
        simp only [P5, P6, List.mem_cons, List.not_mem_nil, or_false] at hp ⊢
        omega
      have hcv : cv p (t p) = ((ord p (t p) : Int) % 2, sq (unit p (t p)) p) := by unfold cv; rw [if_neg p2]
      rw [hcv] at hcp
      have e1 : (c p).1 = (ord p (t p) : Int) % 2 := congrArg Prod.fst hcp
      have e2 : (c p).2 = sq (unit p (t p)) p := congrArg Prod.snd hcp
      have f1 : sq q p = (c p).2 * sq (leftM (knownM c0 c) p) p := fit.2 p p5
      rw [if_neg p2, if_neg p2, o2, u2, o, e1]
      have : odd ((ord p (t p) : Int) % 2) = odd (ord p (t p)) := by
        unfold odd
        exact decide_eq_decide.mpr (by omega)
      rw [this]
      have nm := nres_mul p5 nl (nd p hp)
      unfold nres at nm
      rw [nm, f1, e2]
      rcases sq_unit eu.1 nl with a | a <;> rcases sq_unit eu.1 nt with b | b <;> rw [a, b] <;> rfl
  · have e : decide (knownM c0 c * (q : Int) < 0) = (decide (knownM c0 c < 0) ^^ decide ((q : Int) < 0)) := congrArg Prod.fst (cls_mul (p := 0) (by decide) d.ne0 q0)
    rw [e, sg, decide_eq_false (show ¬ (q : Int) < 0 by omega), Bool.xor_false]
def nbM (p : Int) : Int := if p = 7 then 3 else 2
def kinds (p : Int) : List Int := if p = 2 then [1, 3, 5, 7, 2, 6, 10, 14] else [1, nbM p, p, p * nbM p]
theorem kinds_ne0 : ∀ p ∈ P6, ∀ t ∈ kinds p, t ≠ 0 ∧ t.natAbs < 1000 := by decide +kernel
theorem kinds_all : ∀ p ∈ P6, ∀ x y z : Bool, (p = 2 ∨ z = false) → (x, y, z) ≠ (false, false, false) → ∃ t ∈ kinds p, bil p (cls p t) (x, y, z) = true := by decide +kernel
theorem kinds_ex {signs n : Int} {f : Int → Bool} (c : Can 2 signs n f) {p : Int} (hp : p ∈ P6) : ∃ t ∈ kinds p, saysB t (0 - n) p = !f p := by
  obtain ⟨eu, p7⟩ := p6_eu hp
  have n0 := c.d.ne0
  cases hf : f p with
  | false =>
    refine ⟨1, ?_, ?_⟩
    · unfold kinds
      by_cases h : p = 2
      · rw [if_pos h]; decide
      · rw [if_neg h]; exact List.mem_cons_self
    · have h := hb_one (p := p) (c := 0 - n) p7 (by omega)
      rw [hb_sym p7 (by omega) (by decide)] at h
      unfold hb at h
      cases e : saysB 1 (0 - n) p with
      | true => rfl
      | false => rw [e] at h; cases h
  | true =>
    have ns := c.two rfl p p7 hf
    have nc : cls p (0 - n) ≠ (false, false, false) := fun e => by
      rw [(isSqB_cls p7 (by omega)).mpr e] at ns
      cases ns
    have z : p = 2 ∨ (cls p (0 - n)).2.2 = false := by
      by_cases h : p = 2
      · exact .inl h
      · right
        unfold cls
        rw [if_neg (by have := eu.1; omega), if_neg h]
    have hcl : ∀ t, t ≠ 0 → hb p t (0 - n) = bil p (cls p t) (cls p (0 - n)) := fun t t0 => hb_cls t0 (by omega)
    generalize cls p (0 - n) = cn at *
    obtain ⟨x, y, w⟩ := cn
    obtain ⟨t, ht, e⟩ := kinds_all p hp x y w z nc
    refine ⟨t, ht, ?_⟩
    have := hcl t (kinds_ne0 p hp t ht).1
    rw [e] at this
    unfold hb at this
    cases g : saysB t (0 - n) p with
    | false => rfl
    | true => rw [g] at this; cases this
/-! ### the last two numbers -/
theorem ft_mul {q : Nat} {k n : Int} (k0 : k ≠ 0) (n0 : n ≠ 0) (c : Nat.Coprime q n.natAbs) : ft (k * q) n = ft k n * q := by
  have e : Int.gcd (k * q) n = Int.gcd k n := by
    unfold Int.gcd
    rw [Int.natAbs_mul, Int.natAbs_natCast]
    exact Nat.Coprime.gcd_mul_right_cancel _ c
  unfold ft
  rw [e]
  have d : ((Int.gcd k n : Nat) : Int) ∣ k := Int.gcd_dvd_left k n
  have e2 : k * (q : Int) / (Int.gcd k n : Int) = k / (Int.gcd k n : Int) * q := by
    rw [Int.mul_comm k q, Int.mul_ediv_assoc _ d, Int.mul_comm]
  rw [e2]
  simp only [Int.mul_assoc, Int.mul_left_comm, Int.mul_comm]
theorem Big.cop {q : Nat} (h : Big q) {n : Int} (d : D n) : Nat.Coprime q n.natAbs :=
  h.pr.cop fun e => d.nd h.pr h.lo (Int.ofNat_dvd_left.mpr e)
/-- the symbol at q of two numbers that q divides once -/
theorem hb_at {q : Nat} (h : Big q) {k l : Int} (hk : D k) (hl : D l) (ev : xs (fun p => hb p (k * q) (l * q)) = false) : hb q (k * q) (l * q) = false := by
  have q0 : (q : Int) ≠ 0 := by have := h.lo; omega
  have h0 : (q : Int) ≠ 0 := q0
  have h2 : (q : Int) ≠ 2 := by have := h.lo; omega
  have lo := h.lo
  -- the noes at the small places
  have e1 : xs (fun p => hb p (k * q) (l * q)) = ((xs fun p => hb p k q) ^^ (xs fun p => hb p l q) ^^ (xs fun p => hb p (-1) q)) := by
    have : ∀ p ∈ P7, hb p (k * q) (l * q) = ((hb p k l ^^ hb p k q) ^^ (hb p l q ^^ hb p (-1) q)) := by
      intro p hp
      rw [hb_mul hp hk.ne0 q0 (Int.mul_ne_zero hl.ne0 q0), hb_mul' hp hl.ne0 q0 hk.ne0, hb_mul' hp hl.ne0 q0 q0, hb_sym hp q0 hl.ne0]
      have hn := hb_neg (p := p) hp q0
      rw [hb_mul' hp (by decide) q0 q0, hb_sym hp q0 (by decide)] at hn
      generalize hb p q q = x at *
      generalize hb p (-1) q = y at *
      cases x <;> cases y <;> first | rfl | cases hn
    rw [xs_congr this, xs_xor, xs_xor, xs_xor, pf hk.sm hl.sm, Bool.false_xor, Bool.xor_assoc]
  rw [e1, xs_ownm h] at ev
  rw [hb_cls (Int.mul_ne_zero hk.ne0 q0) (Int.mul_ne_zero hl.ne0 q0)]
  have own : ∀ u : Int, D u → ord q (u * q) = 1 ∧ unit q (u * q) = u ∧ nres u q = xs (fun p => hb p u q) := by
    intro u hu
    obtain ⟨a, b⟩ := Spl.is (p := (q : Int)) (k := u * q) (u := u) (a := 1) (by omega) (Int.mul_ne_zero hu.ne0 q0) ⟨by rw [Int.pow_succ, Int.pow_zero, Int.one_mul, Int.mul_comm], hu.nd h.pr h.lo⟩
    refine ⟨a, b, ?_⟩
    have nd : ¬ u % (q : Int) = 0 := fun e => hu.nd h.pr h.lo (Int.dvd_of_emod_eq_zero e)
    have eh : (((q : Int) - 1) / 2).toNat = hf q := by unfold hf; omega
    unfold nres sq
    rw [if_neg nd, eh]
    rcases recip h hu.sm with ⟨r1, r2⟩ | ⟨r1, r2⟩
    · rw [r2, if_pos (.inr r1)]; rfl
    · rw [r2, if_neg]
      · rfl
      · rintro (z | z)
        · omega
        · omega
  obtain ⟨a1, b1, c1⟩ := own k hk
  obtain ⟨a2, b2, c2⟩ := own l hl
  unfold nres at c1 c2
  unfold cls bil
  simp only [if_neg h0, if_neg h2]
  rw [a1, a2, b1, b2, c1, c2]
  show (((true && true && _) ^^ (_ && true)) ^^ (_ && true)) = false
  simp only [Bool.true_and, Bool.and_true]
  revert ev
  generalize xs (fun p => hb p k q) = x
  generalize xs (fun p => hb p l q) = y
  generalize odd _ = z
  cases x <;> cases y <;> cases z <;> decide
theorem prod_two (a b : Int) : prod [a, b] = a * b := by
  show a * (b * 1) = a * b
  rw [Int.mul_one]
theorem nz_two {p : Int} (a b : Int) : nz p [a, b] = hb p a b := by
  show odd ((((if hb p a b = true then 1 else 0) + 0) + (0 + 0) : Nat) : Int) = _
  cases hb p a b <;> rfl
theorem two_good {signs n c0 A : Int} {f : Int → Bool} {t : Int → Int} {c : Int → Int × Int} (can : Can 2 signs n f) (hc0 : c0 = if signs = 0 then -1 else 1)
    (ht : ∀ p ∈ P6, t p ≠ 0 ∧ saysB (t p) (0 - n) p = !f p) (hc : ∀ p ∈ P6, c p = cv p (t p)) (h : Num c0 c A) :
    Good 2 signs n f [A, ft A n] ∧ SqF A.natAbs ∧ A.natAbs < 1073741824 := by
  have hs : c0 = 1 ∨ c0 = -1 := by
    by_cases z : signs = 0
    · rw [if_pos z] at hc0; exact .inr hc0
    · rw [if_neg z] at hc0; exact .inl hc0
  obtain ⟨a0, hcl, sg⟩ := num_cls hs (fun p hp => (ht p hp).1) hc h
  obtain ⟨dk, _, _⟩ := (cv_cw hs (fun p hp => (ht p hp).1) hc).known
  obtain ⟨q, hq, eA, _⟩ := h
  generalize knownM c0 c = k at *
  have n0 := can.d.ne0
  have lo := can.s0
  have hi := can.s1
  have csg := can.sgn
  have czr := can.zero
  -- the other one
  have eo : ∃ l, D l ∧ ft A n = l * q := by
    rcases hq with rfl | hq
    · refine ⟨ft k n, ft_D dk can.d, ?_⟩
      rw [eA]; simp
    · exact ⟨ft k n, ft_D dk can.d, by rw [eA]; exact ft_mul dk.ne0 n0 (hq.cop can.d)⟩
  obtain ⟨l, dl, el⟩ := eo
  have qb : q < 8192 ∧ 0 < q := by
    rcases hq with rfl | hq
    · exact ⟨by decide, by decide⟩
    · exact ⟨hq.hi, by have := hq.lo; omega⟩
  have o0 : ft A n ≠ 0 := by
    rw [el]; exact Int.mul_ne_zero dl.ne0 (by omega)
  have bd : ∀ u : Int, D u → (u * (q : Int)).natAbs < 1073741824 := by
    intro u hu
    rw [Int.natAbs_mul, Int.natAbs_natCast]
    have h1 := Nat.mul_le_mul hu.le (Nat.le_of_lt_succ (Nat.lt_succ_of_lt qb.1))
    omega
  obtain ⟨z, z0, ez⟩ := ft_sq' (a := A) (b := n) a0
  obtain ⟨y, y0, ey⟩ := ft_sq (a := A) (b := n) a0
  have An0 : A * n ≠ 0 := Int.mul_ne_zero a0 n0
  have nzA : ∀ p ∈ P7, hb p A (ft A n) = f p := by
    intro p hp
    have e1 : hb p A (ft A n) = hb p A (A * n) := by
      rw [ey, hb_sq hp o0 y0 a0]
    have e2 : A * n = (-1 * A) * (0 - n) := by
      rw [Int.mul_assoc, Int.mul_sub, Int.mul_zero]; omega
    rw [e1, e2, hb_mul' hp (Int.mul_ne_zero (by decide) a0) (by omega) a0, hb_neg hp a0, Bool.false_xor]
    by_cases p0 : p = 0
    · subst p0
      have e3 : hb 0 A (0 - n) = (decide (A < 0) && decide (0 - n < 0)) := hb_cls a0 (by omega)
      rw [e3, sg, hc0, czr]
      unfold odd at csg
      have csg' := decide_eq_decide.mp csg
      have : signs = 0 ∨ signs = 1 ∨ signs = 2 := by omega
      rcases this with rfl | rfl | rfl
      · rw [if_pos rfl, decide_eq_true (show 0 - n < 0 by omega)]; decide
      · rw [if_neg (by decide)]
        generalize decide (0 - n < 0) = v
        revert v; decide
      · rw [if_neg (by decide)]
        generalize decide (0 - n < 0) = v
        revert v; decide
    · have p6 : p ∈ P6 := by
        simp only [P7, P6, List.mem_cons, List.not_mem_nil, or_false] at hp ⊢
        omega
      obtain ⟨t0, es⟩ := ht p p6
      rw [hb_cls a0 (by omega), hcl p p6, ← hb_cls t0 (by omega)]
      unfold hb
      rw [es, Bool.not_not]
  have sgo : (A * ft A n < 0) ↔ n < 0 := by rw [ez]; exact sign_sq z0
  refine ⟨⟨rfl, ?_, ⟨z, z0, by rw [prod_two]; exact ez⟩, fun p hp => by rw [nz_two]; exact nzA p hp, ?_, ?_, ?_, ?_⟩, ?_, ?_⟩
  · -- the signs
    rw [posc_cons, posc_cons]
    show (((if 0 < A then 1 else 0) + ((if 0 < ft A n then 1 else 0) + 0) : Nat) : Int) = signs
    unfold odd at csg
    have csg' := decide_eq_decide.mp csg
    have sg' := decide_eq_decide.mp sg
    have : signs = 0 ∨ signs = 1 ∨ signs = 2 := by omega
    rcases this with rfl | rfl | rfl
    · have hA : A < 0 := by rw [if_pos rfl] at hc0; omega
      have ho : ¬ 0 < ft A n := fun g => by
        have := Int.mul_neg_of_neg_of_pos hA g
        omega
      rw [if_neg (by omega), if_neg ho]; rfl
    · have hA : 0 < A := by rw [if_neg (by decide)] at hc0; omega
      have ho : ¬ 0 < ft A n := fun g => by
        have := Int.mul_pos hA g
        omega
      rw [if_pos hA, if_neg ho]; rfl
    · have hA : 0 < A := by rw [if_neg (by decide)] at hc0; omega
      have ho : 0 < ft A n := by
        rcases Int.lt_or_gt_of_ne o0 with g | g
        · have := Int.mul_neg_of_pos_of_neg hA g
          omega
        · exact g
      rw [if_pos hA, if_pos ho]; rfl
  · intro a ha
    simp only [List.mem_cons, List.not_mem_nil, or_false] at ha
    rcases ha with rfl | rfl
    · exact a0
    · exact o0
  · intro a ha
    simp only [List.mem_cons, List.not_mem_nil, or_false] at ha
    rcases ha with rfl | rfl
    · rw [eA]; exact bd k dk
    · rw [el]; exact bd l dl
  · intro p pp plo
    rw [nz_two]
    by_cases pq : q = p
    · subst pq
      rcases hq with rfl | hq
      · omega
      · rw [el, eA]
        refine hb_at hq dk dl ?_
        rw [← el, ← eA, xs_congr nzA]
        exact can.even
    · have ndq : ¬ p ∣ q := by
        rcases hq with rfl | hq
        · exact pp.not_one
        · exact fun d => pq (pp.eq hq.pr d).symm
      have nd : ∀ u : Int, D u → ¬ (p : Int) ∣ u * q := fun u hu d => by
        rcases pp.eu.2 _ _ d with d | d
        · exact hu.nd pp plo d
        · exact ndq (Int.ofNat_dvd.mp d)
      have nA : ¬ (p : Int) ∣ A := by rw [eA]; exact nd k dk
      have no : ¬ (p : Int) ∣ ft A n := by rw [el]; exact nd l dl
      rw [hb_unitP pp (by omega) a0 o0 nA, (ord_unit (by omega) o0 no).1]
      show (_ && false) = false
      rw [Bool.and_false]
  · refine ⟨q, fun a ha p pp d => ?_⟩
    have pr : ∀ u : Int, D u → p ∣ (u * (q : Int)).natAbs → p ∈ SQ q := by
      intro u hu d
      rw [Int.natAbs_mul, Int.natAbs_natCast] at d
      unfold SQ
      rcases pp.euclid d with d | d
      · have := prs_of pp (Nat.dvd_trans d hu)
        simp only [SP, List.mem_cons, List.not_mem_nil, or_false] at this ⊢
        omega
      · have : p = q := by
          rcases hq with rfl | hq
          · exact absurd d pp.not_one
          · exact pp.eq hq.pr d
        simp [this]
    simp only [List.mem_cons, List.not_mem_nil, or_false] at ha
    rcases ha with rfl | rfl
    · rw [eA] at d; exact pr k dk d
    · rw [el] at d; exact pr l dl d
  · rw [eA, Int.natAbs_mul, Int.natAbs_natCast]
    rcases hq with rfl | hq
    · rw [Nat.mul_one]; exact dk.sqf
    · refine dk.sqf.mul hq.pr.sqf fun p pp d1 d2 => ?_
      have := pp.eq hq.pr d2
      subst this
      exact dk.nd pp hq.lo (Int.ofNat_dvd_left.mpr d1)
  · rw [eA]; exact bd k dk
/-! ### nothing parts two rows that meet one wish -/
def Place (p : Int) (r : List Int) : Prop := p = 0 ∨ p = 2 ∨ ∃ q : Nat, p = (q : Int) ∧ Pr q ∧ ∃ a ∈ r, q ∣ a.natAbs
theorem noes_same {r s : List Int} (r0 : ∀ a ∈ r, a ≠ 0) (s0 : ∀ a ∈ s, a ≠ 0) (e : ∀ p ∈ P7, nz p r = nz p s) (br : ∀ p : Nat, Pr p → 13 < p → nz p r = false) {p : Int}
    (h : Place p r) (hn : nz p r = true) : Place p s ∧ nz p s = true := by
  rcases h with rfl | rfl | ⟨q, rfl, qq, a, ha, d⟩
  · exact ⟨.inl rfl, by rw [← e 0 (by decide)]; exact hn⟩
  · exact ⟨.inr (.inl rfl), by rw [← e 2 (by decide)]; exact hn⟩
  · have ql : q ≤ 13 := by
      apply Nat.le_of_not_lt
      intro l
      rw [br q qq l] at hn
      cases hn
    have q7 : (q : Int) ∈ P7 := by
      have : q ∈ SP := by
        have := qq.two
        have h2 : q ≠ 4 ∧ q ≠ 6 ∧ q ≠ 8 ∧ q ≠ 9 ∧ q ≠ 10 ∧ q ≠ 12 := by
          refine ⟨?_, ?_, ?_, ?_, ?_, ?_⟩
          · rintro rfl
            have := qq.2 2 (by decide)
            omega
          · rintro rfl
            have := qq.2 2 (by decide)
            omega
          · rintro rfl
            have := qq.2 2 (by decide)
            omega
          · rintro rfl
            have := qq.2 3 (by decide)
            omega
          · rintro rfl
            have := qq.2 2 (by decide)
            omega
          · rintro rfl
            have := qq.2 2 (by decide)
            omega
        simp only [SP, List.mem_cons, List.not_mem_nil, or_false]
        omega
      simp only [SP, P7, List.mem_cons, List.not_mem_nil, or_false] at this ⊢
      omega
    have hs : nz q s = true := by rw [← e q q7]; exact hn
    refine ⟨?_, hs⟩
    by_cases q2 : q = 2
    · subst q2; exact .inr (.inl rfl)
    · right; right
      refine ⟨q, rfl, qq, ?_⟩
      apply Classical.byContradiction
      intro no
      have := nz_units qq (by have := qq.two; omega) s0 fun b hb' d' => no ⟨b, hb', Int.ofNat_dvd_left.mp d'⟩
      rw [this] at hs
      cases hs
/-! ### trial division -/
def pp : List (Nat × Nat) → Nat
  | [] => 1
  | c :: l => c.1 ^ c.2 * pp l
def fp : List (Nat × Nat) → Nat
  | [] => 1
  | c :: l => (if c.2 % 2 = 1 then c.1 else 1) * fp l
def hp : List (Nat × Nat) → Nat
  | [] => 1
  | c :: l => c.1 ^ (c.2 / 2) * hp l
theorem pp_app (l : List (Nat × Nat)) (c : Nat × Nat) : pp (l ++ [c]) = pp l * c.1 ^ c.2 := by
  induction l with
  | nil => simp [pp]
  | cons x l ih => simp only [List.cons_append, pp, ih, Nat.mul_assoc]
theorem fp_app (l : List (Nat × Nat)) (c : Nat × Nat) : fp (l ++ [c]) = fp l * (if c.2 % 2 = 1 then c.1 else 1) := by
  induction l with
  | nil => simp [fp]
  | cons x l ih => simp only [List.cons_append, fp, ih, Nat.mul_assoc]
theorem pp_fp (l : List (Nat × Nat)) : pp l = fp l * (hp l * hp l) := by
  induction l with
  | nil => rfl
  | cons c l ih =>
    have e : c.1 ^ c.2 = (if c.2 % 2 = 1 then c.1 else 1) * (c.1 ^ (c.2 / 2) * c.1 ^ (c.2 / 2)) := by
      have h : c.2 = c.2 / 2 + c.2 / 2 + c.2 % 2 := by omega
      by_cases o : c.2 % 2 = 1
      · rw [if_pos o]
        rw [o] at h
        conv => lhs; rw [h]
        rw [Nat.pow_succ, Nat.pow_add, Nat.mul_comm]
      · rw [if_neg o, Nat.one_mul, ← Nat.pow_add]
        congr 1
        omega
    show c.1 ^ c.2 * pp l = _ * fp l * (_ * hp l * (_ * hp l))
    rw [ih, e]
    simp only [Nat.mul_assoc, Nat.mul_left_comm, Nat.mul_comm]
theorem hp_pos {l : List (Nat × Nat)} (h : ∀ c ∈ l, Pr c.1) : 0 < hp l := by
  induction l with
  | nil => decide
  | cons c l ih => exact Nat.mul_pos (Nat.pow_pos (h c List.mem_cons_self).pos) (ih fun x hx => h x (List.mem_cons_of_mem _ hx))
theorem pp_dvd {l : List (Nat × Nat)} (h : ∀ c ∈ l, Pr c.1) {p : Nat} (pr : Pr p) (d : p ∣ pp l) : p ∈ l.map Prod.fst := by
  induction l with
  | nil => exact absurd d pr.not_one
  | cons c l ih =>
    rcases pr.euclid d with d | d
    · have := pr.eq (h c List.mem_cons_self) (pr.dvd_pow d)
      rw [this]; exact List.mem_cons_self
    · exact List.mem_cons_of_mem _ (ih (fun x hx => h x (List.mem_cons_of_mem _ hx)) d)
theorem fp_dvd {l : List (Nat × Nat)} (h : ∀ c ∈ l, Pr c.1) {p : Nat} (pr : Pr p) (d : p ∣ fp l) : p ∈ l.map Prod.fst := by
  refine pp_dvd h pr ?_
  rw [pp_fp]
  exact Nat.dvd_trans d (Nat.dvd_mul_right _ _)
theorem key_dvd {l : List (Nat × Nat)} (h : ∀ c ∈ l, 1 ≤ c.2) {p : Nat} (m : p ∈ l.map Prod.fst) : p ∣ pp l := by
  induction l with
  | nil => cases m
  | cons c l ih =>
    rcases List.mem_cons.mp m with e | e
    · subst e
      have := h c List.mem_cons_self
      exact Nat.dvd_trans (Nat.dvd_trans (by rw [Nat.pow_one]; exact Nat.dvd_refl _) (Nat.pow_dvd_pow c.1 this)) (Nat.dvd_mul_right _ _)
    · exact Nat.dvd_trans (ih (fun x hx => h x (List.mem_cons_of_mem _ hx)) e) (Nat.dvd_mul_left _ _)
theorem fp_sqf {l : List (Nat × Nat)} (h : ∀ c ∈ l, Pr c.1) (nd : (l.map Prod.fst).Nodup) : SqF (fp l) := by
  induction l with
  | nil => exact sqf_one
  | cons c l ih =>
    have hl : ∀ x ∈ l, Pr x.1 := fun x hx => h x (List.mem_cons_of_mem _ hx)
    have hc := h c List.mem_cons_self
    rw [List.map_cons, List.nodup_cons] at nd
    refine SqF.mul ?_ (ih hl nd.2) fun p pr d1 d2 => ?_
    · by_cases o : c.2 % 2 = 1
      · rw [if_pos o]; exact hc.sqf
      · rw [if_neg o]; exact sqf_one
    · have m := fp_dvd hl pr d2
      by_cases o : c.2 % 2 = 1
      · rw [if_pos o] at d1
        rw [pr.eq hc d1] at m
        exact nd.1 m
      · rw [if_neg o] at d1
        exact pr.not_one d1
/-- what trial division has found -/
structure Tr (k : Nat) (L : List (Nat × Nat)) (left : Nat) : Prop where
  eq : k = pp L * left
  pr : ∀ c ∈ L, Pr c.1
  one : ∀ c ∈ L, 1 ≤ c.2
  nd : (L.map Prod.fst).Nodup
  rest : left = 1 ∨ (Pr left ∧ left ∉ L.map Prod.fst)
structure TrI (k : Nat) (L : List (Nat × Nat)) (left d : Nat) : Prop where
  eq : k = pp L * left
  pr : ∀ c ∈ L, Pr c.1
  one : ∀ c ∈ L, 1 ≤ c.2
  nd : (L.map Prod.fst).Nodup
  lt : ∀ c ∈ L, c.1 < d
  rough : Rough d left
  pos : 1 ≤ left
  d2 : 2 ≤ d
  od : d = 2 ∨ d % 2 = 1
theorem TrI.start {k : Nat} (h : 1 ≤ k) : TrI k [] k 2 :=
  ⟨(Nat.one_mul k).symm, (fun _ h => nomatch h), (fun _ h => nomatch h), List.nodup_nil, (fun _ h => nomatch h), fun m _ _ => by omega, h, by decide, .inl rfl⟩
theorem Rough.dvd {d n m : Nat} (r : Rough d n) (h : m ∣ n) : Rough d m := fun x h1 h2 h3 => r x h1 h2 (Nat.dvd_trans h3 h)
theorem Rough.next {d n : Nat} (r : Rough d n) (h2 : 2 ≤ d) (nd : ¬ d ∣ n) (o : d = 2 ∨ d % 2 = 1) : Rough (d + 1 + d % 2) n := by
  intro m m2 ml
  by_cases c : m < d
  · exact r m m2 c
  by_cases e : m = d
  · rw [e]; exact nd
  · rcases o with o | o
    · omega
    · have e2 : m = d + 1 := by omega
      intro dv
      have : 2 ∣ n := Nat.dvd_trans ⟨m / 2, by omega⟩ dv
      exact r 2 (by omega) (by omega) this
theorem TrI.step {k left d a rest : Nat} {L : List (Nat × Nat)} (t : TrI k L left d) (e : left = rest * d ^ a) (nd : ¬ d ∣ rest) :
    TrI k (if 0 < a then L ++ [(d, a)] else L) rest (d + 1 + d % 2) := by
  have rd : rest ∣ left := ⟨d ^ a, e⟩
  have r0 : 1 ≤ rest := by
    have := t.pos
    apply Nat.pos_of_ne_zero
    rintro rfl
    simp at e
    omega
  have rough := (t.rough.dvd rd).next t.d2 nd t.od
  have od : (d + 1 + d % 2) = 2 ∨ (d + 1 + d % 2) % 2 = 1 := by omega
  by_cases c : 0 < a
  · rw [if_pos c]
    have pd : Pr d := t.rough.pr t.d2 (by
      rw [e]
      exact Nat.dvd_trans (Nat.dvd_trans (by rw [Nat.pow_one]; exact Nat.dvd_refl d) (Nat.pow_dvd_pow d c)) (Nat.dvd_mul_left _ _))
    refine ⟨?_, ?_, ?_, ?_, ?_, rough, r0, by have := t.d2; omega, od⟩
    · rw [pp_app, t.eq, e]
      simp only [Nat.mul_assoc, Nat.mul_left_comm, Nat.mul_comm]
    · intro x hx
      rcases List.mem_append.mp hx with h | h
      · exact t.pr x h
      · rw [List.mem_singleton.mp h]; exact pd
    · intro x hx
      rcases List.mem_append.mp hx with h | h
      · exact t.one x h
      · rw [List.mem_singleton.mp h]; exact c
    · rw [List.map_append, List.nodup_append]
      refine ⟨t.nd, by simp, fun x hx y hy => ?_⟩
      obtain ⟨z, hz, rfl⟩ := List.mem_map.mp hx
      have := t.lt z hz
      simp at hy
      omega
    · intro x hx
      rcases List.mem_append.mp hx with h | h
      · have := t.lt x h
        omega
      · rw [List.mem_singleton.mp h]
        show d < _
        omega
  · rw [if_neg c]
    have a0 : a = 0 := by omega
    subst a0
    rw [Nat.pow_zero, Nat.mul_one] at e
    subst e
    exact ⟨t.eq, t.pr, t.one, t.nd, fun x hx => by have := t.lt x hx; omega, rough, r0, by have := t.d2; omega, od⟩
theorem TrI.last {k left d : Nat} {L : List (Nat × Nat)} (t : TrI k L left d) (hk : k < 1073741824) (x : ¬ (d < 32768 ∧ d * d ≤ left)) : left = 1 ∨ (Pr left ∧ left ∉ L.map Prod.fst) := by
  by_cases l1 : left = 1
  · exact .inl l1
  right
  have l2 : 2 ≤ left := by have := t.pos; omega
  have lk : left ≤ k := Nat.le_of_dvd (by
    rw [t.eq]
    refine Nat.mul_pos ?_ (by omega)
    rw [pp_fp]
    exact Nat.mul_pos (Nat.pos_of_ne_zero (fp_sqf t.pr t.nd).ne0) (Nat.mul_pos (hp_pos t.pr) (hp_pos t.pr))) ⟨pp L, by rw [t.eq, Nat.mul_comm]⟩
  have lt : left < d * d := by
    by_cases c : d < 32768
    · exact Nat.lt_of_not_le fun h => x ⟨c, h⟩
    · have := Nat.mul_le_mul (show 32768 ≤ d by omega) (show 32768 ≤ d by omega)
      omega
  refine ⟨pr_of_rough l2 t.rough lt, fun m => ?_⟩
  obtain ⟨c, hc, e⟩ := List.mem_map.mp m
  have := t.lt c hc
  exact t.rough left l2 (by omega) (Nat.dvd_refl _)
theorem TrI.tr {k left d : Nat} {L : List (Nat × Nat)} (t : TrI k L left d) (hk : k < 1073741824) (x : ¬ (d < 32768 ∧ d * d ≤ left)) :
    Tr k (if 1 < left ∧ left < 32768 then L ++ [(left, 1)] else L) (if 1 < left ∧ left < 32768 then 1 else left) := by
  have la := t.last hk x
  by_cases c : 1 < left ∧ left < 32768
  · rw [if_pos c, if_pos c]
    rcases la with e | ⟨p, n⟩
    · omega
    refine ⟨?_, ?_, ?_, ?_, .inl rfl⟩
    · rw [pp_app, t.eq]; simp
    · intro x hx
      rcases List.mem_append.mp hx with h | h
      · exact t.pr x h
      · rw [List.mem_singleton.mp h]; exact p
    · intro x hx
      rcases List.mem_append.mp hx with h | h
      · exact t.one x h
      · rw [List.mem_singleton.mp h]; exact Nat.le_refl 1
    · rw [List.map_append, List.nodup_append]
      refine ⟨t.nd, by simp, fun x hx y hy e => ?_⟩
      simp at hy
      subst e
      rw [hy] at hx
      exact n hx
  · rw [if_neg c, if_neg c]
    exact ⟨t.eq, t.pr, t.one, t.nd, la⟩
/-- the primes of a number -/
def PartsOf (k : Nat) (L : List (Nat × Nat)) : Prop := (∀ p, p ∈ L.map Prod.fst ↔ Pr p ∧ p ∣ k) ∧ (L.map Prod.fst).Nodup
theorem Tr.parts {k left : Nat} {L : List (Nat × Nat)} (t : Tr k L left) : PartsOf k (if 1 < left then L ++ [(left, 1)] else L) := by
  have base : ∀ p, p ∈ L.map Prod.fst → Pr p ∧ p ∣ k := by
    intro p m
    obtain ⟨c, hc, rfl⟩ := List.mem_map.mp m
    refine ⟨t.pr c hc, ?_⟩
    rw [t.eq]
    exact Nat.dvd_trans (key_dvd t.one m) (Nat.dvd_mul_right _ _)
  rcases t.rest with e | ⟨p, n⟩
  · rw [if_neg (by omega)]
    refine ⟨fun p => ⟨base p, fun ⟨pr, d⟩ => ?_⟩, t.nd⟩
    rw [t.eq, e, Nat.mul_one] at d
    exact pp_dvd t.pr pr d
  · rw [if_pos (by have := p.two; omega)]
    constructor
    · intro q
      rw [List.map_append, List.mem_append]
      constructor
      · rintro (h | h)
        · exact base q h
        · simp at h
          subst h
          exact ⟨p, by rw [t.eq]; exact Nat.dvd_mul_left _ _⟩
      · rintro ⟨pr, d⟩
        rw [t.eq] at d
        rcases pr.euclid d with d | d
        · exact .inl (pp_dvd t.pr pr d)
        · right
          rw [pr.eq p d]; simp
    · rw [List.map_append, List.nodup_append]
      refine ⟨t.nd, by simp, fun x hx y hy e => ?_⟩
      simp at hy
      subst e
      rw [hy] at hx
      exact n hx
theorem Pr.not_sq {p : Nat} (h : Pr p) (r : Nat) : r * r ≠ p := fun e => by
  have := h.sqf r ⟨1, by rw [e, Nat.mul_one]⟩
  subst this
  have := h.two
  omega
theorem Tr.free {k left : Nat} {L : List (Nat × Nat)} (t : Tr k L left) : SqF (fp L * left) ∧ ∃ s, 0 < s ∧ k = fp L * left * (s * s) := by
  constructor
  · rcases t.rest with e | ⟨p, n⟩
    · rw [e, Nat.mul_one]; exact fp_sqf t.pr t.nd
    · refine (fp_sqf t.pr t.nd).mul p.sqf fun q pr d1 d2 => ?_
      have := fp_dvd t.pr pr d1
      rw [pr.eq p d2] at this
      exact n this
  · refine ⟨hp L, hp_pos t.pr, ?_⟩
    rw [t.eq, pp_fp]
    simp only [Nat.mul_assoc, Nat.mul_left_comm, Nat.mul_comm]
/-! ### the law's own way to free a number -/
structure LfI (n free left d : Nat) : Prop where
  eq : ∃ s, 0 < s ∧ n = free * (s * s) * left
  sqf : SqF free
  lt : ∀ p, Pr p → p ∣ free → p < d
  rough : Rough d left
  pos : 1 ≤ left
  d2 : 2 ≤ d
theorem LfI.start {n : Nat} (h : 1 ≤ n) : LfI n 1 n 2 :=
  ⟨⟨1, by decide, by simp⟩, sqf_one, fun p pr d => absurd d pr.not_one, fun m _ _ => by omega, h, by decide⟩
theorem LfI.step {n free left d a rest : Nat} (t : LfI n free left d) (e : left = rest * d ^ a) (nd : ¬ d ∣ rest) :
    LfI n (if a % 2 = 1 then free * d else free) rest (d + 1) := by
  have rd : rest ∣ left := ⟨d ^ a, e⟩
  have r0 : 1 ≤ rest := by
    have := t.pos
    apply Nat.pos_of_ne_zero
    rintro rfl
    simp at e
    omega
  have rough : Rough (d + 1) rest := by
    intro m m2 ml dv
    by_cases c : m = d
    · rw [c] at dv; exact nd dv
    · exact (t.rough.dvd rd) m m2 (by omega) dv
  obtain ⟨s, s0, es⟩ := t.eq
  have dp := Nat.lt_of_lt_of_le (show 0 < 2 by decide) t.d2
  have half : d ^ a = (if a % 2 = 1 then d else 1) * (d ^ (a / 2) * d ^ (a / 2)) := by
    have h : a = a / 2 + a / 2 + a % 2 := by omega
    by_cases o : a % 2 = 1
    · rw [if_pos o]
      rw [o] at h
      conv => lhs; rw [h]
      rw [Nat.pow_succ, Nat.pow_add, Nat.mul_comm]
    · rw [if_neg o, Nat.one_mul, ← Nat.pow_add]
      congr 1
      omega
  refine ⟨⟨s * d ^ (a / 2), Nat.mul_pos s0 (Nat.pow_pos dp), ?_⟩, ?_, ?_, rough, r0, by have := t.d2; omega⟩
  · rw [es, e, half]
    by_cases o : a % 2 = 1
    · rw [if_pos o, if_pos o]
      simp only [Nat.mul_assoc, Nat.mul_left_comm, Nat.mul_comm]
    · rw [if_neg o, if_neg o, Nat.one_mul]
      simp only [Nat.mul_assoc, Nat.mul_left_comm, Nat.mul_comm]
  · by_cases o : a % 2 = 1
    · rw [if_pos o]
      have pd : Pr d := t.rough.pr t.d2 (by
        rw [e]
        exact Nat.dvd_trans (Nat.dvd_trans (by rw [Nat.pow_one]; exact Nat.dvd_refl d) (Nat.pow_dvd_pow d (show 1 ≤ a by omega))) (Nat.dvd_mul_left _ _))
      refine t.sqf.mul pd.sqf fun p pr d1 d2 => ?_
      have := t.lt p pr d1
      have := pr.eq pd d2
      omega
    · rw [if_neg o]; exact t.sqf
  · intro p pr dv
    by_cases o : a % 2 = 1
    · rw [if_pos o] at dv
      rcases pr.euclid dv with h | h
      · have := t.lt p pr h
        omega
      · have := Nat.le_of_dvd dp h
        omega
    · rw [if_neg o] at dv
      have := t.lt p pr dv
      omega
theorem LfI.last {n free left d : Nat} (t : LfI n free left d) (x : left < d * d * d) :
    ((∃ r, r * r = left) → SqF free ∧ ∃ s, 0 < s ∧ n = free * (s * s)) ∧ ((¬ ∃ r, r * r = left) → SqF (free * left) ∧ ∃ s, 0 < s ∧ n = free * left * (s * s)) := by
  obtain ⟨s, s0, es⟩ := t.eq
  constructor
  · rintro ⟨r, rfl⟩
    refine ⟨t.sqf, s * r, ?_, ?_⟩
    · refine Nat.mul_pos s0 (Nat.pos_of_ne_zero ?_)
      rintro rfl
      have := t.pos
      omega
    · rw [es]
      simp only [Nat.mul_assoc, Nat.mul_left_comm, Nat.mul_comm]
  · intro no
    have ge : ∀ m, 2 ≤ m → m ∣ left → d ≤ m := fun m m2 dv => Nat.le_of_not_lt fun l => t.rough m m2 l dv
    refine ⟨t.sqf.mul (sqf_of_pr fun p pr dv => ?_) fun p pr d1 d2 => ?_, s, s0, ?_⟩
    · obtain ⟨m, em⟩ := dv
      by_cases m1 : m = 1
      · exact no ⟨p, by rw [em, m1, Nat.mul_one]⟩
      have m0 : m ≠ 0 := by
        rintro rfl
        have := t.pos
        simp at em
        omega
      have h1 := ge p pr.two (Nat.dvd_trans (Nat.dvd_mul_right p p) ⟨m, em⟩)
      have h2 := ge m (by omega) ⟨p * p, by rw [em, Nat.mul_comm]⟩
      have h3 := Nat.mul_le_mul (Nat.mul_le_mul h1 h1) h2
      omega
    · have := t.lt p pr d1
      have := ge p pr.two d2
      omega
    · rw [es]
      simp only [Nat.mul_assoc, Nat.mul_left_comm, Nat.mul_comm]
open PySem PySem.Spec PyProof.Rows L2 Evl
def topS (i : Nat) : Stmt := PySem.Challenge.pw_everyplace_k64_whole_every_row_can_be.main.body.getD i (.Pass ⟨0, 0, 0, 0⟩)
abbrev st_common : Stmt := topS 5
abbrev names_common : List Str := ["one", "other"]
theorem sc_common : FnScope names_common ["one", "other"] (defScope st_common) := ⟨rfl, rfl, rfl, by decide +kernel, rfl, by decide +kernel, by decide +kernel⟩
abbrev st_is_prime : Stmt := topS 9
abbrev names_is_prime : List Str := ["k", "d"]
theorem sc_is_prime : FnScope names_is_prime ["k"] (defScope st_is_prime) := ⟨rfl, rfl, rfl, by decide +kernel, rfl, by decide +kernel, by decide +kernel⟩
abbrev st_tried : Stmt := topS 10
abbrev names_tried : List Str := ["k", "found", "left", "d", "often"]
theorem sc_tried : FnScope names_tried ["k"] (defScope st_tried) := ⟨rfl, rfl, rfl, by decide +kernel, rfl, by decide +kernel, by decide +kernel⟩
abbrev st_parts : Stmt := topS 11
abbrev names_parts : List Str := ["k", "found", "left"]
theorem sc_parts : FnScope names_parts ["k"] (defScope st_parts) := ⟨rfl, rfl, rfl, by decide +kernel, rfl, by decide +kernel, by decide +kernel⟩
abbrev st_whole_root : Stmt := topS 12
abbrev names_whole_root : List Str := ["k", "low", "high", "middle"]
theorem sc_whole_root : FnScope names_whole_root ["k"] (defScope st_whole_root) := ⟨rfl, rfl, rfl, by decide +kernel, rfl, by decide +kernel, by decide +kernel⟩
abbrev st_is_square : Stmt := topS 13
abbrev names_is_square : List Str := ["k"]
theorem sc_is_square : FnScope names_is_square ["k"] (defScope st_is_square) := ⟨rfl, rfl, rfl, by decide +kernel, rfl, by decide +kernel, by decide +kernel⟩
abbrev st_free_of : Stmt := topS 14
abbrev names_free_of : List Str := ["k", "found", "left", "prime", "often"]
theorem sc_free_of : FnScope names_free_of ["k"] (defScope st_free_of) := ⟨rfl, rfl, rfl, by decide +kernel, rfl, by decide +kernel, by decide +kernel⟩
abbrev st_power_by : Stmt := topS 16
abbrev names_power_by : List Str := ["k", "often", "m", "found", "base"]
theorem sc_power_by : FnScope names_power_by ["k", "often", "m"] (defScope st_power_by) := ⟨rfl, rfl, rfl, by decide +kernel, rfl, by decide +kernel, by decide +kernel⟩
abbrev st_square_by : Stmt := topS 17
abbrev names_square_by : List Str := ["k", "p"]
theorem sc_square_by : FnScope names_square_by ["k", "p"] (defScope st_square_by) := ⟨rfl, rfl, rfl, by decide +kernel, rfl, by decide +kernel, by decide +kernel⟩
abbrev st_split_at : Stmt := topS 19
abbrev names_split_at : List Str := ["k", "p", "often"]
theorem sc_split_at : FnScope names_split_at ["k", "p"] (defScope st_split_at) := ⟨rfl, rfl, rfl, by decide +kernel, rfl, by decide +kernel, by decide +kernel⟩
abbrev st_turns_at_two : Stmt := topS 20
abbrev names_turns_at_two : List Str := ["a", "b", "alpha", "u", "beta", "v", "turns"]
theorem sc_turns_at_two : FnScope names_turns_at_two ["a", "b"] (defScope st_turns_at_two) := ⟨rfl, rfl, rfl, by decide +kernel, rfl, by decide +kernel, by decide +kernel⟩
abbrev st_turns_at_odd : Stmt := topS 21
abbrev names_turns_at_odd : List Str := ["a", "b", "p", "alpha", "u", "beta", "v", "turns"]
theorem sc_turns_at_odd : FnScope names_turns_at_odd ["a", "b", "p"] (defScope st_turns_at_odd) := ⟨rfl, rfl, rfl, by decide +kernel, rfl, by decide +kernel, by decide +kernel⟩
abbrev st_says : Stmt := topS 22
abbrev names_says : List Str := ["a", "b", "p"]
theorem sc_says : FnScope names_says ["a", "b", "p"] (defScope st_says) := ⟨rfl, rfl, rfl, by decide +kernel, rfl, by decide +kernel, by decide +kernel⟩
abbrev st_places_of : Stmt := topS 23
abbrev names_places_of : List Str := ["numbers", "found", "k", "prime", "often"]
theorem sc_places_of : FnScope names_places_of ["numbers"] (defScope st_places_of) := ⟨rfl, rfl, rfl, by decide +kernel, rfl, by decide +kernel, by decide +kernel⟩
abbrev st_class_at : Stmt := topS 24
abbrev names_class_at : List Str := ["k", "p", "often", "left"]
theorem sc_class_at : FnScope names_class_at ["k", "p"] (defScope st_class_at) := ⟨rfl, rfl, rfl, by decide +kernel, rfl, by decide +kernel, by decide +kernel⟩
abbrev st_is_square_at : Stmt := topS 25
abbrev names_is_square_at : List Str := ["k", "p"]
theorem sc_is_square_at : FnScope names_is_square_at ["k", "p"] (defScope st_is_square_at) := ⟨rfl, rfl, rfl, by decide +kernel, rfl, by decide +kernel, by decide +kernel⟩
abbrev st_is_row : Stmt := topS 28
abbrev names_is_row : List Str := ["row", "k"]
theorem sc_is_row : FnScope names_is_row ["row"] (defScope st_is_row) := ⟨rfl, rfl, rfl, by decide +kernel, rfl, by decide +kernel, by decide +kernel⟩
abbrev st_must_be_row : Stmt := topS 29
abbrev names_must_be_row : List Str := ["row"]
theorem sc_must_be_row : FnScope names_must_be_row ["row"] (defScope st_must_be_row) := ⟨rfl, rfl, rfl, by decide +kernel, rfl, by decide +kernel, by decide +kernel⟩
abbrev st_divisor : Stmt := topS 30
abbrev names_divisor : List Str := ["one", "other", "rest"]
theorem sc_divisor : FnScope names_divisor ["one", "other"] (defScope st_divisor) := ⟨rfl, rfl, rfl, by decide +kernel, rfl, by decide +kernel, by decide +kernel⟩
abbrev st_fpr : Stmt := topS 31
abbrev names_fpr : List Str := ["row", "found", "k", "free", "common"]
theorem sc_fpr : FnScope names_fpr ["row"] (defScope st_fpr) := ⟨rfl, rfl, rfl, by decide +kernel, rfl, by decide +kernel, by decide +kernel⟩
abbrev st_signs_of : Stmt := topS 33
abbrev names_signs_of : List Str := ["row", "k"]
theorem sc_signs_of : FnScope names_signs_of ["row"] (defScope st_signs_of) := ⟨rfl, rfl, rfl, by decide +kernel, rfl, by decide +kernel, by decide +kernel⟩
abbrev st_is_odd_at : Stmt := topS 34
abbrev names_is_odd_at : List Str := ["row", "p", "noes", "i", "j"]
theorem sc_is_odd_at : FnScope names_is_odd_at ["row", "p"] (defScope st_is_odd_at) := ⟨rfl, rfl, rfl, by decide +kernel, rfl, by decide +kernel, by decide +kernel⟩
abbrev st_noes_of : Stmt := topS 35
abbrev names_noes_of : List Str := ["row", "p"]
theorem sc_noes_of : FnScope names_noes_of ["row"] (defScope st_noes_of) := ⟨rfl, rfl, rfl, by decide +kernel, rfl, by decide +kernel, by decide +kernel⟩
abbrev st_fpt : Stmt := topS 37
abbrev names_fpt : List Str := ["a", "b", "one", "other", "part"]
theorem sc_fpt : FnScope names_fpt ["a", "b"] (defScope st_fpt) := ⟨rfl, rfl, rfl, by decide +kernel, rfl, by decide +kernel, by decide +kernel⟩
abbrev st_known_part : Stmt := topS 42
abbrev names_known_part : List Str := ["classes", "number", "p", "wish"]
theorem sc_known_part : FnScope names_known_part ["classes"] (defScope st_known_part) := ⟨rfl, rfl, rfl, by decide +kernel, rfl, by decide +kernel, by decide +kernel⟩
abbrev st_left_of : Stmt := topS 43
abbrev names_left_of : List Str := ["number", "p"]
theorem sc_left_of : FnScope names_left_of ["number", "p"] (defScope st_left_of) := ⟨rfl, rfl, rfl, by decide +kernel, rfl, by decide +kernel, by decide +kernel⟩
abbrev st_wanted : Stmt := topS 44
abbrev names_wanted : List Str := ["known", "classes", "first", "row", "p", "wish"]
theorem sc_wanted : FnScope names_wanted ["known", "classes"] (defScope st_wanted) := ⟨rfl, rfl, rfl, by decide +kernel, rfl, by decide +kernel, by decide +kernel⟩
abbrev st_fits : Stmt := topS 45
abbrev names_fits : List Str := ["q", "want", "p", "sign"]
theorem sc_fits : FnScope names_fits ["q", "want"] (defScope st_fits) := ⟨rfl, rfl, rfl, by decide +kernel, rfl, by decide +kernel, by decide +kernel⟩
abbrev st_number_with_also : Stmt := topS 46
abbrev names_number_with_also : List Str := ["classes", "former", "sign", "known", "want", "q"]
theorem sc_number_with_also : FnScope names_number_with_also ["classes", "former", "sign"] (defScope st_number_with_also) := ⟨rfl, rfl, rfl, by decide +kernel, rfl, by decide +kernel, by decide +kernel⟩
abbrev st_number_with : Stmt := topS 47
abbrev names_number_with : List Str := ["classes"]
theorem sc_number_with : FnScope names_number_with ["classes"] (defScope st_number_with) := ⟨rfl, rfl, rfl, by decide +kernel, rfl, by decide +kernel, by decide +kernel⟩
abbrev st_kinds_at : Stmt := topS 50
abbrev names_kinds_at : List Str := ["p"]
theorem sc_kinds_at : FnScope names_kinds_at ["p"] (defScope st_kinds_at) := ⟨rfl, rfl, rfl, by decide +kernel, rfl, by decide +kernel, by decide +kernel⟩
abbrev st_can_be : Stmt := topS 53
abbrev names_can_be : List Str := ["wish", "size", "signs", "number", "noes", "below", "p"]
theorem sc_can_be : FnScope names_can_be ["wish"] (defScope st_can_be) := ⟨rfl, rfl, rfl, by decide +kernel, rfl, by decide +kernel, by decide +kernel⟩
abbrev st_first_number : Stmt := topS 54
abbrev names_first_number : List Str := ["size", "signs", "number", "ahead"]
theorem sc_first_number : FnScope names_first_number ["size", "signs", "number"] (defScope st_first_number) := ⟨rfl, rfl, rfl, by decide +kernel, rfl, by decide +kernel, by decide +kernel⟩
abbrev st_wish_behind : Stmt := topS 55
abbrev names_wish_behind : List Str := ["wish", "ahead", "size", "signs", "number", "noes", "left", "turned", "p"]
theorem sc_wish_behind : FnScope names_wish_behind ["wish", "ahead"] (defScope st_wish_behind) := ⟨rfl, rfl, rfl, by decide +kernel, rfl, by decide +kernel, by decide +kernel⟩
abbrev st_two_with : Stmt := topS 56
abbrev names_two_with : List Str := ["signs", "number", "noes", "classes", "p", "kinds", "t", "ahead"]
theorem sc_two_with : FnScope names_two_with ["signs", "number", "noes"] (defScope st_two_with) := ⟨rfl, rfl, rfl, by decide +kernel, rfl, by decide +kernel, by decide +kernel⟩
abbrev st_built : Stmt := topS 57
abbrev names_built : List Str := ["wish", "row", "ahead"]
theorem sc_built : FnScope names_built ["wish"] (defScope st_built) := ⟨rfl, rfl, rfl, by decide +kernel, rfl, by decide +kernel, by decide +kernel⟩
abbrev st_parting : Stmt := topS 59
abbrev names_parting : List Str := ["one", "other", "noes", "others", "unlike", "p"]
theorem sc_parting : FnScope names_parting ["one", "other"] (defScope st_parting) := ⟨rfl, rfl, rfl, by decide +kernel, rfl, by decide +kernel, by decide +kernel⟩
abbrev st_l_cell_at : Stmt := topS 61
abbrev names_l_cell_at : List Str := ["_law_script", "_law_k"]
theorem sc_l_cell_at : FnScope names_l_cell_at ["_law_script", "_law_k"] (defScope st_l_cell_at) := ⟨rfl, rfl, rfl, by decide +kernel, rfl, by decide +kernel, by decide +kernel⟩
abbrev st_l_big : Stmt := topS 62
abbrev names_l_big : List Str := ["_law_cell", "_law_k", "_law_number", "_law_j", "_law_part"]
theorem sc_l_big : FnScope names_l_big ["_law_cell", "_law_k"] (defScope st_l_big) := ⟨rfl, rfl, rfl, by decide +kernel, rfl, by decide +kernel, by decide +kernel⟩
abbrev st_l_small : Stmt := topS 63
abbrev names_l_small : List Str := ["_law_cell", "_law_number", "_law_bits", "_law_p"]
theorem sc_l_small : FnScope names_l_small ["_law_cell"] (defScope st_l_small) := ⟨rfl, rfl, rfl, by decide +kernel, rfl, by decide +kernel, by decide +kernel⟩
abbrev st_l_row : Stmt := topS 64
abbrev names_l_row : List Str := ["_law_cell", "_law_size", "_law_row_here", "_law_rest", "_law_k", "_law_root_here"]
theorem sc_l_row : FnScope names_l_row ["_law_cell", "_law_size"] (defScope st_l_row) := ⟨rfl, rfl, rfl, by decide +kernel, rfl, by decide +kernel, by decide +kernel⟩
abbrev st_l_common : Stmt := topS 65
abbrev names_l_common : List Str := ["_law_a", "_law_b", "_law_rest"]
theorem sc_l_common : FnScope names_l_common ["_law_a", "_law_b"] (defScope st_l_common) := ⟨rfl, rfl, rfl, by decide +kernel, rfl, by decide +kernel, by decide +kernel⟩
abbrev st_l_root : Stmt := topS 66
abbrev names_l_root : List Str := ["_law_k", "_law_root_here"]
theorem sc_l_root : FnScope names_l_root ["_law_k"] (defScope st_l_root) := ⟨rfl, rfl, rfl, by decide +kernel, rfl, by decide +kernel, by decide +kernel⟩
abbrev st_l_free : Stmt := topS 67
abbrev names_l_free : List Str := ["_law_number", "_law_left", "_law_free_here", "_law_d", "_law_often"]
theorem sc_l_free : FnScope names_l_free ["_law_number"] (defScope st_l_free) := ⟨rfl, rfl, rfl, by decide +kernel, rfl, by decide +kernel, by decide +kernel⟩
abbrev st_l_free_times : Stmt := topS 68
abbrev names_l_free_times : List Str := ["_law_one", "_law_other", "_law_part"]
theorem sc_l_free_times : FnScope names_l_free_times ["_law_one", "_law_other"] (defScope st_l_free_times) := ⟨rfl, rfl, rfl, by decide +kernel, rfl, by decide +kernel, by decide +kernel⟩
abbrev st_l_power : Stmt := topS 69
abbrev names_l_power : List Str := ["_law_k", "_law_often", "_law_p", "_law_found"]
theorem sc_l_power : FnScope names_l_power ["_law_k", "_law_often", "_law_p"] (defScope st_l_power) := ⟨rfl, rfl, rfl, by decide +kernel, rfl, by decide +kernel, by decide +kernel⟩
abbrev st_l_split : Stmt := topS 70
abbrev names_l_split : List Str := ["_law_k", "_law_p", "_law_often"]
theorem sc_l_split : FnScope names_l_split ["_law_k", "_law_p"] (defScope st_l_split) := ⟨rfl, rfl, rfl, by decide +kernel, rfl, by decide +kernel, by decide +kernel⟩
abbrev st_l_says : Stmt := topS 71
abbrev names_l_says : List Str := ["_law_a", "_law_b", "_law_p", "_law_alpha", "_law_u", "_law_beta", "_law_v", "_law_turns"]
theorem sc_l_says : FnScope names_l_says ["_law_a", "_law_b", "_law_p"] (defScope st_l_says) := ⟨rfl, rfl, rfl, by decide +kernel, rfl, by decide +kernel, by decide +kernel⟩
abbrev st_l_noes : Stmt := topS 72
abbrev names_l_noes : List Str := ["_law_row_here", "_law_places", "_law_noes_here", "_law_p", "_law_many", "_law_i", "_law_j"]
theorem sc_l_noes : FnScope names_l_noes ["_law_row_here", "_law_places"] (defScope st_l_noes) := ⟨rfl, rfl, rfl, by decide +kernel, rfl, by decide +kernel, by decide +kernel⟩
abbrev st_law : Stmt := topS 73
abbrev names_law : List Str := ["_law_script", "_law_k", "_law_other", "_law_row_here", "_law_number", "_law_part", "_law_signs", "_law_noes_here", "_law_wish", "_law_p", "_law_wrong", "_law_q"]
theorem sc_law : FnScope names_law ["_law_script"] (defScope st_law) := ⟨rfl, rfl, rfl, by decide +kernel, rfl, by decide +kernel, by decide +kernel⟩
/-! ### zip of a tuple and a list -/
def ItzM (K : PySem.W.Frag) (a b : Addr) : It where
  go := fun i H => ∃ us ws x y, SqT K H a us ∧ SqL K H b ws ∧ us[i]? = some x ∧ ws[i]? = some y
  yld := fun i H v H' => ∃ T x y, v = .ref T ∧ H T = none ∧ H' = upd H T (.tup [x, y]) ∧
    (∀ us, SqT K H a us → us[i]? = some x) ∧ ∀ ws, SqL K H b ws → ws[i]? = some y
  stop := fun i H => ∃ us ws : List V, SqT K H a us ∧ SqL K H b ws ∧ i ≤ us.length ∧ i ≤ ws.length ∧ (i = us.length ∨ i = ws.length)
def tnM (z TI TO i1 i2 a b : Addr) (i : Nat) (h : Heap) : Prop :=
  IsZip h z TI TO .none ∧ IsPair h TI (.ref i1) (.ref i2) ∧ (∃ x y, IsPair h TO x y) ∧ h.IsTupleIter i1 a i ∧ h.IsListIter i2 b i
theorem five {α : Type} {c z TI TO i1 i2 : α} (h : c ∈ [z, TI, TO, i1, i2]) : c = z ∨ c = TI ∨ c = TO ∨ c = i1 ∨ c = i2 := by
  simpa using h
theorem sepM {z TI TO i1 i2 a b : Addr} (D : ZipApart z TI TO i1 i2 a b) : ZipSep2 z TI TO i1 i2 [i1, a] [i2, b] where
  TIz := D.TIz
  TOz := D.TOz
  TITO := D.TITO
  TIi1 := D.TIi1
  mem1 := List.mem_cons_self
  zf1 := by simp [D.i1z.symm, D.l1z.symm]
  Tf1 := by simp [D.TOi1, D.l1TO.symm]
  TIi2 := D.TIi2
  mem2 := List.mem_cons_self
  zf2 := by simp [D.i2z.symm, D.l2z.symm]
  Tf2 := by simp [D.TOi2, D.l2TO.symm]
  sep1_2 := by simp [D.i12, D.l2i1.symm]
  sep2_1 := by simp [D.i12.symm, D.l1i2.symm]
theorem turn_zipM {P : Program} {w : World} {K : PySem.W.Frag} {elts : List Expr} {kk : Nat} {tpos : Pos} {a b z TI TO i1 i2 : Addr} (D : ZipApart z TI TO i1 i2 a b) :
    Turn P w K (.Tuple elts kk tpos) (ItzM K a b) [z, TI, TO, i1, i2] z (tnM z TI TO i1 i2 a b) := by
  constructor
  case mem => exact List.mem_cons_self
  case obj =>
    rintro i h ⟨hz, hTI, ⟨x, y, hTO⟩, ⟨o1, e1, _, d1⟩, ⟨o2, e2, _, d2⟩⟩ c hc
    rcases five hc with rfl | rfl | rfl | rfl | rfl
    · exact ⟨_, hz, by intro v q; cases q⟩
    · exact ⟨_, hTI, by intro v q; cases q⟩
    · exact ⟨_, hTO, by intro v q; cases q⟩
    · exact ⟨o1, e1, by intro v q; rw [d1] at q; cases q⟩
    · exact ⟨o2, e2, by intro v q; rw [d2] at q; cases q⟩
  case keep =>
    rintro i h h' ⟨hz, hTI, ⟨x, y, hTO⟩, h1, h2⟩ k
    refine ⟨k z (by simp) _ hz, k TI (by simp) _ hTI, ⟨x, y, k TO (by simp) _ hTO⟩, h1.at ?_, h2.at ?_⟩
    · exact fun o q => k i1 (by simp) o q
    · exact fun o q => k i2 (by simp) o q
  case item =>
    intro X hP hw hK hc i pins s σ H E I hf ⟨hz, hTI, ⟨x0, y0, hTO⟩, h1, h2⟩ ⟨us, ws, x, y, hqx, hqy, hx, hy⟩
    subst hP hw hK
    obtain ⟨its, rv, p, _⟩ := I.tuple hqx
    obtain ⟨its2, rv2, p2, _⟩ := I.list hqy
    obtain ⟨u, hu, ru⟩ := rv.get hx
    obtain ⟨u2, hu2, ru2⟩ := rv2.get hy
    have hzl : z < s.heap.objs.size := Heap.lt_size hz
    have hh : X.A.in1.handled = none := I.ok.hd hc
    have lt1 : i < its.toArray.size := by
      have := (List.getElem?_eq_some_iff.mp hu).1
      simpa using this
    have lt2 : i < its2.toArray.size := by
      have := (List.getElem?_eq_some_iff.mp hu2).1
      simpa using this
    refine wpAny_pyNext_zipD2_item (sepM D) (Draws.tuple hh i1 a D.l1i1 its.toArray) (Draws.list hh i2 b D.l2i2 its2.toArray) hz hTI hTO ⟨h1, p⟩ ⟨h2, p2.isList⟩ lt1 lt2 ?_
    intro v1 v2 h' tk e1 e2 z' TO' s1' s2' hT hsz hk
    have ev1 : v1 = u := by
      have q : its[i]? = some v1 := by simpa using e1
      exact Option.some.inj (q.symm.trans hu)
    have ev2 : v2 = u2 := by
      have q : its2[i]? = some v2 := by simpa using e2
      exact Option.some.inj (q.symm.trans hu2)
    subst ev1 ev2
    refine ⟨_, rfl, wpAny_letOwnedTupleGo_zip (s := { s with heap := h', toks := tk }) z' fun h'' z'' sb => ?_⟩
    have hT2 : h''.get? s.heap.objs.size = some { cls := .type "tuple", data := .seq #[v1, v2] } := (sb.2 _ (Nat.ne_of_gt hzl)).trans hT
    have new : ObjOk X.prog X.w (upd H s.heap.objs.size (.tup [x, y])) h'' s.heap.objs.size (.tup [x, y]) :=
      ⟨by show 2 ≤ sizeLine; decide, [v1, v2], .cons ru (.cons ru2 .nil), ⟨_, hT2, rfl, _, rfl⟩⟩
    have I1 : Inv X pins σ (upd H s.heap.objs.size (.tup [x, y])) { s with heap := h'', toks := tk } := by
      refine I.turnedNew (ch := [z, TI, TO, i1, i2]) ?_ hf (Nat.le_refl _) new
      intro c o hb q
      have nz : c ≠ z := fun q' => hb (by simp [q'])
      have nTO : c ≠ TO := fun q' => hb (by simp [q'])
      have n1 : c ≠ i1 := fun q' => hb (by simp [q'])
      have n2 : c ≠ i2 := fun q' => hb (by simp [q'])
      exact (sb.2 c nz).trans (hk c o nz nTO n1 n2 q)
    refine ⟨.ref s.heap.objs.size, _, I1, rfl, ⟨_, x, y, rfl, I.hok.fresh (Nat.le_refl _), rfl, ?_, ?_⟩, ⟨z'', ?_, ⟨v1, v2, ?_⟩, ?_, ?_⟩, ?_⟩
    · intro l hl
      rw [I.tuple_inj hl hqx]
      exact hx
    · intro l hl
      rw [I.list_inj hl hqy]
      exact hy
    · exact (sb.2 _ D.TIz).trans (hk _ _ D.TIz D.TITO D.TIi1 D.TIi2 hTI)
    · exact (sb.2 _ D.TOz).trans TO'
    · exact s1'.1.at fun o q => (sb.2 _ D.i1z).trans q
    · exact s2'.1.at fun o q => (sb.2 _ D.i2z).trans q
    · intro c hcm
      have hlt : c < s.heap.objs.size := by
        rcases five hcm with rfl | rfl | rfl | rfl | rfl
        · exact hzl
        · exact Heap.lt_size hTI
        · exact Heap.lt_size hTO
        · exact Heap.lt_size h1.choose_spec.1
        · exact Heap.lt_size h2.choose_spec.1
      rw [upd_ne (Nat.ne_of_lt hlt)]
      exact (hf c hcm).1
  case done =>
    intro X hP hw hK hc i pins s σ H E I hf ⟨hz, hTI, ⟨x0, y0, hTO⟩, h1, h2⟩ ⟨us, ws, hqx, hqy, le1, le2, hend⟩
    subst hP hw hK
    obtain ⟨its, rv, p, _⟩ := I.tuple hqx
    obtain ⟨its2, rv2, p2, _⟩ := I.list hqy
    have l1 := rv.length
    have l2 := rv2.length
    have hh : X.A.in1.handled = none := I.ok.hd hc
    refine wpAny_pyNext_zipD2_end (sepM D) (Draws.tuple hh i1 a D.l1i1 its.toArray) (Draws.list hh i2 b D.l2i2 its2.toArray) hz hTI hTO ⟨h1, p⟩ ⟨h2, p2.isList⟩ ?_ ?_ ?_ ?_
    · simp; omega
    · simp; omega
    · rcases hend with q | q
      · exact .inl (by simp; omega)
      · exact .inr (by simp; omega)
    · intro h' tk hk
      refine ⟨rfl, I.turnedL (ch := [z, TI, TO, i1, i2]) ?_ hf⟩
      intro c o hb q
      have nz : c ≠ z := fun q' => hb (by simp [q'])
      have nTO : c ≠ TO := fun q' => hb (by simp [q'])
      have n1 : c ≠ i1 := fun q' => hb (by simp [q'])
      have n2 : c ≠ i2 := fun q' => hb (by simp [q'])
      exact hk c o nz nTO n1 n2 q
  case self => exact fun A i s Q E st h => wpAny_pyIter_zip st.1 h
def iZipM (K : PySem.W.Frag) (ta : TA) : L2.TI := fun σ H R => ta σ H fun vs H1 =>
  ∃ a b us ws, vs = [.ref a, .ref b] ∧ SqT K H1 a us ∧ SqL K H1 b ws ∧ R (ItzM K a b) H1
theorem pi_zipM {X : Cx} {e e2 : Expr} {ta : TA} {p pos tpos : Pos} {elts : List Expr} {kk : Nat} (hg : Gl X "zip") (hm : X.mg "zip" = none) (ha : PA X [e, e2] ta)
    (hs : starEach [e, e2] X.env = (false, eval e X.env) :: starEach [e2] X.env := by rfl) (hpl : (backTo pos (starEach [e2] X.env)).any (·.1) = false := by rfl) :
    PI X (.Tuple elts kk tpos) (.Call (.Name "zip" p) [e, e2] [] pos) (iZipM X.K ta) := by
  constructor
  intro pins s σ H R I h
  refine Call_ (ld_blt I hg hm PyProof.Rows.boot_zip (PyProof.Rows.callWith_type1 ?_ hs hpl))
  refine thn (ha.run pos pins s σ H _ I h) ?_
  rintro us s1 ⟨vs, H1, I1, r1, a, b, xs, ys, rfl, hqx, hqy, q⟩
  cases r1 with
  | cons r rr =>
    cases rr with
    | cons r' rr =>
      cases rr
      cases r
      cases r'
      obtain ⟨its, rv, p1, _⟩ := I1.tuple hqx
      obtain ⟨its2, rv2, p2, _⟩ := I1.list hqy
      have la : a < s1.heap.objs.size := p1.lt
      have lb : b < s1.heap.objs.size := p2.lt
      refine zip_begins2 (begins_tuple a its.toArray) (begins_list b its2.toArray) p1 p2.isList ?_
      intro h' hz hTI hTO g1 g2 hsz hk
      refine wpAny_pyIter_zip hz ?_
      have I2 : Inv X pins σ H1 { s1 with heap := h' } := I1.kept (t' := s1.toks) hk
      refine ⟨s1.heap.objs.size + 4, [s1.heap.objs.size + 4, s1.heap.objs.size + 2, s1.heap.objs.size + 3, s1.heap.objs.size, s1.heap.objs.size + 1], _, _, H1, rfl, I2, turn_zipM (PySem.W.ktu_apart s1.heap.objs.size a b la lb), ?_, ?_, q⟩
      · exact ⟨hz, hTI, ⟨_, _, hTO⟩, ⟨_, g1, rfl, rfl⟩, ⟨_, g2, rfl, rfl⟩⟩
      · intro c hcm
        have hle : s1.heap.objs.size ≤ c := by
          rcases five hcm with rfl | rfl | rfl | rfl | rfl
          · exact Nat.le_add_right _ _
          · exact Nat.le_add_right _ _
          · exact Nat.le_add_right _ _
          · exact Nat.le_refl _
          · exact Nat.le_add_right _ _
        exact I1.fpOk hle (I1.hok.fresh hle)
/-! ### the readings' names -/
abbrev kAdd : R2 := rI0 fun i j => .int (i + j)
abbrev kSub : R2 := rI0 fun i j => .int (i - j)
abbrev kMul : R2 := rI CMul fun i j => .int (i * j)
abbrev kDiv : R2 := rI CDiv fun i j => .int (i / j)
abbrev kMod : R2 := rI (fun _ j => 0 < j) fun i j => .int (i % j)
abbrev kModN : R2 := rI (fun _ j => j ≠ 0) fun i j => .int (i.fmod j)
abbrev kShl : R2 := rI CPow fun i j => .int (i * 2 ^ j.toNat)
abbrev kPow : R2 := rI CPow fun i j => .int (i ^ j.toNat)
abbrev kLt : R2 := rI0 fun i j => .bl (decide (i < j))
abbrev kLe : R2 := rI0 fun i j => .bl (decide (i ≤ j))
abbrev kGt : R2 := rI0 fun i j => .bl (decide (j < i))
abbrev kGe : R2 := rI0 fun i j => .bl (decide (j ≤ i))
abbrev kIsN : R2 := fun x y H Q => y = .non ∧ Q (.bl (decide (x = .non))) H
abbrev kNotN : R2 := fun x y H Q => y = .non ∧ Q (.bl (!decide (x = .non))) H
abbrev kNeg : V → Hp → VK → Prop := rU fun i => .int (-i)
abbrev kAbs : List V → Hp → VK → Prop := fun xs H Q => ∃ i, xs = [.int i] ∧ Q (.int (if i < 0 then -i else i)) H
abbrev kMin2 : List V → Hp → VK → Prop := fun xs H Q => ∃ i j, xs = [.int i, .int j] ∧ Q (.int (if j < i then j else i)) H
abbrev kInt1 : List V → Hp → VK → Prop := fun xs H Q => (∃ i, xs = [.int i] ∧ Q (.int i) H) ∨ ∃ k, xs = [.bl k] ∧ Q (.int (if k then 1 else 0)) H
abbrev kSortDI : List V → Hp → VK → Prop := fun xs H Q => ∃ (a : Addr) (kvs : List (Key × V)) (ks : List Int), xs = [.ref a] ∧ Rd H a (.dK kvs) ∧ kvs.map (·.1) = ks.map Sum.inl ∧ ks.length < 64 ∧ ∀ (ys : List Int) (p : Addr), ys.Perm ks → ys.Pairwise (· ≤ ·) → H p = none → Q (.ref p) (upd H p (.lst (ys.map V.int)))
abbrev ipAdd : TIp := ipI fun i j => i + j
abbrev tDPut (td ty tv : TE) : TS := sDPut td ty tv
/-! ### a dict of the top whose keys are ints, read -/
def KDInt (K : PySem.W.Frag) (a : Addr) (k : Int) (v : V) : Prop :=
  ∃ es n u, K.lookup a = some ⟨.type "dict", none, .dict es n, #[]⟩ ∧ (∀ e ∈ es, ∃ i t, e.key = .int i t ∧ e.hash = hashInt i) ∧
    findBy Value.isInt es k = some u ∧ RelV v u
def rIxDI (K : PySem.W.Frag) : R2 := fun x y H Q => ∃ p k v, x = .ref p ∧ y = .int k ∧ KDInt K p k v ∧ Q v H
theorem ix_kdictI {X : Cx} : IxR X (rIxDI X.K) := by
  intro value slice pins s σ H x y v u Q I rx ry h hs
  obtain ⟨p, k, r, rfl, rfl, ⟨es, n, u0, hl, hk, e, ru⟩, q⟩ := h
  obtain rfl : v = Value.ref p := rx
  obtain ⟨t, rfl⟩ := ry
  have hm : s.heap.MapOf (PySem.intKind X.prog X.w) p (fun j => findBy Value.isInt es j) := by
    refine ⟨_, es, n, I.kIn _ _ hl, ⟨rfl, rfl, rfl⟩, rfl, ?_, fun _ => rfl⟩
    intro en he
    obtain ⟨i, t', e1, e2⟩ := hk en he
    refine ⟨i, ?_, e2⟩
    show Value.isInt i en.key = true
    rw [e1]
    simp [Value.isInt]
  refine tail_any hm.typeIs slot_dict_getitem.lookup (wpAny_getItem_of (k := k) (knd := PySem.intKind X.prog X.w) ?_ hm e ⟨r, H, I.tok _, ru, q⟩) hs
  show Value.isInt k (Value.int k t) = true
  simp [Value.isInt]
/-- the dict NONE_BY as the top leaves it -/
def NoneBy (K : PySem.W.Frag) (a : Addr) : Prop := ∃ (n : Nat) (t1 t2 t3 t4 t5 u1 u2 u3 u4 u5 : Tok),
  K.lookup a = some ⟨.type "dict", none, .dict #[⟨3, .int 3 t1, .int 2 u1⟩, ⟨5, .int 5 t2, .int 2 u2⟩, ⟨7, .int 7 t3, .int 3 u3⟩, ⟨11, .int 11 t4, .int 2 u4⟩, ⟨13, .int 13 t5, .int 2 u5⟩] n, #[]⟩
theorem NoneBy.get {K : PySem.W.Frag} {a : Addr} (h : NoneBy K a) {k v : Int} (e : (k, v) ∈ [((3 : Int), (2 : Int)), (5, 2), (7, 3), (11, 2), (13, 2)]) : KDInt K a k (.int v) := by
  obtain ⟨n, t1, t2, t3, t4, t5, u1, u2, u3, u4, u5, hl⟩ := h
  have ks : ∀ en ∈ (#[⟨3, .int 3 t1, .int 2 u1⟩, ⟨5, .int 5 t2, .int 2 u2⟩, ⟨7, .int 7 t3, .int 3 u3⟩, ⟨11, .int 11 t4, .int 2 u4⟩, ⟨13, .int 13 t5, .int 2 u5⟩] : Array DictEntry), ∃ i t, en.key = .int i t ∧ en.hash = hashInt i := by
    intro en he
    simp only [Array.mem_def, List.mem_cons, List.not_mem_nil, or_false] at he
    rcases he with rfl | rfl | rfl | rfl | rfl
    · exact ⟨3, t1, rfl, show (3 : Int) = hashInt 3 by decide⟩
    · exact ⟨5, t2, rfl, show (5 : Int) = hashInt 5 by decide⟩
    · exact ⟨7, t3, rfl, show (7 : Int) = hashInt 7 by decide⟩
    · exact ⟨11, t4, rfl, show (11 : Int) = hashInt 11 by decide⟩
    · exact ⟨13, t5, rfl, show (13 : Int) = hashInt 13 by decide⟩
  simp only [List.mem_cons, Prod.mk.injEq, List.not_mem_nil, or_false] at e
  rcases e with ⟨rfl, rfl⟩ | ⟨rfl, rfl⟩ | ⟨rfl, rfl⟩ | ⟨rfl, rfl⟩ | ⟨rfl, rfl⟩
  · exact ⟨_, n, .int 2 u1, hl, ks, rfl, _, rfl⟩
  · exact ⟨_, n, .int 2 u2, hl, ks, rfl, _, rfl⟩
  · exact ⟨_, n, .int 3 u3, hl, ks, rfl, _, rfl⟩
  · exact ⟨_, n, .int 2 u4, hl, ks, rfl, _, rfl⟩
  · exact ⟨_, n, .int 2 u5, hl, ks, rfl, _, rfl⟩
/-! ### evaluating, further forms -/
section
variable {K : PySem.W.Frag} {σ : L2.St} {H H' : Hp} {ta tb te tx : TE} {t u : TT} {x y z v : V} {D : Ends} {tu tw tz : TS} {g : TG}
/-- a value of which something is known -/
def EvP (te : TE) (σ : L2.St) (H : Hp) (P : Hp → V → Hp → Prop) : Prop := ∀ H1, Ex H H1 → ∀ Q : VK, (∀ v H2, Ex H1 H2 → P H1 v H2 → Q v H2) → te σ H1 Q
def SpU (sp : Sp) (vs : List V) (H : Hp) (xs : List V) : Prop := ∀ H1, Ex H H1 → ∀ Q : VK, (∀ p H2, H1 p = none → Ex H1 H2 → H2 p = some (.tup xs) → Q (.ref p) H2) → ∀ E : XK, sp vs H1 Q E
def SpP (sp : Sp) (vs : List V) (H : Hp) (P : Hp → V → Hp → Prop) : Prop := ∀ H1, Ex H H1 → ∀ Q : VK, (∀ v H2, Ex H1 H2 → P H1 v H2 → Q v H2) → ∀ E : XK, sp vs H1 Q E
theorem eu_call {sp : Sp} {dvs vs xs : List V} {E : XK} {ta : TA} (h : EvA ta σ H vs) (hs : SpU sp (vs ++ dvs) H xs) : EvU (tCall sp dvs E ta) σ H xs := fun H1 e Q q =>
  h H1 e _ fun H2 e2 => hs H2 (e.trans e2) Q (fun p H3 hp e3 h3 => q p H3 (fresh_back e2 hp) (e2.trans e3) h3) E
/-- the call's P told over the caller's heap -/
theorem ep_call {sp : Sp} {dvs vs : List V} {E : XK} {ta : TA} {P : Hp → V → Hp → Prop} (h : EvA ta σ H vs) (hs : SpP sp (vs ++ dvs) H P)
    (hm : ∀ A B v C, Ex A B → P B v C → P A v C := by intro A B v C e h; exact h) : EvP (tCall sp dvs E ta) σ H P := fun H1 e Q q =>
  h H1 e _ fun H2 e2 => hs H2 (e.trans e2) Q (fun v H3 e3 h3 => q v H3 (e2.trans e3) (hm _ _ _ _ e2 h3)) E
theorem ep_imp {P P' : Hp → V → Hp → Prop} (h : EvP te σ H P) (i : ∀ A v B, P A v B → P' A v B) : EvP te σ H P' := fun H1 e Q q => h H1 e Q fun v H2 e2 p => q v H2 e2 (i _ _ _ p)
theorem EvP.mono {P : Hp → V → Hp → Prop} (e : Ex H H') (h : EvP te σ H P) : EvP te σ H' P := fun H1 a Q q => h H1 (e.trans a) Q q
theorem EvU.mono {xs : List V} (e : Ex H H') (h : EvU te σ H xs) : EvU te σ H' xs := fun H1 a Q q => h H1 (e.trans a) Q q
theorem s_asgP {i : Nat} {P : Hp → V → Hp → Prop} (h : EvP te σ H P) (k : ∀ v H1, Ex H H1 → P H v H1 → D.nx (σ.set i (some v)) H1) : tAsg te (gName i) D σ H := h H (Ex.refl H) _ fun v H1 e p => k v H1 e p
theorem q_asgP {i : Nat} {P : Hp → V → Hp → Prop} (h : EvP te σ H P) (k : ∀ v H1, Ex H H1 → P H v H1 → tz D (σ.set i (some v)) H1) : tSeq (tAsg te (gName i)) tz D σ H := s_asgP (D := { D with nx := tz D }) h k
theorem s_retP {P : Hp → V → Hp → Prop} (h : EvP te σ H P) (k : ∀ v H1, Ex H H1 → P H v H1 → D.rt v H1) : tRet te D σ H := h H (Ex.refl H) _ fun v H1 e p => k v H1 e p
/-- a, b = f(..), a new tuple of two -/
theorem q_asgT2 {i j : Nat} {a b : V} (h : EvU te σ H [a, b]) (k : ∀ H1, Ex H H1 → tz D ((σ.set i (some a)).set j (some b)) H1) :
    tSeq (tAsg te (gTup K 2 (gCons (gName i) (gCons (gName j) gNil)))) tz D σ H := h H (Ex.refl H) _ fun p H1 _ e h1 =>
  ⟨p, [a, b], rfl, st_of h1, rfl, a, [b], rfl, b, [], rfl, rfl, k H1 e⟩
/-- the same, the tuple told by what holds -/
theorem q_asgT2P {i j : Nat} {P : Hp → V → Hp → Prop} (h : EvP te σ H P) (k : ∀ v H1, Ex H H1 → P H v H1 → ∃ p a b, v = .ref p ∧ SqT K H1 p [a, b] ∧ tz D ((σ.set i (some a)).set j (some b)) H1) :
    tSeq (tAsg te (gTup K 2 (gCons (gName i) (gCons (gName j) gNil)))) tz D σ H := h H (Ex.refl H) _ fun v H1 e hp => by
  obtain ⟨p, a, b, rfl, ht, q⟩ := k v H1 e hp
  exact ⟨p, [a, b], rfl, ht, rfl, a, [b], rfl, b, [], rfl, rfl, q⟩
theorem q_wh (W : Nat → L2.St → Hp → Prop) (m0 : Nat) (h0 : W m0 σ H)
    (hs : ∀ m σ' H', W m σ' H' → ∃ b, EvT t σ' H' b ∧ (b = true → ∀ H1, Ex H' H1 → tu { D with nx := fun σ2 H2 => ∃ m', m' < m ∧ W m' σ2 H2, ct := fun σ2 H2 => ∃ m', m' < m ∧ W m' σ2 H2, bk := tz D } σ' H1) ∧
      (b = false → ∀ H1, Ex H' H1 → tz D σ' H1)) : tSeq (tWhile t tu) tz D σ H :=
  q_while W m0 h0 fun m σ' H' hw => by
    obtain ⟨b, h1, h2, h3⟩ := hs m σ' H' hw
    exact ⟨b, h1, fun hb H1 e => ⟨_, fun _ _ h => h, h2 hb H1 e⟩, h3⟩
theorem s_wh (W : Nat → L2.St → Hp → Prop) (m0 : Nat) (h0 : W m0 σ H)
    (hs : ∀ m σ' H', W m σ' H' → ∃ b, EvT t σ' H' b ∧ (b = true → ∀ H1, Ex H' H1 → tu { D with nx := fun σ2 H2 => ∃ m', m' < m ∧ W m' σ2 H2, ct := fun σ2 H2 => ∃ m', m' < m ∧ W m' σ2 H2, bk := D.nx } σ' H1) ∧
      (b = false → ∀ H1, Ex H' H1 → D.nx σ' H1)) : tWhile t tu D σ H :=
  s_while W m0 h0 fun m σ' H' hw => by
    obtain ⟨b, h1, h2, h3⟩ := hs m σ' H' hw
    exact ⟨b, h1, fun hb H1 e => ⟨_, fun _ _ h => h, h2 hb H1 e⟩, h3⟩
theorem q_par {i j : Nat} {ta : TA} {a b : V} (h : EvA ta σ H [a, b]) (k : ∀ H1, Ex H H1 → tz D ((σ.set i (some a)).set j (some b)) H1) : tSeq (tPar i j ta) tz D σ H :=
  h H (Ex.refl H) _ fun H1 e => ⟨a, b, rfl, k H1 e⟩
theorem s_par {i j : Nat} {ta : TA} {a b : V} (h : EvA ta σ H [a, b]) (k : ∀ H1, Ex H H1 → D.nx ((σ.set i (some a)).set j (some b)) H1) : tPar i j ta D σ H :=
  h H (Ex.refl H) _ fun H1 e => ⟨a, b, rfl, k H1 e⟩
theorem ev_abs {i : Int} {ta : TE} (h : Ev ta σ H (.int i)) : Ev (tCB kAbs (tCons ta tNil)) σ H (.int (i.natAbs : Int)) := fun H1 e Q q =>
  h H1 e _ fun H2 e2 => ⟨i, rfl, by
    have : (if i < 0 then -i else i) = (i.natAbs : Int) := by
      by_cases c : i < 0
      · rw [if_pos c]; omega
      · rw [if_neg c]; omega
    rw [this]
    exact q H2 e2⟩
theorem ev_min {i j : Int} (ha : Ev ta σ H (.int i)) (hb : Ev tb σ H (.int j)) : Ev (tCB kMin2 (tCons ta (tCons tb tNil))) σ H (.int (if j < i then j else i)) := fun H1 e Q q =>
  ha H1 e _ fun H2 e2 => hb H2 (e.trans e2) _ fun H3 e3 => ⟨i, j, rfl, q H3 (e2.trans e3)⟩
theorem ev_intb {b : Bool} (h : Ev ta σ H (.bl b)) : Ev (tCB kInt1 (tCons ta tNil)) σ H (.int (if b then 1 else 0)) := fun H1 e Q q =>
  h H1 e _ fun H2 e2 => .inr ⟨b, rfl, q H2 e2⟩
theorem ev_bits {i : Int} (h : Ev ta σ H (.int i)) : Ev (tBits ta) σ H (.int (Builtin.Int.intBits i : Nat)) := fun H1 e Q q =>
  h H1 e _ fun H2 e2 => ⟨i, rfl, q H2 e2⟩
theorem ev_lenT {p : Addr} {xs : List V} (ha : Ev ta σ H (.ref p)) (h : SqT K H p xs) : Ev (tCB (rLenS K) (tCons ta tNil)) σ H (.int (xs.length : Int)) := fun H1 e Q q =>
  ha H1 e _ fun H2 e2 => ⟨p, xs, rfl, .inr (ex_t (e.trans e2) h), q H2 e2⟩
theorem rv_isN {x : V} : RV kIsN x .non H (.bl (decide (x = .non))) := fun H1 _ _ q => ⟨rfl, q H1 (Ex.refl H1)⟩
theorem rv_notN {x : V} : RV kNotN x .non H (.bl (!decide (x = .non))) := fun H1 _ _ q => ⟨rfl, q H1 (Ex.refl H1)⟩
theorem et_chain {a b c : V} {tc : TE} {r r' : R2} {k l : Bool} (ha : Ev ta σ H a) (hb : Ev tb σ H b) (hr : RV r a b H (.bl k)) (hc : k = true → Ev tc σ H c ∧ RV r' b c H (.bl l)) :
    EvT (tTest (tChain r r' ta tb tc)) σ H (k && l) := fun H1 e Q q =>
  ha H1 e _ fun H2 e2 => hb H2 (e.trans e2) _ fun H3 e3 => hr H3 ((e.trans e2).trans e3) _ fun H4 e4 => ⟨k, rfl, by
    cases k with
    | false => exact ⟨false, rfl, q H4 ((e2.trans e3).trans e4)⟩
    | true =>
      obtain ⟨h1, h2⟩ := hc rfl
      exact h1 H4 (((e.trans e2).trans e3).trans e4) _ fun H5 e5 => h2 H5 ((((e.trans e2).trans e3).trans e4).trans e5) _ fun H6 e6 => ⟨l, rfl, q H6 ((((e2.trans e3).trans e4).trans e5).trans e6)⟩⟩
/-- an if that stores one name: the name's value behind it -/
theorem q_ifSet {b : Bool} {i : Nat} (h : EvT t σ H b) (h1 : b = true → Ev te σ H x) (h2 : b = false → σ[i]? = some (some y)) (k : ∀ H1, Ex H H1 → tz D (σ.set i (some (if b = true then x else y))) H1) :
    tSeq (tIfS t (tAsg te (gName i)) tNext) tz D σ H := by
  refine q_ifAsg (v := if b = true then x else y) h (fun e => ?_) (fun e => ?_) k
  · rw [if_pos e]; exact h1 e
  · rw [if_neg (by rw [e]; decide)]
    have hh := h2 e
    obtain ⟨hi, e2⟩ := List.getElem?_eq_some_iff.mp hh
    rw [← e2]; exact List.set_getElem_self hi
theorem q_ifAug {b : Bool} {i : Nat} {f : Int → Int → Int} {n m : Int} (h : EvT t σ H b) (hx : σ[i]? = some (some (.int n))) (h1 : b = true → Ev te σ H (.int m))
    (k : ∀ H1, Ex H H1 → tz D (σ.set i (some (.int (if b = true then f n m else n)))) H1) : tSeq (tIfS t (tAug i te (ipI f)) tNext) tz D σ H :=
  q_when h (fun hb H1 e1 => s_aug (D := { D with nx := tz D }) hx ((h1 hb).mono e1) fun H2 e2 => by
    have := k H2 (e1.trans e2)
    rwa [if_pos hb] at this) (fun hb H1 e1 => by
    have g := k H1 e1
    rw [if_neg (by rw [hb]; decide)] at g
    have e : σ.set i (some (.int n)) = σ := by
      obtain ⟨hi, e2⟩ := List.getElem?_eq_some_iff.mp hx
      rw [← e2]; exact List.set_getElem_self hi
    rwa [e] at g)
end
/-- a def by its reading: what is left is where it stands -/
theorem cal_of {P : Program} {w : World} {K : PySem.W.Frag} {mg : Str → Option Value} {base : Heap} {cx x qual : Str} {st : Stmt} {f : Addr} {fd : FuncData} {N ps : List Str} {k : Nat} {sp : Sp} {t : TS}
    (F : Fun K x qual st f fd) (hm : mg cx = some (.ref f)) (S : FnScope N ps (defScope st)) (len : ∀ vs H Q E, sp vs H Q E → vs.length = ps.length)
    (hb : ∀ (kV doc pm : Value) (an : Option Addr) (cdv ct : Value) (us : List Value), us.length = ps.length → bindArgs (PySem.W.fnOf x qual (defArgs st) (defBody st) (defScope st) .none kV doc pm an cdv ct) ⟨us, []⟩ = pure (ps.zip us))
    (d : ∀ (cdv : Value) (A : Around) (outer : List Env) (s : Shared) (H : Hp) (E : XK), Room k (A.deeper (envOfC qual (defScope st) s.heap.objs.size f cdv)) → PSs (cxOf CX0 P w K mg base N qual (defScope st) f cdv A outer s H E).nox (defBody st) t)
    (r : ∀ vs H Q E, sp vs H Q E → t { nx := fun _ H' => Q .non H', rt := Q } (start N vs) H) : C8.Cal P w K mg base (k + 1) cx sp [] :=
  ⟨f, fd, ps, [], F.ok S len fun cdv A outer s H vs Q E hr h => ⟨t, d cdv A outer s H E hr, r vs H Q E h⟩, hm, F.kp, F.binds hb, .nil⟩
/-- a while's turn by its test -/
theorem wst {t : TT} {σ : L2.St} {H : Hp} {b : Bool} {A B : Bool → Prop} (h : EvT t σ H b) (h1 : A b) (h2 : B b) : ∃ b, EvT t σ H b ∧ A b ∧ B b := ⟨b, h, h1, h2⟩
/-! ### calls whose answer is told by what holds -/
section
variable {K : PySem.W.Frag} {σ : L2.St} {H H' : Hp} {ta : TA} {vs : List V} {sp : Sp} {D : Ends} {tu tw tz : TS} {g : TG}
theorem q_asgC (h : EvA ta σ H vs) (k : ∀ H1, Ex H H1 → sp (vs ++ []) H1 (fun v H2 => g v σ H2 (tz D)) E0) : tSeq (tAsg (tCall sp [] E0 ta) g) tz D σ H := h H (Ex.refl H) _ fun H1 e => k H1 e
theorem s_asgC (h : EvA ta σ H vs) (k : ∀ H1, Ex H H1 → sp (vs ++ []) H1 (fun v H2 => g v σ H2 D.nx) E0) : tAsg (tCall sp [] E0 ta) g D σ H := h H (Ex.refl H) _ fun H1 e => k H1 e
theorem s_retC (h : EvA ta σ H vs) (k : ∀ H1, Ex H H1 → sp (vs ++ []) H1 D.rt E0) : tRet (tCall sp [] E0 ta) D σ H := h H (Ex.refl H) _ fun H1 e => k H1 e
theorem q_dropC (h : EvA ta σ H vs) (k : ∀ H1, Ex H H1 → sp (vs ++ []) H1 (fun _ H2 => tz D σ H2) E0) : tSeq (tDrop (tCall sp [] E0 ta)) tz D σ H := h H (Ex.refl H) _ fun H1 e => k H1 e
/-- a for over a list of which something is known -/
theorem s_forLP {tl : TE} {P : Hp → V → Hp → Prop} (h : EvP tl σ H P) (k : ∀ v H1, Ex H H1 → P H v H1 → ∃ a xs, ∃ Pv : Nat → L2.St → Hp → Prop, v = .ref a ∧ SqL K H1 a xs ∧ Pv 0 σ H1 ∧ (∀ i σ' H', i ≤ xs.length → Pv i σ' H' → SqL K H' a xs) ∧
    (∀ i x σ' H', xs[i]? = some x → Pv i σ' H' → g x σ' H' fun σ2 H2 => tu { D with nx := Pv (i + 1), ct := Pv (i + 1), bk := D.nx } σ2 H2) ∧ ∀ σ' H', Pv xs.length σ' H' → D.nx σ' H') :
    tFor (iList K tl) g tu D σ H := h H (Ex.refl H) _ fun v H1 e hp => by
  obtain ⟨a, xs, Pv, rfl, hl, h0, h1, h2, h3⟩ := k v H1 e hp
  exact ⟨a, rfl, ⟨xs, hl⟩, for_list Pv h0 h1 h2 h3⟩
theorem q_forLP {tl : TE} {P : Hp → V → Hp → Prop} (h : EvP tl σ H P) (k : ∀ v H1, Ex H H1 → P H v H1 → ∃ a xs, ∃ Pv : Nat → L2.St → Hp → Prop, v = .ref a ∧ SqL K H1 a xs ∧ Pv 0 σ H1 ∧ (∀ i σ' H', i ≤ xs.length → Pv i σ' H' → SqL K H' a xs) ∧
    (∀ i x σ' H', xs[i]? = some x → Pv i σ' H' → g x σ' H' fun σ2 H2 => tu { D with nx := Pv (i + 1), ct := Pv (i + 1), bk := tz D } σ2 H2) ∧ ∀ σ' H', Pv xs.length σ' H' → tz D σ' H') :
    tSeq (tFor (iList K tl) g tu) tz D σ H := s_forLP (D := { D with nx := tz D }) h k
/-- for a, b in a list of pairs -/
theorem g_pair {i j : Nat} {t : Addr} {a b : V} {Q : L2.St → Hp → Prop} (ht : H t = some (.tup [a, b])) (q : Q ((σ.set i (some a)).set j (some b)) H) : gTup K 2 (gCons (gName i) (gCons (gName j) gNil)) (.ref t) σ H Q :=
  ⟨t, [a, b], rfl, st_of ht, rfl, a, [b], rfl, b, [], rfl, rfl, q⟩
end
noncomputable def pd (P : Prop) : Bool := @decide P (Classical.propDecidable P)
theorem pd_iff {P : Prop} : pd P = true ↔ P := by
  unfold pd
  exact @decide_eq_true_iff P (Classical.propDecidable P)
theorem pd_false {P : Prop} : pd P = false ↔ ¬ P := by
  constructor
  · intro h p
    rw [pd_iff.mpr p] at h
    cases h
  · intro n
    cases g : pd P
    · rfl
    · exact absurd (pd_iff.mp g) n
theorem pd_of {P : Prop} {b : Bool} (h : b = true ↔ P) : b = pd P := by
  have := pd_iff (P := P)
  cases b <;> cases g : pd P
  · rfl
  · exact absurd (h.mpr (this.mp g)) (by decide)
  · rw [this.mpr (h.mp rfl)] at g; cases g
  · rfl
local macro_rules | `(tactic| walk_at "side") => `(tactic| first
  | assumption | omega | decide
  | exact Or.inl ⟨by omega, by omega⟩ | exact Or.inr ⟨by omega, by omega⟩ | exact ⟨by omega, by omega⟩)
local macro_rules | `(tactic| walk_at "rv") => `(tactic| first
  | with_reducible exact rv_I0
  | ((with_reducible refine' rv_eq ?a); (case a => rfl))
  | ((with_reducible refine' rv_ne ?a); (case a => rfl))
  | with_reducible exact rv_isN | with_reducible exact rv_notN
  | ((with_reducible refine' rv_I ?a); (case a => walk_at "side")))
local macro_rules | `(tactic| walk_at "sp") => `(tactic| fail)
local macro_rules | `(tactic| walk_at "evx") => `(tactic| fail)
local macro_rules | `(tactic| walk_at "ev") => `(tactic| first
  | ((with_reducible refine' ev_var ?a); (case a => rfl))
  | with_reducible exact ev_c
  | ((with_reducible refine' ev_op ?a ?b ?c); (case a => walk_at "ev"); (case b => walk_at "ev"); (case c => walk_at "rv"))
  | ((with_reducible refine' ev_un ?a ru_neg); (case a => walk_at "ev"))
  | ((with_reducible refine' ev_abs ?a); (case a => walk_at "ev"))
  | ((with_reducible refine' ev_bits ?a); (case a => walk_at "ev"))
  | ((with_reducible refine' ev_intb ?a); (case a => walk_at "ev"))
  | ((with_reducible refine' ev_orV ?a (fun _ => ?b)); (case a => walk_at "ev"); (case b => walk_at "ev"))
  | ((with_reducible refine' ev_notV ?a); (case a => walk_at "ev"))
  | ((with_reducible refine' ev_call ?a ?b); (case a => walk_at "ea"); (case b => walk_at "sp"))
  | walk_at "evx")
local macro_rules | `(tactic| walk_at "ea") => `(tactic| first
  | with_reducible exact ea_nil
  | ((with_reducible refine' ea_cons ?a ?b); (case a => walk_at "ev"); (case b => walk_at "ea")))
local macro_rules | `(tactic| walk_at "et") => `(tactic| first
  | ((with_reducible refine' et_test ?a); (case a => walk_at "ev"))
  | ((with_reducible refine' et_B ?a); (case a => walk_at "ev"))
  | ((with_reducible refine' et_not ?a); (case a => walk_at "et"))
  | ((with_reducible refine' et_and ?a (fun _ => ?b)); (case a => walk_at "et"); (case b => walk_at "et"))
  | ((with_reducible refine' et_or ?a (fun _ => ?b)); (case a => walk_at "et"); (case b => walk_at "et"))
  | ((with_reducible refine' et_chain ?a ?b ?c (fun _ => ⟨?d, ?e⟩)); (case a => walk_at "ev"); (case b => walk_at "ev"); (case c => walk_at "rv"); (case d => walk_at "ev"); (case e => walk_at "rv")))
local macro_rules | `(tactic| walk_at "ex") => `(tactic| first
  | assumption | exact Ex.refl _
  | (refine' Ex.trans ?a (by assumption); (case a => walk_at "ex")))
/-! ### promises: numbers alone -/
/-- the greatest common divisor -/
def sp_common : Sp := fun vs H Q _ => ∃ a b : Int, vs = [.int a, .int b] ∧ RetV (.int (Int.gcd a b : Int)) H Q
def sp_divisor : Sp := sp_common
def sp_l_common : Sp := sp_common
def sp_is_prime : Sp := fun vs H Q _ => ∃ k : Int, vs = [.int k] ∧ k < 1073741824 ∧ ∀ b H2, Ex H H2 → (b = true ↔ PrI k) → Q (.bl b) H2
def sp_power_by : Sp := fun vs H Q _ => ∃ (k : Int) (n : Nat) (m : Int), vs = [.int k, .int n, .int m] ∧ 0 < m ∧ m < 1073741824 ∧ RetV (.int (k ^ n % m)) H Q
def sp_l_power : Sp := fun vs H Q _ => ∃ (k : Int) (n : Nat) (m : Int), vs = [.int k, .int n, .int m] ∧ 1 < m ∧ m < 1073741824 ∧ RetV (.int (k ^ n % m)) H Q
def RetU (xs : List V) (H : Hp) (Q : VK) : Prop := ∀ p H2, H p = none → Ex H H2 → H2 p = some (.tup xs) → Q (.ref p) H2
def sp_split_at : Sp := fun vs H Q _ => ∃ k p : Int, vs = [.int k, .int p] ∧ k ≠ 0 ∧ 2 ≤ p ∧ p < 1073741824 ∧ RetU [.int (ord p k : Int), .int (unit p k)] H Q
def sp_l_split : Sp := sp_split_at
def sp_whole_root : Sp := fun vs H Q _ => ∃ k : Int, vs = [.int k] ∧ 0 ≤ k ∧ k < 1073741824 ∧ ∀ r H2, Ex H H2 → 0 ≤ r → r * r ≤ k → k < (r + 1) * (r + 1) → Q (.int r) H2
def sp_l_root : Sp := fun vs H Q _ => ∃ k : Int, vs = [.int k] ∧ 1 ≤ k ∧ k < 1073741824 ∧ ∀ r H2, Ex H H2 → 0 ≤ r → r * r ≤ k → (∀ s, 0 ≤ s → s * s ≤ k → s ≤ r) → r ≤ k → Q (.int r) H2
def t_common (K : PySem.W.Frag) : TS := (tSeq (tWhile (tTest (tOp rNe (tVar 1) (tC (.int 0)))) (tPar 0 1 (tCons (tVar 1) (tCons (tOp kModN (tVar 0) (tVar 1)) tNil)))) (tRet (tCB kAbs (tCons (tVar 0) tNil))))
def t_divisor (K : PySem.W.Frag) : TS := (tSeq (tWhile (tTest (tOp rNe (tVar 1) (tC (.int 0)))) (tSeq (tAsg (tOp kModN (tVar 0) (tVar 1)) (gName 2)) (tSeq (tAsg (tVar 1) (gName 0)) (tAsg (tVar 2) (gName 1))))) (tRet (tCB kAbs (tCons (tVar 0) tNil))))
def t_l_common (K : PySem.W.Frag) : TS := (tSeq (tWhile (tTest (tOp rNe (tVar 1) (tC (.int 0)))) (tSeq (tAsg (tOp kModN (tVar 0) (tVar 1)) (gName 2)) (tSeq (tAsg (tVar 1) (gName 0)) (tAsg (tVar 2) (gName 1))))) (tRet (tCB kAbs (tCons (tVar 0) tNil))))
theorem gcd_fmod (a b : Int) : Int.gcd b (a.fmod b) = Int.gcd a b := by
  have e := Int.mul_fdiv_add_fmod a b
  have : Int.gcd a b = Int.gcd (a.fmod b + b * a.fdiv b) b := by
    congr 1
    omega
  rw [this, Int.gcd_comm (a.fmod b + b * a.fdiv b) b, Int.gcd_add_mul_left_right]
theorem fmod_less {x y : Int} (y0 : y ≠ 0) : (x.fmod y).natAbs < y.natAbs := by
  rcases Int.lt_or_gt_of_ne y0 with c | c
  · have e : x.fmod y = -((-x).fmod (-y)) := by rw [Int.neg_fmod_neg]; omega
    have h1 := Int.fmod_nonneg_of_pos (-x) (show 0 < -y by omega)
    have h2 := Int.fmod_lt_of_pos (-x) (show 0 < -y by omega)
    omega
  · have h1 := Int.fmod_nonneg_of_pos x c
    have h2 := Int.fmod_lt_of_pos x c
    omega
theorem r_common (K : PySem.W.Frag) : ∀ vs H Q E, sp_common vs H Q E → t_common K { nx := fun _ H' => Q .non H', rt := Q } (start names_common vs) H := by
  rintro vs H Q E ⟨a, b, rfl, q⟩
  refine q_wh (fun m σ H' => ∃ x y : Int, σ = [some (.int x), some (.int y)] ∧ Ex H H' ∧ Int.gcd x y = Int.gcd a b ∧ m = y.natAbs) b.natAbs ⟨a, b, rfl, Ex.refl H, rfl, rfl⟩ ?_
  rintro m σ' H' ⟨x, y, rfl, ex, g, rfl⟩
  refine wst (by walk_at "et") (fun hb H1 e1 => ?_) (fun hb H1 e1 => ?_)
  · have y0 : y ≠ 0 := by
      rintro rfl
      simp at hb
    refine s_par (by walk_at "ea") fun H2 e2 => ?_
    exact ⟨_, fmod_less y0, y, x.fmod y, rfl, (ex.trans e1).trans e2, (gcd_fmod x y).trans g, rfl⟩
  · have y0 : y = 0 := by simpa using hb
    subst y0
    refine s_ret (by walk_at "ev") fun H2 e2 => ?_
    have : (Int.gcd a b : Int) = (x.natAbs : Int) := by
      rw [← g, Int.gcd_zero_right]
    rw [this] at q
    exact q H2 ((ex.trans e1).trans e2)
theorem r_divisor (K : PySem.W.Frag) : ∀ vs H Q E, sp_divisor vs H Q E → t_divisor K { nx := fun _ H' => Q .non H', rt := Q } (start names_divisor vs) H := by
  rintro vs H Q E ⟨a, b, rfl, q⟩
  refine q_wh (fun m σ H' => ∃ (x y : Int) (o : Option V), σ = [some (.int x), some (.int y), o] ∧ Ex H H' ∧ Int.gcd x y = Int.gcd a b ∧ m = y.natAbs) b.natAbs ⟨a, b, _, rfl, Ex.refl H, rfl, rfl⟩ ?_
  rintro m σ' H' ⟨x, y, o, rfl, ex, g, rfl⟩
  refine wst (by walk_at "et") (fun hb H1 e1 => ?_) (fun hb H1 e1 => ?_)
  · have y0 : y ≠ 0 := by
      rintro rfl
      simp at hb
    refine q_asg (by walk_at "ev") fun H2 e2 => ?_
    refine q_asg (by walk_at "ev") fun H3 e3 => ?_
    refine s_asg (by walk_at "ev") fun H4 e4 => ?_
    exact ⟨_, fmod_less y0, y, x.fmod y, _, rfl, (((ex.trans e1).trans e2).trans e3).trans e4, (gcd_fmod x y).trans g, rfl⟩
  · have y0 : y = 0 := by simpa using hb
    subst y0
    refine s_ret (by walk_at "ev") fun H2 e2 => ?_
    have : (Int.gcd a b : Int) = (x.natAbs : Int) := by
      rw [← g, Int.gcd_zero_right]
    rw [this] at q
    exact q H2 ((ex.trans e1).trans e2)
theorem r_l_common (K : PySem.W.Frag) : ∀ vs H Q E, sp_l_common vs H Q E → t_l_common K { nx := fun _ H' => Q .non H', rt := Q } (start names_l_common vs) H := r_divisor K

def t_is_prime (K : PySem.W.Frag) : TS := (tSeq (tIfS (tTest (tOp kLt (tVar 0) (tC (.int 2)))) (tRet (tC (.bl false))) tNext) (tSeq (tAsg (tC (.int 2)) (gName 1)) (tSeq (tWhile (tTest (tOp kLe (tOp kMul (tVar 1) (tVar 1)) (tVar 0))) (tSeq (tIfS (tTest (tOp rEq (tOp kMod (tVar 0) (tVar 1)) (tC (.int 0)))) (tRet (tC (.bl false))) tNext) (tAsg (tOp kAdd (tOp kAdd (tVar 1) (tC (.int 1))) (tOp kMod (tVar 1) (tC (.int 2)))) (gName 1)))) (tRet (tC (.bl true))))))
def t_whole_root (K : PySem.W.Frag) : TS := (tSeq (tAsg (tC (.int 0)) (gName 1)) (tSeq (tAsg (tOp kShl (tC (.int 1)) (tOp kAdd (tOp kDiv (tBits (tVar 0)) (tC (.int 2))) (tC (.int 1)))) (gName 2)) (tSeq (tWhile (tTest (tOp kGt (tOp kSub (tVar 2) (tVar 1)) (tC (.int 1)))) (tSeq (tAsg (tOp kDiv (tOp kAdd (tVar 1) (tVar 2)) (tC (.int 2))) (gName 3)) (tIfS (tTest (tOp kLe (tOp kMul (tVar 3) (tVar 3)) (tVar 0))) (tAsg (tVar 3) (gName 1)) (tAsg (tVar 3) (gName 2))))) (tRet (tVar 1)))))
def t_power_by (K : PySem.W.Frag) : TS := (tSeq (tAsg (tOp kMod (tC (.int 1)) (tVar 2)) (gName 3)) (tSeq (tAsg (tOp kMod (tVar 0) (tVar 2)) (gName 4)) (tSeq (tWhile (tTest (tOp kGt (tVar 1) (tC (.int 0)))) (tSeq (tIfS (tTest (tOp rEq (tOp kMod (tVar 1) (tC (.int 2))) (tC (.int 1)))) (tAsg (tOp kMod (tOp kMul (tVar 3) (tVar 4)) (tVar 2)) (gName 3)) tNext) (tSeq (tAsg (tOp kMod (tOp kMul (tVar 4) (tVar 4)) (tVar 2)) (gName 4)) (tAsg (tOp kDiv (tVar 1) (tC (.int 2))) (gName 1))))) (tRet (tVar 3)))))
def t_split_at (K : PySem.W.Frag) : TS := (tSeq (tAsg (tC (.int 0)) (gName 2)) (tSeq (tWhile (tTest (tOp rEq (tOp kMod (tVar 0) (tVar 1)) (tC (.int 0)))) (tSeq (tAsg (tOp kDiv (tVar 0) (tVar 1)) (gName 0)) (tAug 2 (tC (.int 1)) ipAdd))) (tRet (tTup (tCons (tVar 2) (tCons (tVar 0) tNil))))))
def t_l_root (K : PySem.W.Frag) : TS := (tSeq (tAsg (tVar 0) (gName 1)) (tSeq (tWhile (tTest (tOp kGt (tOp kMul (tVar 1) (tVar 1)) (tVar 0))) (tAsg (tOp kDiv (tOp kAdd (tVar 1) (tOp kDiv (tVar 0) (tVar 1))) (tC (.int 2))) (gName 1))) (tRet (tVar 1))))
def t_l_power (K : PySem.W.Frag) : TS := (tSeq (tAsg (tC (.int 1)) (gName 3)) (tSeq (tAsg (tOp kMod (tVar 0) (tVar 2)) (gName 0)) (tSeq (tWhile (tTest (tOp kGt (tVar 1) (tC (.int 0)))) (tSeq (tIfS (tTest (tOp rEq (tOp kMod (tVar 1) (tC (.int 2))) (tC (.int 1)))) (tAsg (tOp kMod (tOp kMul (tVar 3) (tVar 0)) (tVar 2)) (gName 3)) tNext) (tSeq (tAsg (tOp kMod (tOp kMul (tVar 0) (tVar 0)) (tVar 2)) (gName 0)) (tAsg (tOp kDiv (tVar 1) (tC (.int 2))) (gName 1))))) (tRet (tVar 3)))))
def t_l_split (K : PySem.W.Frag) : TS := (tSeq (tAsg (tC (.int 0)) (gName 2)) (tSeq (tWhile (tTest (tOp rEq (tOp kMod (tVar 0) (tVar 1)) (tC (.int 0)))) (tSeq (tAsg (tOp kDiv (tVar 0) (tVar 1)) (gName 0)) (tAsg (tOp kAdd (tVar 2) (tC (.int 1))) (gName 2)))) (tRet (tTup (tCons (tVar 2) (tCons (tVar 0) tNil))))))
theorem prime_step {k d : Int} (h2 : 2 ≤ d) (r : ∀ m, 2 ≤ m → m < d → ¬ m ∣ k) (hd : ¬ d ∣ k) (o : d = 2 ∨ d % 2 = 1) :
    2 ≤ d + 1 + d % 2 ∧ (∀ m, 2 ≤ m → m < d + 1 + d % 2 → ¬ m ∣ k) ∧ (d + 1 + d % 2) % 2 = 1 ∧ d < d + 1 + d % 2 ∧ d + 1 + d % 2 ≤ d + 2 := by
  refine ⟨by omega, fun m m2 ml => ?_, by omega, by omega, by omega⟩
  by_cases c : m < d
  · exact r m m2 c
  by_cases e : m = d
  · rw [e]; exact hd
  · rcases o with o | o
    · omega
    · have e2 : m = d + 1 := by omega
      intro dv
      have : (2 : Int) ∣ k := Int.dvd_trans ⟨m / 2, by omega⟩ dv
      by_cases d3 : 2 < d
      · exact r 2 (by omega) d3 this
      · omega
theorem sq_lt {m d k : Int} (h1 : 0 ≤ d) (h : k < d * d) (hm : m * m ≤ k) : m < d := by
  apply Int.lt_of_not_ge
  intro l
  have := Int.mul_le_mul l l h1 (by omega)
  omega
theorem sq_self {d : Int} (h : 1 ≤ d) : d ≤ d * d := by
  have := Int.mul_le_mul_of_nonneg_right h (show 0 ≤ d by omega)
  omega
theorem r_is_prime (K : PySem.W.Frag) : ∀ vs H Q E, sp_is_prime vs H Q E → t_is_prime K { nx := fun _ H' => Q .non H', rt := Q } (start names_is_prime vs) H := by
  rintro vs H Q E ⟨k, rfl, hk, q⟩
  refine q_when (by walk_at "et") (fun hb H1 e1 => ?_) (fun hb H1 e1 => ?_)
  · have := of_decide_eq_true hb
    refine s_ret (by walk_at "ev") fun H2 e2 => q false H2 (e1.trans e2) ⟨fun z => (by cases z), fun z => (by have := z.1; omega)⟩
  have k2 : 2 ≤ k := by
    have := of_decide_eq_false hb
    omega
  refine q_asg (by walk_at "ev") fun H2 e2 => ?_
  refine q_wh (fun m σ H' => ∃ d : Int, σ = [some (.int k), some (.int d)] ∧ Ex H H' ∧ 2 ≤ d ∧ (∀ m, 2 ≤ m → m < d → ¬ m ∣ k) ∧ (d = 2 ∨ d % 2 = 1) ∧ d ≤ k + 2 ∧ m = (k + 3 - d).toNat) (k + 3 - 2).toNat
    ⟨2, rfl, e1.trans e2, by omega, fun m _ _ => by omega, .inl rfl, by omega, rfl⟩ ?_
  rintro m σ' H' ⟨d, rfl, ex, d2, rough, od, dk, rfl⟩
  refine wst (by walk_at "et") (fun hb H3 e3 => ?_) (fun hb H3 e3 => ?_)
  · have dd : d * d ≤ k := of_decide_eq_true hb
    have dl := sq_self (d := d) (by omega)
    refine q_when (by walk_at "et") (fun hb H4 e4 => ?_) (fun hb H4 e4 => ?_)
    · have z : k % d = 0 := by simpa using hb
      refine s_ret (by walk_at "ev") fun H5 e5 => q false H5 (by walk_at "ex") ⟨fun z => (by cases z), fun p => ?_⟩
      exact absurd (Int.dvd_of_emod_eq_zero z) (p.2 d d2 dd)
    · have z : k % d ≠ 0 := by simpa using hb
      obtain ⟨s1, s2, s3, s4, s5⟩ := prime_step d2 rough (fun dv => z (Int.emod_eq_zero_of_dvd dv)) od
      refine s_asg (by walk_at "ev") fun H5 e5 => ?_
      exact ⟨_, by omega, d + 1 + d % 2, rfl, by walk_at "ex", s1, s2, .inr s3, by omega, rfl⟩
  · have dd : k < d * d := by
      have := of_decide_eq_false hb
      omega
    refine s_ret (by walk_at "ev") fun H5 e5 => q true H5 (by walk_at "ex") ⟨fun _ => ⟨k2, fun m m2 mm => rough m m2 (sq_lt (by omega) dd mm)⟩, fun _ => rfl⟩
theorem pow_step {f b m o : Int} (ho : 0 < o) : (if decide (V.int (o % 2) = V.int 1) = true then f * b % m else f) * (b * b % m) ^ (o / 2).toNat % m = f * b ^ o.toNat % m := by
  have e : o.toNat = 2 * (o / 2).toNat + (o % 2).toNat := by omega
  rw [Int.mul_emod, ← pow_mod, e]
  generalize (o / 2).toNat = n
  have sqn : (b * b) ^ n = b ^ (2 * n) := by rw [Nat.mul_comm 2 n, Int.mul_pow, ← Int.pow_add]; congr 1; omega
  by_cases c : o % 2 = 1
  · have : decide (V.int (o % 2) = V.int 1) = true := by rw [c]; rfl
    rw [if_pos this, c]
    rw [Int.emod_emod_of_dvd _ (Int.dvd_refl m), ← Int.mul_emod, sqn]
    show _ = f * b ^ (2 * n + 1) % m
    rw [Int.pow_succ, Int.mul_assoc, Int.mul_comm b]
  · have z : o % 2 = 0 := by omega
    have : ¬ decide (V.int (o % 2) = V.int 1) = true := by rw [z]; decide
    rw [if_neg this, z, ← Int.mul_emod, sqn]; rfl
theorem ite_bd {b : Bool} {x y m : Int} (hx : 0 ≤ x ∧ x < m) (hy : 0 ≤ y ∧ y < m) : 0 ≤ (if b = true then x else y) ∧ (if b = true then x else y) < m := by
  cases b
  · exact hy
  · exact hx
theorem mod_bd (x : Int) {m : Int} (h : 0 < m) : 0 ≤ x % m ∧ x % m < m := ⟨Int.emod_nonneg _ (by omega), Int.emod_lt_of_pos _ h⟩
theorem v_ite (b : Bool) (x y : Int) : (if b = true then V.int x else V.int y) = V.int (if b = true then x else y) := by cases b <;> rfl
theorem r_power_by (K : PySem.W.Frag) : ∀ vs H Q E, sp_power_by vs H Q E → t_power_by K { nx := fun _ H' => Q .non H', rt := Q } (start names_power_by vs) H := by
  rintro vs H Q E ⟨k, n, m, rfl, m0, mb, q⟩
  refine q_asg (by walk_at "ev") fun H1 e1 => ?_
  refine q_asg (by walk_at "ev") fun H2 e2 => ?_
  refine q_wh (fun z σ H' => ∃ o f b : Int, σ = [some (.int k), some (.int o), some (.int m), some (.int f), some (.int b)] ∧ Ex H H' ∧ 0 ≤ o ∧ (0 ≤ f ∧ f < m) ∧ (0 ≤ b ∧ b < m) ∧ f * b ^ o.toNat % m = k ^ n % m ∧ z = o.toNat) n
    ⟨n, 1 % m, k % m, rfl, e1.trans e2, by omega, mod_bd _ m0, mod_bd _ m0, ?_, by omega⟩ ?_
  · rw [Int.toNat_natCast, Int.mul_emod, ← pow_mod, Int.emod_emod_of_dvd _ (Int.dvd_refl m), ← Int.mul_emod, Int.one_mul]
  rintro z σ' H' ⟨o, f, b, rfl, ex, o0, fb, bb, inv, rfl⟩
  refine wst (by walk_at "et") (fun hb H3 e3 => ?_) (fun hb H3 e3 => ?_)
  · have op : 0 < o := of_decide_eq_true hb
    refine q_ifSet (by walk_at "et") (fun _ => by walk_at "ev") (fun _ => rfl) fun H4 e4 => ?_
    rw [v_ite]
    refine q_asg (by walk_at "ev") fun H5 e5 => ?_
    refine s_asg (by walk_at "ev") fun H6 e6 => ?_
    exact ⟨_, by omega, o / 2, _, b * b % m, rfl, by walk_at "ex", by omega, ite_bd (mod_bd _ m0) fb, mod_bd _ m0, (pow_step op).trans inv, rfl⟩
  · have oz : o = 0 := by
      have := of_decide_eq_false hb
      omega
    subst oz
    have : f = k ^ n % m := by
      rw [← inv]
      simp only [Int.toNat_zero, Int.pow_zero, Int.mul_one]
      exact (Int.emod_eq_of_lt fb.1 fb.2).symm
    subst this
    refine s_ret (by walk_at "ev") fun H5 e5 => q H5 (by walk_at "ex")
theorem r_l_power (K : PySem.W.Frag) : ∀ vs H Q E, sp_l_power vs H Q E → t_l_power K { nx := fun _ H' => Q .non H', rt := Q } (start names_l_power vs) H := by
  rintro vs H Q E ⟨k, n, m, rfl, m0, mb, q⟩
  have m00 : 0 < m := by omega
  refine q_asg (by walk_at "ev") fun H1 e1 => ?_
  refine q_asg (by walk_at "ev") fun H2 e2 => ?_
  refine q_wh (fun z σ H' => ∃ o f b : Int, σ = [some (.int b), some (.int o), some (.int m), some (.int f)] ∧ Ex H H' ∧ 0 ≤ o ∧ (0 ≤ f ∧ f < m) ∧ (0 ≤ b ∧ b < m) ∧ f * b ^ o.toNat % m = k ^ n % m ∧ z = o.toNat) n
    ⟨n, 1, k % m, rfl, e1.trans e2, by omega, ⟨by omega, m0⟩, mod_bd _ m00, ?_, by omega⟩ ?_
  · rw [Int.toNat_natCast, Int.one_mul, ← pow_mod]
  rintro z σ' H' ⟨o, f, b, rfl, ex, o0, fb, bb, inv, rfl⟩
  refine wst (by walk_at "et") (fun hb H3 e3 => ?_) (fun hb H3 e3 => ?_)
  · have op : 0 < o := of_decide_eq_true hb
    refine q_ifSet (by walk_at "et") (fun _ => by walk_at "ev") (fun _ => rfl) fun H4 e4 => ?_
    rw [v_ite]
    refine q_asg (by walk_at "ev") fun H5 e5 => ?_
    refine s_asg (by walk_at "ev") fun H6 e6 => ?_
    exact ⟨_, by omega, o / 2, _, b * b % m, rfl, by walk_at "ex", by omega, ite_bd (mod_bd _ m00) fb, mod_bd _ m00, (pow_step op).trans inv, rfl⟩
  · have oz : o = 0 := by
      have := of_decide_eq_false hb
      omega
    subst oz
    have : f = k ^ n % m := by
      rw [← inv]
      simp only [Int.toNat_zero, Int.pow_zero, Int.mul_one]
      exact (Int.emod_eq_of_lt fb.1 fb.2).symm
    subst this
    refine s_ret (by walk_at "ev") fun H5 e5 => q H5 (by walk_at "ex")
theorem split_step {p x k : Int} {a : Nat} (h2 : 2 ≤ p) (x0 : x ≠ 0) (z : x % p = 0) (e : k = p ^ a * x) : x / p ≠ 0 ∧ (x / p).natAbs < x.natAbs ∧ k = p ^ (a + 1) * (x / p) := by
  obtain ⟨c, rfl⟩ := Int.dvd_of_emod_eq_zero z
  have ec : p * c / p = c := Int.mul_ediv_cancel_left c (by omega)
  have c0 : c ≠ 0 := by
    rintro rfl
    simp at x0
  rw [ec]
  refine ⟨c0, ?_, ?_⟩
  · rw [Int.natAbs_mul]
    have := Nat.mul_le_mul_right c.natAbs (show 2 ≤ p.natAbs by omega)
    omega
  · rw [e, Int.pow_succ, Int.mul_assoc]
theorem r_split_at (K : PySem.W.Frag) : ∀ vs H Q E, sp_split_at vs H Q E → t_split_at K { nx := fun _ H' => Q .non H', rt := Q } (start names_split_at vs) H := by
  rintro vs H Q E ⟨k, p, rfl, k0, p2, pb, q⟩
  refine q_asg (by walk_at "ev") fun H1 e1 => ?_
  refine q_wh (fun z σ H' => ∃ (x : Int) (a : Nat), σ = [some (.int x), some (.int p), some (.int a)] ∧ Ex H H' ∧ x ≠ 0 ∧ k = p ^ a * x ∧ z = x.natAbs) k.natAbs
    ⟨k, 0, rfl, e1, k0, by simp, rfl⟩ ?_
  rintro z σ' H' ⟨x, a, rfl, ex, x0, inv, rfl⟩
  refine wst (by walk_at "et") (fun hb H3 e3 => ?_) (fun hb H3 e3 => ?_)
  · have z : x % p = 0 := by simpa using hb
    obtain ⟨s1, s2, s3⟩ := split_step p2 x0 z inv
    refine q_asg (by walk_at "ev") fun H4 e4 => ?_
    refine s_aug rfl (by walk_at "ev") fun H5 e5 => ?_
    exact ⟨_, s2, x / p, a + 1, rfl, by walk_at "ex", s1, s3, rfl⟩
  · have z : ¬ p ∣ x := fun d => by
      have := Int.emod_eq_zero_of_dvd d
      rw [this] at hb
      simp at hb
    obtain ⟨ha, hx⟩ := Spl.is p2 k0 ⟨inv, z⟩
    subst ha hx
    exact s_retU (eu_tup (by walk_at "ea") (by simp)) fun t H4 ht e4 h4 => q t H4 (fresh_back (by walk_at "ex") ht) (by walk_at "ex") h4
theorem r_l_split (K : PySem.W.Frag) : ∀ vs H Q E, sp_l_split vs H Q E → t_l_split K { nx := fun _ H' => Q .non H', rt := Q } (start names_l_split vs) H := by
  rintro vs H Q E ⟨k, p, rfl, k0, p2, pb, q⟩
  refine q_asg (by walk_at "ev") fun H1 e1 => ?_
  refine q_wh (fun z σ H' => ∃ (x : Int) (a : Nat), σ = [some (.int x), some (.int p), some (.int a)] ∧ Ex H H' ∧ x ≠ 0 ∧ k = p ^ a * x ∧ z = x.natAbs) k.natAbs
    ⟨k, 0, rfl, e1, k0, by simp, rfl⟩ ?_
  rintro z σ' H' ⟨x, a, rfl, ex, x0, inv, rfl⟩
  refine wst (by walk_at "et") (fun hb H3 e3 => ?_) (fun hb H3 e3 => ?_)
  · have z : x % p = 0 := by simpa using hb
    obtain ⟨s1, s2, s3⟩ := split_step p2 x0 z inv
    refine q_asg (by walk_at "ev") fun H4 e4 => ?_
    refine s_asg (by walk_at "ev") fun H5 e5 => ?_
    exact ⟨_, s2, x / p, a + 1, rfl, by walk_at "ex", s1, s3, rfl⟩
  · have z : ¬ p ∣ x := fun d => by
      have := Int.emod_eq_zero_of_dvd d
      rw [this] at hb
      simp at hb
    obtain ⟨ha, hx⟩ := Spl.is p2 k0 ⟨inv, z⟩
    subst ha hx
    exact s_retU (eu_tup (by walk_at "ea") (by simp)) fun t H4 ht e4 h4 => q t H4 (fresh_back (by walk_at "ex") ht) (by walk_at "ex") h4
theorem bits_lt {k : Int} (h0 : 0 ≤ k) (hk : k < 1073741824) : k < 2 ^ Builtin.Int.intBits k ∧ Builtin.Int.intBits k ≤ 30 := by
  unfold Builtin.Int.intBits
  by_cases z : k = 0
  · subst z; decide
  · have : (k == 0) = false := by simpa using z
    rw [this]
    have n0 : k.natAbs ≠ 0 := by omega
    have h1 : k.natAbs < 2 ^ (k.natAbs.log2 + 1) := Nat.lt_log2_self
    have h2 : k.natAbs.log2 < 30 := (Nat.log2_lt n0).mpr (by omega)
    refine ⟨?_, by simp; omega⟩
    simp only [Bool.false_eq_true, if_false]
    have e : k = (k.natAbs : Int) := by omega
    rw [e]
    exact_mod_cast h1
theorem root_high {k : Int} (h0 : 0 ≤ k) (hk : k < 1073741824) : k < 1 * 2 ^ ((Builtin.Int.intBits k : Int) / 2 + 1).toNat * (1 * 2 ^ ((Builtin.Int.intBits k : Int) / 2 + 1).toNat) ∧
    (1 : Int) * 2 ^ ((Builtin.Int.intBits k : Int) / 2 + 1).toNat ≤ 65536 ∧ (1 : Int) ≤ 1 * 2 ^ ((Builtin.Int.intBits k : Int) / 2 + 1).toNat := by
  obtain ⟨h1, h2⟩ := bits_lt h0 hk
  generalize Builtin.Int.intBits k = b at *
  have e : ((b : Int) / 2 + 1).toNat = b / 2 + 1 := by omega
  rw [e, Int.one_mul]
  refine ⟨?_, ?_, ?_⟩
  · rw [← Int.pow_add]
    have l : b ≤ b / 2 + 1 + (b / 2 + 1) := by omega
    have : (2 : Int) ^ b ≤ 2 ^ (b / 2 + 1 + (b / 2 + 1)) := by
      exact_mod_cast Nat.pow_le_pow_right (show 0 < 2 by decide) l
    omega
  · have : (2 : Int) ^ (b / 2 + 1) ≤ 2 ^ 16 := by
      exact_mod_cast Nat.pow_le_pow_right (show 0 < 2 by decide) (show b / 2 + 1 ≤ 16 by omega)
    exact this
  · have : (0 : Int) < 2 ^ (b / 2 + 1) := Int.pow_pos (by decide)
    omega
theorem r_whole_root (K : PySem.W.Frag) : ∀ vs H Q E, sp_whole_root vs H Q E → t_whole_root K { nx := fun _ H' => Q .non H', rt := Q } (start names_whole_root vs) H := by
  rintro vs H Q E ⟨k, rfl, k0, kb, q⟩
  obtain ⟨h1, h2, h3⟩ := root_high k0 kb
  obtain ⟨_, b30⟩ := bits_lt k0 kb
  refine q_asg (by walk_at "ev") fun H1 e1 => ?_
  have hc : CPow 1 ((Builtin.Int.intBits k : Int) / 2 + 1) := ⟨by omega, by omega, by decide⟩
  refine q_asg (by walk_at "ev") fun H2 e2 => ?_
  generalize (1 : Int) * 2 ^ ((Builtin.Int.intBits k : Int) / 2 + 1).toNat = hi at *
  refine q_wh (fun z σ H' => ∃ (l h : Int) (o : Option V), σ = [some (.int k), some (.int l), some (.int h), o] ∧ Ex H H' ∧ 0 ≤ l ∧ l < h ∧ h ≤ 65536 ∧ l * l ≤ k ∧ k < h * h ∧ z = (h - l).toNat) (hi - 0).toNat
    ⟨0, hi, _, rfl, e1.trans e2, by omega, by omega, h2, by omega, h1, rfl⟩ ?_
  rintro z σ' H' ⟨l, h, o, rfl, ex, l0, lh, hb', ll, hh, rfl⟩
  refine wst (by walk_at "et") (fun hb H3 e3 => ?_) (fun hb H3 e3 => ?_)
  · have gap : 1 < h - l := of_decide_eq_true hb
    refine q_asg (by walk_at "ev") fun H4 e4 => ?_
    have mb : l < (l + h) / 2 ∧ (l + h) / 2 < h := by omega
    generalize (l + h) / 2 = m at *
    refine s_if (by walk_at "et") (fun hb H5 e5 => ?_) (fun hb H5 e5 => ?_)
    · have mm := of_decide_eq_true hb
      refine s_asg (by walk_at "ev") fun H6 e6 => ?_
      exact ⟨_, by omega, m, h, _, rfl, by walk_at "ex", by omega, by omega, hb', mm, hh, rfl⟩
    · have mm := of_decide_eq_false hb
      refine s_asg (by walk_at "ev") fun H6 e6 => ?_
      exact ⟨_, by omega, l, m, _, rfl, by walk_at "ex", by omega, by omega, by omega, ll, by omega, rfl⟩
  · have gap := of_decide_eq_false hb
    have : h = l + 1 := by omega
    subst this
    exact s_ret (by walk_at "ev") fun H5 e5 => q l H5 (by walk_at "ex") l0 ll hh
theorem newton {k r s : Int} (k0 : 0 ≤ k) (r1 : 1 ≤ r) (s0 : 0 ≤ s) (hs : s * s ≤ k) : s ≤ (r + k / r) / 2 := by
  have h1 : r * (k / r) + k % r = k := Int.mul_ediv_add_emod k r
  have h2 := Int.emod_lt_of_pos k (show 0 < r by omega)
  -- 2 s - r ≤ k / r
  have h3 : 2 * s - r ≤ k / r := by
    apply Int.le_of_not_gt
    intro l
    have l2 : k / r + 1 ≤ 2 * s - r := by omega
    have m := Int.mul_le_mul_of_nonneg_left l2 (show 0 ≤ r by omega)
    rw [Int.mul_add, Int.mul_one, Int.mul_sub] at m
    have sqr : 0 ≤ (r - s) * (r - s) := by
      rcases Int.le_total 0 (r - s) with g | g
      · exact Int.mul_nonneg g g
      · exact Int.mul_nonneg_of_nonpos_of_nonpos g g
    have e : (r - s) * (r - s) = r * r - r * (2 * s) + s * s := by
      rw [Int.sub_mul, Int.mul_sub, Int.mul_sub, Int.mul_left_comm r 2 s, Int.mul_comm s r]
      omega
    omega
  omega
theorem r_l_root (K : PySem.W.Frag) : ∀ vs H Q E, sp_l_root vs H Q E → t_l_root K { nx := fun _ H' => Q .non H', rt := Q } (start names_l_root vs) H := by
  rintro vs H Q E ⟨k, rfl, k1, kb, q⟩
  refine q_asg (by walk_at "ev") fun H1 e1 => ?_
  refine q_wh (fun z σ H' => ∃ r : Int, σ = [some (.int k), some (.int r)] ∧ Ex H H' ∧ 1 ≤ r ∧ r ≤ k ∧ (∀ s, 0 ≤ s → s * s ≤ k → s ≤ r) ∧ z = r.toNat) k.toNat
    ⟨k, rfl, e1, k1, by omega, fun s s0 hs => ?_, rfl⟩ ?_
  · by_cases z : s = 0
    · omega
    · have := sq_self (d := s) (by omega)
      omega
  rintro z σ' H' ⟨r, rfl, ex, r1, rk, inv, rfl⟩
  refine wst (by walk_at "et") (fun hb H3 e3 => ?_) (fun hb H3 e3 => ?_)
  · have big : k < r * r := of_decide_eq_true hb
    have dv : 0 < r ∧ r < 1073741824 := by omega
    refine s_asg (by walk_at "ev") fun H4 e4 => ?_
    have lt : k / r < r := Int.ediv_lt_of_lt_mul (by omega) big
    have ge : 1 ≤ k / r := by
      have := Int.le_ediv_iff_mul_le (a := 1) (b := k) (show 0 < r by omega)
      rw [this]; omega
    exact ⟨_, by omega, (r + k / r) / 2, rfl, by walk_at "ex", by omega, by omega, fun s s0 hs => newton (by omega) r1 s0 hs, rfl⟩
  · have sm := of_decide_eq_false hb
    exact s_ret (by walk_at "ev") fun H5 e5 => q r H5 (by walk_at "ex") (by omega) (by omega) inv rk

/-! ### lists of pairs on the heap -/
def Prs (H : Hp) (l : Addr) (L : List (Nat × Nat)) : Prop := ∃ as : List Addr, H l = some (.lst (as.map V.ref)) ∧ as.length = L.length ∧
  ∀ (i : Nat) (a : Addr) (c : Nat × Nat), as[i]? = some a → L[i]? = some c → H a = some (.tup [.int (c.1 : Int), .int (c.2 : Int)])
theorem Prs.ex {H H' : Hp} {l : Addr} {L : List (Nat × Nat)} (h : Prs H l L) (e : Ex H H') : Prs H' l L := by
  obtain ⟨as, h1, h2, h3⟩ := h
  exact ⟨as, e _ _ h1, h2, fun i a c ha hc => e _ _ (h3 i a c ha hc)⟩
theorem Prs.nil {H : Hp} {l : Addr} (h : H l = some (.lst [])) : Prs H l [] := ⟨[], h, rfl, fun i a c ha => by simp at ha⟩
theorem Prs.app {H : Hp} {l p : Addr} {L : List (Nat × Nat)} {d o : Nat} {xs : List V} (h : Prs H l L) (hx : H l = some (.lst xs)) (hp : H p = some (.tup [.int (d : Int), .int (o : Int)])) :
    Prs (upd H l (.lst (xs ++ [.ref p]))) l (L ++ [(d, o)]) := by
  obtain ⟨as, h1, h2, h3⟩ := h
  have ex : xs = as.map V.ref := by
    rw [hx] at h1
    cases h1
    rfl
  subst ex
  refine ⟨as ++ [p], by rw [upd_same, List.map_append]; rfl, by simp [h2], fun i a c ha hc => ?_⟩
  have nl : ∀ {b : Addr} {ys : List V}, H b = some (.tup ys) → b ≠ l := fun hb => ne_of hb hx (by intro z; cases z)
  by_cases lt : i < as.length
  · rw [List.getElem?_append_left lt] at ha
    rw [List.getElem?_append_left (by omega)] at hc
    have := h3 i a c ha hc
    rw [upd_ne (nl this)]; exact this
  · rw [List.getElem?_append_right (by omega)] at ha
    rw [List.getElem?_append_right (by omega)] at hc
    have i0 : i - as.length = 0 := by
      have := (List.getElem?_eq_some_iff.mp ha).1
      simp at this
      omega
    rw [i0] at ha
    rw [← h2, i0] at hc
    simp at ha hc
    subst ha hc
    rw [upd_ne (nl hp)]; exact hp
theorem Prs.at {H : Hp} {l : Addr} {L : List (Nat × Nat)} (h : Prs H l L) : ∃ as : List Addr, H l = some (.lst (as.map V.ref)) ∧ as.length = L.length ∧
    ∀ (i : Nat) (x : V), (as.map V.ref)[i]? = some x → ∃ (a : Addr) (c : Nat × Nat), x = V.ref a ∧ L[i]? = some c ∧ H a = some (.tup [.int (c.1 : Int), .int (c.2 : Int)]) := by
  obtain ⟨as, h1, h2, h3⟩ := h
  refine ⟨as, h1, h2, fun i x hx => ?_⟩
  rw [List.getElem?_map] at hx
  cases ha : as[i]? with
  | none => rw [ha] at hx; cases hx
  | some a =>
    rw [ha] at hx
    cases hx
    have lt := (List.getElem?_eq_some_iff.mp ha).1
    have hc : L[i]? = some L[i] := List.getElem?_eq_getElem (by omega)
    exact ⟨a, _, rfl, hc, h3 i a _ ha hc⟩
theorem Prs.size {H : Hp} {l : Addr} {L : List (Nat × Nat)} (h : Prs H l L) {xs : List V} (hx : H l = some (.lst xs)) : xs.length = L.length := by
  obtain ⟨as, h1, h2, _⟩ := h
  rw [hx] at h1
  cases h1
  rw [List.length_map]; exact h2
/-! ### promises: trial division, numbers freed of squares -/
def sp_tried : Sp := fun vs H Q _ => ∃ k : Nat, vs = [.int (k : Int)] ∧ 1 ≤ k ∧ k < 1073741824 ∧
  ∀ (t l : Addr) (L : List (Nat × Nat)) (left : Nat) (H2 : Hp), Ex H H2 → H l = none → H2 t = some (.tup [.ref l, .int ((left : Nat) : Int)]) → Prs H2 l L → Tr k L left → Q (.ref t) H2
def sp_parts : Sp := fun vs H Q _ => ∃ k : Nat, vs = [.int (k : Int)] ∧ 1 ≤ k ∧ k < 1073741824 ∧
  ∀ (l : Addr) (L : List (Nat × Nat)) (H2 : Hp), Ex H H2 → H l = none → Prs H2 l L → PartsOf k L → Q (.ref l) H2
def sp_is_square : Sp := fun vs H Q _ => ∃ k : Nat, vs = [.int (k : Int)] ∧ k < 1073741824 ∧ ∀ b H2, Ex H H2 → (b = true ↔ ∃ r, r * r = k) → Q (.bl b) H2
def sp_free_of : Sp := fun vs H Q _ => ∃ k : Int, vs = [.int k] ∧ k ≠ 0 ∧ k.natAbs < 1073741824 ∧ ∀ g H2, Ex H H2 → SqF g.natAbs → (∃ t, t ≠ 0 ∧ k = g * (t * t)) → Q (.int g) H2
def sp_l_free : Sp := sp_free_of
def sp_l_free_times : Sp := fun vs H Q _ => ∃ a b : Int, vs = [.int a, .int b] ∧ a ≠ 0 ∧ a.natAbs < 1073741824 ∧ b.natAbs < 1073741824 ∧ RetV (.int (ft a b)) H Q
def sp_fpt : Sp := fun vs H Q _ => ∃ a b : Int, vs = [.int a, .int b] ∧ SqF a.natAbs ∧ SqF b.natAbs ∧ a.natAbs < 1073741824 ∧ b.natAbs < 1073741824 ∧ RetV (.int (ft a b)) H Q
def sp_fpr : Sp := fun vs H Q _ => ∃ (l : Addr) (r : List Int), vs = [.ref l] ∧ H l = some (.lst (r.map V.int)) ∧ r.length ≤ 1000 ∧ (∀ a ∈ r, a ≠ 0 ∧ a.natAbs < 1073741824) ∧
  ∀ g H2, Ex H H2 → SqF g.natAbs → (∃ t, t ≠ 0 ∧ prod r = g * (t * t)) → Q (.int g) H2
def t_tried (K : PySem.W.Frag) : TS := (tSeq (tAsg (tLst tNil) (gName 1)) (tSeq (tAsg (tVar 0) (gName 2)) (tSeq (tAsg (tC (.int 2)) (gName 3)) (tSeq (tWhile (tAnd (tTest (tOp kLt (tVar 3) (tC (.int 32768)))) (tTest (tOp kLe (tOp kMul (tVar 3) (tVar 3)) (tVar 2)))) (tSeq (tAsg (tC (.int 0)) (gName 4)) (tSeq (tWhile (tTest (tOp rEq (tOp kMod (tVar 2) (tVar 3)) (tC (.int 0)))) (tSeq (tAsg (tOp kDiv (tVar 2) (tVar 3)) (gName 2)) (tAug 4 (tC (.int 1)) ipAdd))) (tSeq (tIfS (tTest (tOp kGt (tVar 4) (tC (.int 0)))) (tDrop (tBM K "list" rAppend (tVar 1) (tCons (tTup (tCons (tVar 3) (tCons (tVar 4) tNil))) tNil))) tNext) (tAsg (tOp kAdd (tOp kAdd (tVar 3) (tC (.int 1))) (tOp kMod (tVar 3) (tC (.int 2)))) (gName 3)))))) (tSeq (tIfS (tTest (tChain kLt kLt (tC (.int 1)) (tVar 2) (tC (.int 32768)))) (tSeq (tDrop (tBM K "list" rAppend (tVar 1) (tCons (tTup (tCons (tVar 2) (tCons (tC (.int 1)) tNil))) tNil))) (tAsg (tC (.int 1)) (gName 2))) tNext) (tRet (tTup (tCons (tVar 1) (tCons (tVar 2) tNil)))))))))
def t_parts (K : PySem.W.Frag) : TS := (tSeq (tAsg (tCall sp_tried [] E0 (tCons (tVar 0) tNil)) (gTup K 2 (gCons (gName 1) (gCons (gName 2) gNil)))) (tSeq (tIfS (tTest (tOp kGt (tVar 2) (tC (.int 1)))) (tDrop (tBM K "list" rAppend (tVar 1) (tCons (tTup (tCons (tVar 2) (tCons (tC (.int 1)) tNil))) tNil))) tNext) (tRet (tVar 1))))
def t_is_square (K : PySem.W.Frag) : TS := (tRet (tOp rEq (tOp kMul (tCall sp_whole_root [] E0 (tCons (tVar 0) tNil)) (tCall sp_whole_root [] E0 (tCons (tVar 0) tNil))) (tVar 0)))
def t_free_of (K : PySem.W.Frag) : TS := (tSeq (tAsg (tCall sp_tried [] E0 (tCons (tCB kAbs (tCons (tVar 0) tNil)) tNil)) (gTup K 2 (gCons (gName 1) (gCons (gName 2) gNil)))) (tSeq (tIfS (tB (tCall sp_is_square [] E0 (tCons (tVar 2) tNil))) (tAsg (tC (.int 1)) (gName 2)) tNext) (tSeq (tIfS (tTest (tOp kGe (tVar 2) (tC (.int 1073741824)))) tNever tNext) (tSeq (tFor (iList K (tVar 1)) (gTup K 2 (gCons (gName 3) (gCons (gName 4) gNil))) (tIfS (tTest (tOp rEq (tOp kMod (tVar 4) (tC (.int 2))) (tC (.int 1)))) (tAsg (tOp kMul (tVar 2) (tVar 3)) (gName 2)) tNext)) (tSeq (tIfS (tTest (tOp kLt (tVar 0) (tC (.int 0)))) (tRet (tOp kSub (tC (.int 0)) (tVar 2))) tNext) (tRet (tVar 2)))))))
def t_fpr (K : PySem.W.Frag) : TS := (tSeq (tAsg (tC (.int 1)) (gName 1)) (tSeq (tFor (iList K (tVar 0)) (gName 2) (tSeq (tAsg (tCall sp_free_of [] E0 (tCons (tVar 2) tNil)) (gName 3)) (tSeq (tAsg (tCall sp_divisor [] E0 (tCons (tVar 1) (tCons (tVar 3) tNil))) (gName 4)) (tAsg (tOp kMul (tOp kDiv (tVar 1) (tVar 4)) (tOp kDiv (tVar 3) (tVar 4))) (gName 1))))) (tRet (tVar 1))))
def t_fpt (K : PySem.W.Frag) : TS := (tSeq (tAsg (tCall sp_free_of [] E0 (tCons (tVar 0) tNil)) (gName 2)) (tSeq (tAsg (tCall sp_free_of [] E0 (tCons (tVar 1) tNil)) (gName 3)) (tSeq (tAsg (tCall sp_common [] E0 (tCons (tVar 2) (tCons (tVar 3) tNil))) (gName 4)) (tRet (tOp kDiv (tOp kDiv (tOp kMul (tVar 2) (tVar 3)) (tVar 4)) (tVar 4))))))
def t_l_free (K : PySem.W.Frag) : TS := (tSeq (tAsg (tCB kAbs (tCons (tVar 0) tNil)) (gName 1)) (tSeq (tAsg (tC (.int 1)) (gName 2)) (tSeq (tAsg (tC (.int 2)) (gName 3)) (tSeq (tWhile (tTest (tOp kLe (tOp kMul (tOp kMul (tVar 3) (tVar 3)) (tVar 3)) (tVar 1))) (tSeq (tAsg (tC (.int 0)) (gName 4)) (tSeq (tWhile (tTest (tOp rEq (tOp kMod (tVar 1) (tVar 3)) (tC (.int 0)))) (tSeq (tAsg (tOp kDiv (tVar 1) (tVar 3)) (gName 1)) (tAsg (tOp kAdd (tVar 4) (tC (.int 1))) (gName 4)))) (tSeq (tIfS (tTest (tOp rEq (tOp kMod (tVar 4) (tC (.int 2))) (tC (.int 1)))) (tAsg (tOp kMul (tVar 2) (tVar 3)) (gName 2)) tNext) (tAsg (tOp kAdd (tVar 3) (tC (.int 1))) (gName 3)))))) (tSeq (tIfS (tTest (tOp rNe (tOp kMul (tCall sp_l_root [] E0 (tCons (tVar 1) tNil)) (tCall sp_l_root [] E0 (tCons (tVar 1) tNil))) (tVar 1))) (tAsg (tOp kMul (tVar 2) (tVar 1)) (gName 2)) tNext) (tSeq (tIfS (tTest (tOp kLt (tVar 0) (tC (.int 0)))) (tRet (tOp kSub (tC (.int 0)) (tVar 2))) tNext) (tRet (tVar 2))))))))
def t_l_free_times (K : PySem.W.Frag) : TS := (tSeq (tAsg (tCall sp_l_common [] E0 (tCons (tVar 0) (tCons (tVar 1) tNil))) (gName 2)) (tRet (tOp kMul (tOp kDiv (tVar 0) (tVar 2)) (tOp kDiv (tVar 1) (tVar 2)))))
theorem app_if {b : Bool} {c : Prop} [Decidable c] {α : Type} {x y : α} (h : b = true ↔ c) : (if b = true then x else y) = if c then x else y := by
  by_cases g : c
  · rw [if_pos g, if_pos (h.mpr g)]
  · rw [if_neg g, if_neg fun e => g (h.mp e)]
/-- the heap of a def that fills a list of its own -/
structure Own (H H' : Hp) (l : Addr) : Prop where
  new : H l = none
  ex : Ex H H'
theorem Own.on {H H' H2 : Hp} {l : Addr} (o : Own H H' l) (e : Ex H' H2) : Own H H2 l := ⟨o.new, o.ex.trans e⟩
theorem Own.put {H H' : Hp} {l : Addr} {u : HO} (o : Own H H' l) : Own H (upd H' l u) l := ⟨o.new, o.ex.mut o.new⟩
theorem r_tried (K : PySem.W.Frag) : ∀ vs H Q E, sp_tried vs H Q E → t_tried K { nx := fun _ H' => Q .non H', rt := Q } (start names_tried vs) H := by
  rintro vs H Q E ⟨k, rfl, k1, kb, q⟩
  refine q_asgL (el_lst (by walk_at "ea") (by simp)) fun l H1 nl e1 h1 => ?_
  refine q_asg (by walk_at "ev") fun H2 e2 => ?_
  refine q_asg (by walk_at "ev") fun H3 e3 => ?_
  refine q_wh (fun z σ H' => ∃ (L : List (Nat × Nat)) (left d : Nat) (o : Option V), σ = [some (.int (k : Int)), some (.ref l), some (.int (left : Int)), some (.int (d : Int)), o] ∧ Own H H' l ∧ Prs H' l L ∧ L.length ≤ d ∧ d < 32800 ∧ TrI k L left d ∧ z = 40000 - d) (40000 - 2)
    ⟨[], k, 2, _, rfl, ⟨nl, (e1.trans e2).trans e3⟩, ((Prs.nil h1).ex e2).ex e3, by simp, by omega, TrI.start k1, rfl⟩ ?_
  rintro z σ' H' ⟨L, left, d, o, rfl, ow, ps, Ld, db, ti, rfl⟩
  have d2 := ti.d2
  refine wst (b := decide ((d : Int) < 32768) && decide ((d : Int) * d ≤ left)) (by walk_at "et") (fun hb H4 e4 => ?_) (fun hb H4 e4 => ?_)
  · rw [Bool.and_eq_true] at hb
    have dl : d < 32768 := by
      have := of_decide_eq_true hb.1
      omega
    refine q_asg (by walk_at "ev") fun H5 e5 => ?_
    refine q_wh (fun z σ H' => ∃ (rest a : Nat), σ = [some (.int (k : Int)), some (.ref l), some (.int (rest : Int)), some (.int (d : Int)), some (.int (a : Int))] ∧ Own H H' l ∧ Prs H' l L ∧ left = rest * d ^ a ∧ z = rest) left
      ⟨left, 0, rfl, (ow.on e4).on e5, (ps.ex e4).ex e5, by simp, rfl⟩ ?_
    rintro z σ' H6 ⟨y, a, rfl, ow6, ps6, el, ez⟩
    have r0 : y ≠ 0 := by
      rintro rfl
      have := ti.pos
      simp at el
      omega
    have dq : (0 : Int) < d := by omega
    refine wst (by walk_at "et") (fun hb H7 e7 => ?_) (fun hb H7 e7 => ?_)
    · have z : y % d = 0 := by
        have : ((y : Int) % d) = 0 := by simpa using hb
        exact_mod_cast this
      have hc : CDiv (y : Int) (d : Int) := ⟨by omega, by omega⟩
      refine q_asg (by walk_at "ev") fun H8 e8 => ?_
      refine s_aug rfl (by walk_at "ev") fun H9 e9 => ?_
      have e : y = y / d * d := (Nat.div_mul_cancel (Nat.dvd_of_mod_eq_zero z)).symm
      refine ⟨_, (by rw [ez]; exact Nat.div_lt_self (by omega) (by omega)), y / d, a + 1, rfl, ((ow6.on e7).on e8).on e9, ((ps6.ex e7).ex e8).ex e9, ?_, rfl⟩
      rw [el, Nat.pow_succ, Nat.mul_comm (d ^ a) d, ← Nat.mul_assoc, ← e]
    · have nd : ¬ d ∣ y := fun dv => by
        have z : y % d = 0 := Nat.mod_eq_zero_of_dvd dv
        have : ((y : Int) % d) = 0 := by exact_mod_cast z
        rw [this] at hb
        simp at hb
      have st := ti.step el nd
      -- found.append((d, often))
      have key : ∀ H8, Own H H8 l → Prs H8 l (if 0 < a then L ++ [(d, a)] else L) →
          tAsg (tOp kAdd (tOp kAdd (tVar 3) (tC (V.int 1))) (tOp kMod (tVar 3) (tC (V.int 2)))) (gName 3)
            { nx := fun σ2 H2 => ∃ m', m' < 40000 - d ∧ ∃ (L : List (Nat × Nat)) (left d : Nat) (o : Option V), σ2 = [some (.int (k : Int)), some (.ref l), some (.int (left : Int)), some (.int (d : Int)), o] ∧ Own H H2 l ∧ Prs H2 l L ∧ L.length ≤ d ∧ d < 32800 ∧ TrI k L left d ∧ m' = 40000 - d,
              rt := Q, bk := fun _ _ => False, ct := fun _ _ => False } [some (.int (k : Int)), some (.ref l), some (.int (y : Int)), some (.int (d : Int)), some (.int (a : Int))] H8 := by
        intro H8 ow8 ps8
        refine s_asg (by walk_at "ev") fun H9 e9 => ?_
        refine ⟨_, ?_, _, y, d + 1 + d % 2, _, rfl, ow8.on e9, ps8.ex e9, ?_, by omega, st, rfl⟩
        · omega
        · by_cases c : 0 < a
          · rw [if_pos c, List.length_append]
            simp; omega
          · rw [if_neg c]; omega
      refine q_if (b := decide ((0 : Int) < a)) (by walk_at "et") (fun hb H8 e8 => ?_) (fun hb H8 e8 => ?_)
      · have a0 : 0 < a := by
          have := of_decide_eq_true hb
          omega
        obtain ⟨as, g1, g2, _⟩ := ((ps6.ex e7).ex e8)
        refine s_appU g1 (by walk_at "ev") (eu_tup (by walk_at "ea") (by simp)) (by rw [List.length_map]; omega) fun p H9 np e9 hp => ?_
        refine key _ (((ow6.on e7).on e8).on e9).put ?_
        rw [if_pos a0]
        exact (((ps6.ex e7).ex e8).ex e9).app (e9 _ _ g1) hp
      · have a0 : ¬ 0 < a := by
          have := of_decide_eq_false hb
          omega
        refine key _ ((ow6.on e7).on e8) ?_
        rw [if_neg a0]
        exact (ps6.ex e7).ex e8
  · have x : ¬ (d < 32768 ∧ d * d ≤ left) := by
      rintro ⟨h1, h2⟩
      rw [Bool.and_eq_false_iff] at hb
      rcases hb with h | h
      · have := of_decide_eq_false h
        omega
      · have := of_decide_eq_false h
        apply this
        exact_mod_cast h2
    have tr := ti.tr kb x
    have fin : ∀ H5, Own H H5 l → Prs H5 l (if 1 < left ∧ left < 32768 then L ++ [(left, 1)] else L) → ∀ rest : Nat, rest = (if 1 < left ∧ left < 32768 then 1 else left) →
        tRet (tTup (tCons (tVar 1) (tCons (tVar 2) tNil))) { nx := fun _ H' => Q V.non H', rt := Q } [some (.int (k : Int)), some (.ref l), some (.int (rest : Int)), some (.int (d : Int)), o] H5 := by
      rintro H5 ow5 ps5 rest rfl
      refine s_retU (eu_tup (by walk_at "ea") (by simp)) fun t H6 nt e6 ht => ?_
      exact q t l _ _ H6 (ow5.ex.trans e6) ow5.new ht (ps5.ex e6) tr
    refine q_if (by walk_at "et") (fun hb H5 e5 => ?_) (fun hb H5 e5 => ?_)
    · rw [Bool.and_eq_true] at hb
      have c : 1 < left ∧ left < 32768 := by
        have h1 := of_decide_eq_true hb.1
        have h2 := of_decide_eq_true hb.2
        omega
      obtain ⟨as, g1, g2, _⟩ := (ps.ex e4).ex e5
      refine q_appU g1 (by walk_at "ev") (eu_tup (by walk_at "ea") (by simp)) (by rw [List.length_map]; omega) fun p H6 np e6 hp => ?_
      refine s_asg (by walk_at "ev") fun H7 e7 => ?_
      refine fin H7 (((((ow.on e4).on e5).on e6).put).on e7) ?_ 1 (by rw [if_pos c])
      rw [if_pos c]
      exact ((((ps.ex e4).ex e5).ex e6).app (e6 _ _ g1) hp).ex e7
    · have c : ¬ (1 < left ∧ left < 32768) := by
        rintro ⟨h1, h2⟩
        rw [Bool.and_eq_false_iff] at hb
        rcases hb with h | h
        · have := of_decide_eq_false h
          omega
        · have := of_decide_eq_false h
          omega
      refine fin H5 ((ow.on e4).on e5) ?_ left (by rw [if_neg c])
      rw [if_neg c]
      exact (ps.ex e4).ex e5

theorem spv {sp : Sp} {vs : List V} {H : Hp} {z : V} (h : ∀ H1 Q E, RetV z H1 Q → sp vs H1 Q E) : SpV sp vs H z := fun H1 _ Q q E => h H1 Q E q
theorem spv_root {k : Int} {H : Hp} (h0 : 0 ≤ k) (hk : k < 1073741824) : ∃ r, 0 ≤ r ∧ r * r ≤ k ∧ k < (r + 1) * (r + 1) ∧ SpV sp_whole_root ([.int k] ++ []) H (.int r) := by
  -- the root is one number, whatever the heap
  have uniq : ∀ r s : Int, 0 ≤ r → r * r ≤ k → k < (r + 1) * (r + 1) → 0 ≤ s → s * s ≤ k → k < (s + 1) * (s + 1) → r = s := by
    intro r s r0 r1 r2 s0 s1 s2
    have h1 := sq_lt (d := s + 1) (by omega) s2 r1
    have h2 := sq_lt (d := r + 1) (by omega) r2 s1
    omega
  have ex : ∃ r : Int, 0 ≤ r ∧ r * r ≤ k ∧ k < (r + 1) * (r + 1) := by
    obtain ⟨n, rfl⟩ := Int.eq_ofNat_of_zero_le h0
    clear uniq hk h0
    induction n with
    | zero => exact ⟨0, by decide, by decide, by decide⟩
    | succ n ih =>
      obtain ⟨r, r0, r1, r2⟩ := ih
      by_cases c : ((n + 1 : Nat) : Int) < (r + 1) * (r + 1)
      · exact ⟨r, r0, by omega, c⟩
      · refine ⟨r + 1, by omega, by omega, ?_⟩
        have e : (r + 1 + 1) * (r + 1 + 1) = (r + 1) * (r + 1) + 2 * r + 3 := by
          rw [Int.add_mul, Int.mul_add (r + 1) (r + 1) 1]
          omega
        omega
  obtain ⟨r, r0, r1, r2⟩ := ex
  refine ⟨r, r0, r1, r2, fun H1 _ Q q E => ⟨k, rfl, h0, hk, fun s H2 e s0 s1 s2 => ?_⟩⟩
  rw [← uniq r s r0 r1 r2 s0 s1 s2]
  exact q H2 e
theorem r_is_square (K : PySem.W.Frag) : ∀ vs H Q E, sp_is_square vs H Q E → t_is_square K { nx := fun _ H' => Q .non H', rt := Q } (start names_is_square vs) H := by
  rintro vs H Q E ⟨k, rfl, kb, q⟩
  obtain ⟨r, r0, r1, r2, sv⟩ := spv_root (k := (k : Int)) (H := H) (by omega) (by omega)
  have rk : r ≤ k := by
    by_cases z : r = 0
    · omega
    · have := sq_self (d := r) (by omega)
      omega
  have cm : CMul r r := .inl ⟨by omega, by omega⟩
  have er : Ev (tCall sp_whole_root [] E0 (tCons (tVar 0) tNil)) [some (V.int (k : Int))] H (.int r) := ev_call (by walk_at "ea") sv
  refine s_ret (v := .bl (decide (V.int (r * r) = V.int (k : Int)))) (ev_op (ev_op er er (rv_I cm)) (by walk_at "ev") (rv_eq rfl)) fun H1 e1 => ?_
  refine q _ H1 e1 ⟨fun h => ?_, fun ⟨s, hs⟩ => ?_⟩
  · have e : r * r = k := V.int.inj (of_decide_eq_true h)
    obtain ⟨m, rfl⟩ := Int.eq_ofNat_of_zero_le r0
    exact ⟨m, by exact_mod_cast e⟩
  · have hs' : (s : Int) * s = k := by exact_mod_cast hs
    have h1 := sq_lt (d := r + 1) (m := (s : Int)) (by omega) r2 (by omega)
    have h2 : r ≤ s := by
      have := sq_lt (d := (s : Int) + 1) (m := r) (k := k) (by omega) (by
        have e : ((s : Int) + 1) * (s + 1) = s * s + 2 * s + 1 := by
          rw [Int.add_mul, Int.mul_add]
          omega
        omega) r1
      omega
    have : r = s := by omega
    subst this
    rw [hs']; exact decide_eq_true rfl
theorem spv_is_square {k : Nat} {H : Hp} (h : k < 1073741824) : SpV sp_is_square ([.int (k : Int)] ++ []) H (.bl (pd (∃ r, r * r = k))) :=
  spv fun H1 Q E q => ⟨k, rfl, h, fun b H2 e hb => by rw [pd_of hb]; exact q H2 e⟩
theorem r_parts (K : PySem.W.Frag) : ∀ vs H Q E, sp_parts vs H Q E → t_parts K { nx := fun _ H' => Q .non H', rt := Q } (start names_parts vs) H := by
  rintro vs H Q E ⟨k, rfl, k1, kb, q⟩
  refine q_asgC (by walk_at "ea") fun H1 e1 => ⟨k, rfl, k1, kb, fun t l L left H2 e2 nl ht ps tr => g_pair ht ?_⟩
  have n0 := fresh_back e1 nl
  have pa := tr.parts
  have Lk : L.length ≤ 32 := by
    -- each prime is two at least: their product is above two to the length
    have gen : ∀ l : List (Nat × Nat), (∀ c ∈ l, Pr c.1) → (∀ c ∈ l, 1 ≤ c.2) → 2 ^ l.length ≤ pp l := by
      intro l
      induction l with
      | nil => intro _ _; decide
      | cons c l ih =>
        intro h1 h2
        have i := ih (fun x hx => h1 x (List.mem_cons_of_mem _ hx)) (fun x hx => h2 x (List.mem_cons_of_mem _ hx))
        have c2 := (h1 c List.mem_cons_self).two
        have c1 := h2 c List.mem_cons_self
        have p1 : c.1 ^ 1 ≤ c.1 ^ c.2 := Nat.pow_le_pow_right (by omega) c1
        rw [Nat.pow_one] at p1
        show 2 ^ (l.length + 1) ≤ c.1 ^ c.2 * pp l
        rw [Nat.pow_succ, Nat.mul_comm]
        exact Nat.mul_le_mul (by omega) i
    have g := gen L tr.pr tr.one
    have l1 : pp L ≤ k := by
      rw [tr.eq]
      refine Nat.le_mul_of_pos_right _ ?_
      rcases tr.rest with e | ⟨p, _⟩
      · omega
      · exact p.pos
    apply Nat.le_of_not_lt
    intro lt
    have : 2 ^ 33 ≤ 2 ^ L.length := Nat.pow_le_pow_right (by decide) lt
    omega
  refine q_if (by walk_at "et") (fun hb H3 e3 => ?_) (fun hb H3 e3 => ?_)
  · have c : 1 < left := by
      have := of_decide_eq_true hb
      omega
    obtain ⟨as, g1, g2, _⟩ := ps.ex e3
    refine s_appU g1 (by walk_at "ev") (eu_tup (by walk_at "ea") (by simp)) (by rw [List.length_map]; omega) fun p H4 np e4 hp => ?_
    show tRet (tVar 1) { nx := fun _ H' => Q V.non H', rt := Q } _ _
    refine s_ret (by walk_at "ev") fun H5 e5 => q l (L ++ [(left, 1)]) H5 ?_ n0 ((((ps.ex e3).ex e4).app (d := left) (o := 1) (e4 _ _ g1) hp).ex e5) (by rw [if_pos c] at pa; exact pa)
    exact Ex.trans (((e1.trans e2).trans (e3.trans e4)).mut n0) e5
  · have c : ¬ 1 < left := by
      have := of_decide_eq_false hb
      omega
    show tRet (tVar 1) { nx := fun _ H' => Q V.non H', rt := Q } _ _
    refine s_ret (by walk_at "ev") fun H5 e5 => q l L H5 (by walk_at "ex") n0 ((ps.ex e3).ex e5) (by rw [if_neg c] at pa; exact pa)
theorem fp_take {L : List (Nat × Nat)} {i : Nat} {c : Nat × Nat} (h : L[i]? = some c) : fp (L.take (i + 1)) = fp (L.take i) * (if c.2 % 2 = 1 then c.1 else 1) := by
  rw [List.take_add_one, h]
  exact fp_app _ _
theorem free_sign {k : Int} {g : Nat} (h : ∃ s, 0 < s ∧ k.natAbs = g * (s * s)) : ∃ t, t ≠ 0 ∧ k = (if k < 0 then 0 - (g : Int) else (g : Int)) * (t * t) := by
  obtain ⟨s, s0, e⟩ := h
  refine ⟨s, by omega, ?_⟩
  have e' : (k.natAbs : Int) = g * (s * s) := by exact_mod_cast e
  by_cases c : k < 0
  · rw [if_pos c, Int.sub_mul, Int.zero_mul]; omega
  · rw [if_neg c]; omega
theorem r_free_of (K : PySem.W.Frag) : ∀ vs H Q E, sp_free_of vs H Q E → t_free_of K { nx := fun _ H' => Q .non H', rt := Q } (start names_free_of vs) H := by
  rintro vs H Q E ⟨k, rfl, k0, kb, q⟩
  refine q_asgC (by walk_at "ea") fun H1 e1 => ⟨k.natAbs, rfl, by omega, kb, fun t l L left H2 e2 nl ht ps tr => g_pair ht ?_⟩
  have lb : left < 1073741824 := by
    refine Nat.lt_of_le_of_lt (Nat.le_of_dvd (by omega) ⟨pp L, ?_⟩) kb
    rw [tr.eq, Nat.mul_comm]
  have sqv := spv_is_square (k := left) (H := H2) lb
  have lsq : left = 1 ∨ ¬ ∃ r, r * r = left := by
    rcases tr.rest with e | ⟨p, _⟩
    · exact .inl e
    · exact .inr fun ⟨r, hr⟩ => p.not_sq r hr
  have same : ∀ H3, Ex H2 H3 → ∀ σ, σ = [some (V.int k), some (V.ref l), some (V.int (left : Int)), none, none] →
      (tSeq (tIfS (tTest (tOp kGe (tVar 2) (tC (.int 1073741824)))) tNever tNext) (tSeq (tFor (iList K (tVar 1)) (gTup K 2 (gCons (gName 3) (gCons (gName 4) gNil))) (tIfS (tTest (tOp rEq (tOp kMod (tVar 4) (tC (.int 2))) (tC (.int 1)))) (tAsg (tOp kMul (tVar 2) (tVar 3)) (gName 2)) tNext)) (tSeq (tIfS (tTest (tOp kLt (tVar 0) (tC (.int 0)))) (tRet (tOp kSub (tC (.int 0)) (tVar 2))) tNext) (tRet (tVar 2)))))
        { nx := fun _ H' => Q V.non H', rt := Q } σ H3 := by
    rintro H3 e3 σ rfl
    refine q_when (by walk_at "et") (fun hb H4 e4 => ?_) (fun hb H4 e4 => ?_)
    · have := of_decide_eq_true hb
      omega
    obtain ⟨as, g1, g2, at_⟩ := ((ps.ex e3).ex e4).at
    refine q_forL (by walk_at "ev") (sq_of g1) (fun i σ' H' => ∃ o1 o2 : Option V, σ' = [some (.int k), some (.ref l), some (.int ((left * fp (L.take i) : Nat) : Int)), o1, o2] ∧ Ex H4 H') ?_ ?_ ?_ ?_
    · intro H5 e5
      have e : left * fp (L.take 0) = left := by
        rw [List.take_zero]
        exact Nat.mul_one left
      exact ⟨none, none, by rw [e], e5⟩
    · rintro i σ' H' _ ⟨_, _, _, e5⟩
      exact sq_of (e5 _ _ g1)
    · rintro i x σ' H' hx ⟨o1, o2, rfl, e5⟩
      obtain ⟨a, c, rfl, hc, ha⟩ := at_ i x hx
      refine g_pair (e5 _ _ ha) ?_
      have hp := tr.pr c (List.mem_of_getElem? hc)
      have h1 := tr.one c (List.mem_of_getElem? hc)
      have cb : c.1 < 1073741824 := by
        have m : c.1 ∈ L.map Prod.fst := List.mem_map.mpr ⟨c, List.mem_of_getElem? hc, rfl⟩
        have d := Nat.dvd_trans (key_dvd tr.one m) ⟨left, tr.eq⟩
        have := Nat.le_of_dvd (by omega) d
        omega
      have cm : CMul ((left * fp (L.take i) : Nat) : Int) (c.1 : Int) := .inr ⟨by omega, by omega⟩
      refine s_if (by walk_at "et") (fun hb H6 e6 => ?_) (fun hb H6 e6 => ?_)
      · have o : c.2 % 2 = 1 := by
          have : ((c.2 : Int) % 2) = 1 := by simpa using hb
          omega
        refine s_asg (by walk_at "ev") fun H7 e7 => ⟨some (.int (c.1 : Int)), some (.int (c.2 : Int)), ?_, (e5.trans e6).trans e7⟩
        rw [fp_take hc, if_pos o, ← Nat.mul_assoc]
        rfl
      · have o : ¬ c.2 % 2 = 1 := by
          have : ¬ ((c.2 : Int) % 2) = 1 := by simpa using hb
          omega
        refine ⟨some (.int (c.1 : Int)), some (.int (c.2 : Int)), ?_, e5.trans e6⟩
        rw [fp_take hc, if_neg o, Nat.mul_one]
        rfl
    · rintro σ' H' ⟨o1, o2, rfl, e5⟩
      obtain ⟨sf, fs⟩ := tr.free
      have el : left * fp (L.take (as.map V.ref).length) = fp L * left := by
        rw [List.length_map, g2, List.take_length, Nat.mul_comm]
      rw [el]
      have fs' := free_sign (k := k) fs
      generalize fp L * left = g at *
      have exx : Ex H H' := (e1.trans e2).trans ((e3.trans e4).trans e5)
      refine q_when (by walk_at "et") (fun hb H6 e6 => ?_) (fun hb H6 e6 => ?_)
      · have c : k < 0 := of_decide_eq_true hb
        rw [if_pos c] at fs'
        refine s_ret (by walk_at "ev") fun H7 e7 => q (0 - (g : Int)) H7 ((exx.trans e6).trans e7) ?_ fs'
        have : (0 - (g : Int)).natAbs = g := by omega
        rw [this]; exact sf
      · have c : ¬ k < 0 := of_decide_eq_false hb
        rw [if_neg c] at fs'
        exact s_ret (by walk_at "ev") fun H7 e7 => q (g : Int) H7 ((exx.trans e6).trans e7) sf fs'
  refine q_when (et_B (ev_call (by walk_at "ea") sqv)) (fun hb H3 e3 => ?_) (fun hb H3 e3 => ?_)
  · refine s_asg (by walk_at "ev") fun H4 e4 => ?_
    refine same H4 (e3.trans e4) _ ?_
    rcases lsq with e | n
    · rw [e]; rfl
    · exact absurd (pd_iff.mp hb) n
  · exact same H3 e3 _ rfl

theorem spv_common {a b : Int} {H : Hp} : SpV sp_common ([.int a, .int b] ++ []) H (.int (Int.gcd a b : Int)) := spv fun H1 Q E q => ⟨a, b, rfl, q⟩
theorem spv_divisor {a b : Int} {H : Hp} : SpV sp_divisor ([.int a, .int b] ++ []) H (.int (Int.gcd a b : Int)) := spv_common
theorem spv_l_common {a b : Int} {H : Hp} : SpV sp_l_common ([.int a, .int b] ++ []) H (.int (Int.gcd a b : Int)) := spv_common
local macro_rules | `(tactic| walk_at "sp") => `(tactic| first | with_reducible exact spv_common | with_reducible exact spv_divisor | with_reducible exact spv_l_common)
theorem gcd_bd {a b : Int} (ha : a ≠ 0) : 0 < (Int.gcd a b : Int) ∧ (b ≠ 0 → (Int.gcd a b : Int) ≤ b.natAbs) ∧ (Int.gcd a b : Int) ≤ a.natAbs := by
  have h1 : 0 < Int.gcd a b := Nat.gcd_pos_of_pos_left _ (by omega)
  have h2 : Int.gcd a b ≤ a.natAbs := Nat.le_of_dvd (by omega) (Nat.gcd_dvd_left _ _)
  refine ⟨by omega, fun hb => ?_, by omega⟩
  have h3 : Int.gcd a b ≤ b.natAbs := Nat.le_of_dvd (by omega) (Nat.gcd_dvd_right _ _)
  omega
theorem div_bd {a g : Int} (h : 0 < g) : (a / g).natAbs ≤ a.natAbs := Int.natAbs_ediv_le_natAbs a g
theorem r_l_free_times (K : PySem.W.Frag) : ∀ vs H Q E, sp_l_free_times vs H Q E → t_l_free_times K { nx := fun _ H' => Q .non H', rt := Q } (start names_l_free_times vs) H := by
  rintro vs H Q E ⟨a, b, rfl, a0, ab, bb, q⟩
  obtain ⟨g1, g2, g3⟩ := gcd_bd (b := b) a0
  refine q_asg (by walk_at "ev") fun H1 e1 => ?_
  have d1 : CDiv a (Int.gcd a b : Int) := ⟨g1, by omega⟩
  have d2 : CDiv b (Int.gcd a b : Int) := ⟨g1, by omega⟩
  have h1 := div_bd (a := a) g1
  have cm : CMul (a / (Int.gcd a b : Int)) (b / (Int.gcd a b : Int)) := .inl ⟨by omega, by omega⟩
  refine s_ret (by walk_at "ev") fun H2 e2 => ?_
  exact q H2 (e1.trans e2)
theorem ft_div {a b : Int} (ha : a ≠ 0) : a * b / (Int.gcd a b : Int) / (Int.gcd a b : Int) = ft a b := by
  obtain ⟨x, y, g, g0, eg, ea, eb, _, _, _, e⟩ := ft_parts (b := b) ha
  rw [e, ← eg]
  have e1 : a * b = g * (g * (x * y)) := by
    rw [ea, eb]
    simp only [Int.mul_assoc, Int.mul_left_comm, Int.mul_comm]
  rw [e1, Int.mul_ediv_cancel_left _ (by omega), Int.mul_ediv_cancel_left _ (by omega)]
theorem free_self {a g t : Int} (ha : SqF a.natAbs) (hg : SqF g.natAbs) (t0 : t ≠ 0) (e : a = g * (t * t)) : g = a := by
  refine (sqf_uniq ha hg (t := 1) (s := t) (by decide) t0 ?_).symm
  rw [← e]; simp
theorem spv_free {a : Int} {H : Hp} (ha : SqF a.natAbs) (hb : a.natAbs < 1073741824) : SpV sp_free_of ([.int a] ++ []) H (.int a) :=
  spv fun H1 Q E q => ⟨a, rfl, by rintro rfl; exact ha.ne0 rfl, hb, fun g H2 e sg ⟨t, t0, et⟩ => by rw [free_self ha sg t0 et]; exact q H2 e⟩
local macro_rules | `(tactic| walk_at "sp") => `(tactic| ((with_reducible refine' spv_free ?a ?b); (case a => assumption); (case b => omega)))
theorem r_fpt (K : PySem.W.Frag) : ∀ vs H Q E, sp_fpt vs H Q E → t_fpt K { nx := fun _ H' => Q .non H', rt := Q } (start names_fpt vs) H := by
  rintro vs H Q E ⟨a, b, rfl, sa, sb, ab, bb, q⟩
  have a0 : a ≠ 0 := by rintro rfl; exact sa.ne0 rfl
  have b0 : b ≠ 0 := by rintro rfl; exact sb.ne0 rfl
  obtain ⟨g1, g2, g3⟩ := gcd_bd (b := b) a0
  refine q_asg (by walk_at "ev") fun H1 e1 => ?_
  refine q_asg (by walk_at "ev") fun H2 e2 => ?_
  refine q_asg (by walk_at "ev") fun H3 e3 => ?_
  have cm : CMul a b := .inl ⟨by omega, by omega⟩
  have d1 : CDiv (a * b) (Int.gcd a b : Int) := ⟨g1, by omega⟩
  have d2 : CDiv (a * b / (Int.gcd a b : Int)) (Int.gcd a b : Int) := ⟨g1, by omega⟩
  refine s_ret (by walk_at "ev") fun H4 e4 => ?_
  rw [ft_div a0]
  exact q H4 (by walk_at "ex")
theorem prod_app (l : List Int) (a : Int) : prod (l ++ [a]) = prod l * a := by
  induction l with
  | nil => show a * 1 = 1 * a; rw [Int.mul_one, Int.one_mul]
  | cons x l ih =>
    show x * prod (l ++ [a]) = x * prod l * a
    rw [ih, Int.mul_assoc]
theorem prod_take {r : List Int} {i : Nat} {a : Int} (h : r[i]? = some a) : prod (r.take (i + 1)) = prod (r.take i) * a := by
  rw [List.take_add_one, h]
  exact prod_app _ _
theorem ints_at {r : List Int} {i : Nat} {x : V} (h : (r.map V.int)[i]? = some x) : ∃ a, r[i]? = some a ∧ x = .int a := by
  rw [List.getElem?_map] at h
  cases e : r[i]? with
  | none => rw [e] at h; cases h
  | some a => rw [e] at h; cases h; exact ⟨a, rfl, rfl⟩
theorem free_step {f k g t s : Int} (sf : SqF f.natAbs) (sg : SqF g.natAbs) (t0 : t ≠ 0) (s0 : s ≠ 0) {P : Int} (e1 : P = f * (t * t)) (e2 : k = g * (s * s)) :
    SqF (ft f g).natAbs ∧ ∃ z, z ≠ 0 ∧ P * k = ft f g * (z * z) := by
  refine ⟨ft_sqf sf sg, ?_⟩
  have f0 : f ≠ 0 := by rintro rfl; exact sf.ne0 rfl
  obtain ⟨y, y0, e⟩ := ft_sq (b := g) f0
  refine ⟨y * (t * s), Int.mul_ne_zero y0 (Int.mul_ne_zero t0 s0), ?_⟩
  have : P * k = (f * g) * ((t * s) * (t * s)) := by
    rw [e1, e2]
    simp only [Int.mul_assoc, Int.mul_left_comm, Int.mul_comm]
  rw [this, e]
  simp only [Int.mul_assoc, Int.mul_left_comm, Int.mul_comm]
theorem free_le {k g t : Int} (k0 : k ≠ 0) (t0 : t ≠ 0) (e : k = g * (t * t)) : g.natAbs ≤ k.natAbs := by
  refine Nat.le_of_dvd (by omega) ⟨(t * t).natAbs, ?_⟩
  rw [e, Int.natAbs_mul]
theorem r_fpr (K : PySem.W.Frag) : ∀ vs H Q E, sp_fpr vs H Q E → t_fpr K { nx := fun _ H' => Q .non H', rt := Q } (start names_fpr vs) H := by
  rintro vs H Q E ⟨l, r, rfl, hl, hr, hel, q⟩
  refine q_asg (by walk_at "ev") fun H1 e1 => ?_
  refine q_forLn (by walk_at "ev") (sq_of (e1 _ _ hl)) (fun i σ' H' => ∃ (f : Int) (o1 o2 o3 : Option V), σ' = [some (.ref l), some (.int f), o1, o2, o3] ∧ Ex H1 H' ∧ SqF f.natAbs ∧ ∃ t, t ≠ 0 ∧ prod (r.take i) = f * (t * t)) ?_ ?_ ?_ ?_
  · intro H2 e2
    exact ⟨1, none, none, none, rfl, e2, sqf_one, 1, by decide, by rw [List.take_zero]; rfl⟩
  · rintro i σ' H' _ ⟨f, o1, o2, o3, _, e2, _⟩
    exact sq_of (e2 _ _ (e1 _ _ hl))
  · rintro i x σ' H' hx ⟨f, o1, o2, o3, rfl, e2, sf, t, t0, et⟩
    obtain ⟨k, hk, rfl⟩ := ints_at hx
    obtain ⟨k0, kb⟩ := hel k (List.mem_of_getElem? hk)
    refine q_asgC (by walk_at "ea") fun H3 e3 => ⟨k, rfl, k0, kb, fun g H4 e4 sg ⟨s, s0, es⟩ => ?_⟩
    dsimp only [gName]
    have f0 : f ≠ 0 := by rintro rfl; exact sf.ne0 rfl
    have g0 : g ≠ 0 := by rintro rfl; exact sg.ne0 rfl
    have gb := free_le k0 s0 es
    obtain ⟨c1, c2, c3⟩ := gcd_bd (b := g) f0
    have c2 := c2 g0
    refine q_asg (by walk_at "ev") fun H5 e5 => ?_
    have d1 : CDiv f (Int.gcd f g : Int) := ⟨c1, by omega⟩
    have d2 : CDiv g (Int.gcd f g : Int) := ⟨c1, by omega⟩
    have h2 := div_bd (a := g) c1
    have cm : CMul (f / (Int.gcd f g : Int)) (g / (Int.gcd f g : Int)) := .inr ⟨by omega, by omega⟩
    refine s_asg (by walk_at "ev") fun H6 e6 => ?_
    obtain ⟨s1, z, z0, ez⟩ := free_step sf sg t0 s0 et es
    exact ⟨ft f g, some (.int k), some (.int g), some (.int (Int.gcd f g : Int)), rfl, by walk_at "ex", s1, z, z0, by rw [prod_take hk]; exact ez⟩
  · rintro σ' H' ⟨f, o1, o2, o3, rfl, e2, sf, t, t0, et⟩
    rw [List.length_map, List.take_length] at et
    exact s_ret (by walk_at "ev") fun H3 e3 => q f H3 (by walk_at "ex") sf ⟨t, t0, et⟩
theorem r_l_free (K : PySem.W.Frag) : ∀ vs H Q E, sp_l_free vs H Q E → t_l_free K { nx := fun _ H' => Q .non H', rt := Q } (start names_l_free vs) H := by
  rintro vs H Q E ⟨k, rfl, k0, kb, q⟩
  refine q_asg (by walk_at "ev") fun H1 e1 => ?_
  refine q_asg (by walk_at "ev") fun H2 e2 => ?_
  refine q_asg (by walk_at "ev") fun H3 e3 => ?_
  have e03 : Ex H H3 := by walk_at "ex"
  clear e1 e2 e3
  refine q_wh (fun z σ H' => ∃ (left free d : Nat) (o : Option V), σ = [some (.int k), some (.int (left : Int)), some (.int (free : Int)), some (.int (d : Int)), o] ∧ Ex H H' ∧ LfI k.natAbs free left d ∧ d ≤ k.natAbs + 2 ∧ z = k.natAbs + 3 - d) (k.natAbs + 3 - 2)
    ⟨k.natAbs, 1, 2, none, rfl, e03, LfI.start (by omega), by omega, rfl⟩ ?_
  rintro z σ' H' ⟨left, free, d, o, rfl, ex, li, dk, rfl⟩
  have d2 := li.d2
  have lk : left ≤ k.natAbs := by
    obtain ⟨s, _, es⟩ := li.eq
    exact Nat.le_of_dvd (by omega) ⟨free * (s * s), by rw [es, Nat.mul_comm]⟩
  have fk : free ≤ k.natAbs := by
    obtain ⟨s, _, es⟩ := li.eq
    exact Nat.le_of_dvd (by omega) ⟨s * s * left, by rw [es, Nat.mul_assoc]⟩
  have cm : CMul ((d : Int) * d) d := .inr ⟨by omega, by omega⟩
  refine wst (by walk_at "et") (fun hb H4 e4 => ?_) (fun hb H4 e4 => ?_)
  · have ddd : d * d * d ≤ left := by
      have := of_decide_eq_true hb
      exact_mod_cast this
    have dl : d ≤ d * d * d := Nat.le_mul_of_pos_left _ (Nat.mul_pos (by omega) (by omega))
    refine q_asg (by walk_at "ev") fun H5 e5 => ?_
    refine q_wh (fun z σ H' => ∃ (y a : Nat), σ = [some (.int k), some (.int (y : Int)), some (.int (free : Int)), some (.int (d : Int)), some (.int (a : Int))] ∧ Ex H H' ∧ left = y * d ^ a ∧ z = y) left
      ⟨left, 0, rfl, (ex.trans e4).trans e5, by simp, rfl⟩ ?_
    rintro z σ' H6 ⟨y, a, rfl, ex6, el, ez⟩
    have y0 : y ≠ 0 := by
      rintro rfl
      have := li.pos
      simp at el
      omega
    have dq : (0 : Int) < d := by omega
    refine wst (by walk_at "et") (fun hb H7 e7 => ?_) (fun hb H7 e7 => ?_)
    · have z : y % d = 0 := by
        have : ((y : Int) % d) = 0 := by simpa using hb
        exact_mod_cast this
      have hc : CDiv (y : Int) (d : Int) := ⟨by omega, by omega⟩
      refine q_asg (by walk_at "ev") fun H8 e8 => ?_
      refine s_asg (by walk_at "ev") fun H9 e9 => ?_
      have e : y = y / d * d := (Nat.div_mul_cancel (Nat.dvd_of_mod_eq_zero z)).symm
      refine ⟨_, (by rw [ez]; exact Nat.div_lt_self (by omega) (by omega)), y / d, a + 1, rfl, by walk_at "ex", ?_, rfl⟩
      rw [el, Nat.pow_succ, Nat.mul_comm (d ^ a) d, ← Nat.mul_assoc, ← e]
    · have nd : ¬ d ∣ y := fun dv => by
        have z : y % d = 0 := Nat.mod_eq_zero_of_dvd dv
        have : ((y : Int) % d) = 0 := by exact_mod_cast z
        rw [this] at hb
        simp at hb
      have st := li.step el nd
      have cm2 : CMul (free : Int) (d : Int) := .inr ⟨by omega, by omega⟩
      refine q_ifSet (by walk_at "et") (fun _ => by walk_at "ev") (fun _ => rfl) fun H8 e8 => ?_
      refine s_asg (by walk_at "ev") fun H9 e9 => ?_
      refine ⟨_, ?_, y, _, d + 1, some (.int (a : Int)), ?_, by walk_at "ex", st, by omega, rfl⟩
      · omega
      · rw [v_ite]
        have : (if decide (V.int ((a : Int) % 2) = V.int 1) = true then (free : Int) * d else free) = ((if a % 2 = 1 then free * d else free : Nat) : Int) := by
          by_cases c : a % 2 = 1
          · rw [if_pos c, if_pos (by have : (a : Int) % 2 = 1 := by omega
                                     rw [this]; rfl)]; simp
          · rw [if_neg c, if_neg (by have : (a : Int) % 2 = 0 := by omega
                                     rw [this]; decide)]
        rw [this]; rfl
  · have ddd : left < d * d * d := by
      have := of_decide_eq_false hb
      apply Nat.lt_of_not_le
      intro h
      apply this
      exact_mod_cast h
    obtain ⟨la1, la2⟩ := li.last ddd
    have lp := li.pos
    -- the root of what is left, the same at each asking
    have root : ∃ r : Int, 0 ≤ r ∧ r ≤ left ∧ r * r ≤ left ∧ (∀ s, 0 ≤ s → s * s ≤ (left : Int) → s ≤ r) := by
      have ⟨r, r0, r1, r2, _⟩ := spv_root (k := (left : Int)) (H := H) (by omega) (by omega)
      refine ⟨r, r0, ?_, r1, fun s s0 hs => ?_⟩
      · by_cases z : r = 0
        · omega
        · have := sq_self (d := r) (by omega)
          omega
      · have := sq_lt (d := r + 1) (m := s) (by omega) r2 hs
        omega
    obtain ⟨r, r0, rl, r1, rm⟩ := root
    have sv : ∀ H5, SpV sp_l_root ([V.int (left : Int)] ++ []) H5 (.int r) := fun H5 => spv fun H1 Q E q => ⟨(left : Int), rfl, by omega, by omega, fun s H2 e s0 s1 sm _ => by
      have h1 := sm r r0 r1
      have h2 := rm s s0 s1
      have : s = r := by omega
      rw [this]; exact q H2 e⟩
    have er : Ev (tCall sp_l_root [] E0 (tCons (tVar 1) tNil)) [some (V.int k), some (V.int (left : Int)), some (V.int (free : Int)), some (V.int (d : Int)), o] H4 (.int r) := ev_call (by walk_at "ea") (sv _)
    have cr : CMul r r := .inl ⟨by omega, by omega⟩
    have sqr : r * r = left ↔ ∃ s : Nat, s * s = left := by
      constructor
      · intro e
        obtain ⟨m, rfl⟩ := Int.eq_ofNat_of_zero_le r0
        exact ⟨m, by exact_mod_cast e⟩
      · rintro ⟨s, hs⟩
        have hs' : (s : Int) * s = left := by exact_mod_cast hs
        have h1 := rm s (by omega) (by omega)
        have h2 : r ≤ s := by
          have := sq_lt (d := (s : Int) + 1) (m := r) (k := left) (by omega) (by
            have e : ((s : Int) + 1) * (s + 1) = s * s + 2 * s + 1 := by
              rw [Int.add_mul, Int.mul_add]
              omega
            omega) r1
          omega
        have : r = s := by omega
        rw [this]; exact hs'
    have fin : ∀ (g : Nat) H5, Ex H H5 → SqF g → (∃ s, 0 < s ∧ k.natAbs = g * (s * s)) →
        (tSeq (tIfS (tTest (tOp kLt (tVar 0) (tC (.int 0)))) (tRet (tOp kSub (tC (.int 0)) (tVar 2))) tNext) (tRet (tVar 2))) { nx := fun _ H' => Q V.non H', rt := Q } [some (V.int k), some (V.int (left : Int)), some (V.int (g : Int)), some (V.int (d : Int)), o] H5 := by
      intro g H5 e5 sf fs
      have fs' := free_sign (k := k) fs
      refine q_when (by walk_at "et") (fun hb H6 e6 => ?_) (fun hb H6 e6 => ?_)
      · have c : k < 0 := of_decide_eq_true hb
        rw [if_pos c] at fs'
        refine s_ret (by walk_at "ev") fun H7 e7 => q (0 - (g : Int)) H7 ((e5.trans e6).trans e7) ?_ fs'
        have : (0 - (g : Int)).natAbs = g := by omega
        rw [this]; exact sf
      · have c : ¬ k < 0 := of_decide_eq_false hb
        rw [if_neg c] at fs'
        exact s_ret (by walk_at "ev") fun H7 e7 => q (g : Int) H7 ((e5.trans e6).trans e7) sf fs'
    have cm3 : CMul (free : Int) (left : Int) := .inr ⟨by omega, by omega⟩
    refine q_when (et_test (ev_op (ev_op er er (rv_I cr)) (by walk_at "ev") (rv_ne rfl))) (fun hb H5 e5 => ?_) (fun hb H5 e5 => ?_)
    · have ns : ¬ ∃ s, s * s = left := fun h => by
        rw [sqr.mpr h] at hb
        simp at hb
      obtain ⟨sf, fs⟩ := la2 ns
      refine s_asg (by walk_at "ev") fun H6 e6 => ?_
      exact fin (free * left) H6 (by walk_at "ex") sf fs
    · have is : ∃ s, s * s = left := by
        apply sqr.mp
        have : decide (V.int (r * r) = V.int (left : Int)) = true := by simpa using hb
        exact V.int.inj (of_decide_eq_true this)
      obtain ⟨sf, fs⟩ := la1 is
      exact fin free H5 (by walk_at "ex") sf fs

/-! ### promises: squares, turns, what a place says -/
def BD : Nat := 1152921504606846976
def PlOk (p : Int) : Prop := p = 0 ∨ (2 ≤ p ∧ p < 1073741824)
def sp_square_by : Sp := fun vs H Q _ => ∃ k p : Int, vs = [.int k, .int p] ∧ 2 ≤ p ∧ p < 1073741824 ∧ RetV (.int (sq k p)) H Q
def sp_turns_at_two : Sp := fun vs H Q _ => ∃ a b : Int, vs = [.int a, .int b] ∧ (a ≠ 0 ∧ a.natAbs < BD) ∧ (b ≠ 0 ∧ b.natAbs < BD) ∧ RetV (.int (turns2 a b)) H Q
def sp_turns_at_odd : Sp := fun vs H Q _ => ∃ a b p : Int, vs = [.int a, .int b, .int p] ∧ (a ≠ 0 ∧ a.natAbs < BD) ∧ (b ≠ 0 ∧ b.natAbs < BD) ∧ (2 ≤ p ∧ p < 1073741824) ∧ RetV (.int (turnsP a b p)) H Q
def sp_says : Sp := fun vs H Q _ => ∃ a b p : Int, vs = [.int a, .int b, .int p] ∧ (a ≠ 0 ∧ a.natAbs < BD) ∧ (b ≠ 0 ∧ b.natAbs < BD) ∧ PlOk p ∧ RetV (.bl (saysB a b p)) H Q
def sp_l_says : Sp := sp_says
def sp_class_at : Sp := fun vs H Q _ => ∃ k p : Int, vs = [.int k, .int p] ∧ (k ≠ 0 ∧ k.natAbs < BD) ∧ (2 ≤ p ∧ p < 1073741824) ∧ RetU [.int (cv p k).1, .int (cv p k).2] H Q
def sp_is_square_at : Sp := fun vs H Q _ => ∃ k p : Int, vs = [.int k, .int p] ∧ (k ≠ 0 ∧ k.natAbs < BD) ∧ PlOk p ∧ RetV (.bl (isSqB k p)) H Q
def t_square_by (K : PySem.W.Frag) : TS := (tSeq (tIfS (tTest (tOp rEq (tOp kMod (tVar 0) (tVar 1)) (tC (.int 0)))) (tRet (tC (.int 0))) tNext) (tSeq (tIfS (tOr (tTest (tOp rEq (tVar 1) (tC (.int 2)))) (tTest (tOp rEq (tCall sp_power_by [] E0 (tCons (tVar 0) (tCons (tOp kDiv (tOp kSub (tVar 1) (tC (.int 1))) (tC (.int 2))) (tCons (tVar 1) tNil)))) (tC (.int 1))))) (tRet (tC (.int 1))) tNext) (tRet (tUn kNeg (tC (.int 1))))))
def t_turns_at_two (K : PySem.W.Frag) : TS := (tSeq (tAsg (tCall sp_split_at [] E0 (tCons (tVar 0) (tCons (tC (.int 2)) tNil))) (gTup K 2 (gCons (gName 2) (gCons (gName 3) gNil)))) (tSeq (tAsg (tCall sp_split_at [] E0 (tCons (tVar 1) (tCons (tC (.int 2)) tNil))) (gTup K 2 (gCons (gName 4) (gCons (gName 5) gNil)))) (tSeq (tAsg (tOp kMul (tOp kDiv (tOp kSub (tVar 3) (tC (.int 1))) (tC (.int 2))) (tOp kDiv (tOp kSub (tVar 5) (tC (.int 1))) (tC (.int 2)))) (gName 6)) (tSeq (tAug 6 (tOp kMul (tVar 2) (tOp kDiv (tOp kSub (tOp kMul (tVar 5) (tVar 5)) (tC (.int 1))) (tC (.int 8)))) ipAdd) (tSeq (tAug 6 (tOp kMul (tVar 4) (tOp kDiv (tOp kSub (tOp kMul (tVar 3) (tVar 3)) (tC (.int 1))) (tC (.int 8)))) ipAdd) (tRet (tVar 6)))))))
def t_turns_at_odd (K : PySem.W.Frag) : TS := (tSeq (tAsg (tCall sp_split_at [] E0 (tCons (tVar 0) (tCons (tVar 2) tNil))) (gTup K 2 (gCons (gName 3) (gCons (gName 4) gNil)))) (tSeq (tAsg (tCall sp_split_at [] E0 (tCons (tVar 1) (tCons (tVar 2) tNil))) (gTup K 2 (gCons (gName 5) (gCons (gName 6) gNil)))) (tSeq (tAsg (tOp kMul (tOp kMul (tVar 3) (tVar 5)) (tOp kDiv (tOp kSub (tVar 2) (tC (.int 1))) (tC (.int 2)))) (gName 7)) (tSeq (tIfS (tTest (tOp rEq (tCall sp_square_by [] E0 (tCons (tVar 4) (tCons (tVar 2) tNil))) (tUn kNeg (tC (.int 1))))) (tAug 7 (tVar 5) ipAdd) tNext) (tSeq (tIfS (tTest (tOp rEq (tCall sp_square_by [] E0 (tCons (tVar 6) (tCons (tVar 2) tNil))) (tUn kNeg (tC (.int 1))))) (tAug 7 (tVar 3) ipAdd) tNext) (tRet (tVar 7)))))))
def t_says (K : PySem.W.Frag) : TS := (tSeq (tIfS (tTest (tOp rEq (tVar 2) (tC (.int 0)))) (tRet (tOrV (tOp kGt (tVar 0) (tC (.int 0))) (tOp kGt (tVar 1) (tC (.int 0))))) tNext) (tSeq (tIfS (tTest (tOp rEq (tVar 2) (tC (.int 2)))) (tRet (tOp rEq (tOp kMod (tCall sp_turns_at_two [] E0 (tCons (tVar 0) (tCons (tVar 1) tNil))) (tC (.int 2))) (tC (.int 0)))) tNext) (tRet (tOp rEq (tOp kMod (tCall sp_turns_at_odd [] E0 (tCons (tVar 0) (tCons (tVar 1) (tCons (tVar 2) tNil)))) (tC (.int 2))) (tC (.int 0))))))
def t_class_at (K : PySem.W.Frag) : TS := (tSeq (tIfS (tTest (tOp rEq (tVar 1) (tC (.int 0)))) (tRet (tIf (tTest (tOp kGt (tVar 0) (tC (.int 0)))) (tC (.int 1)) (tUn kNeg (tC (.int 1))))) tNext) (tSeq (tAsg (tCall sp_split_at [] E0 (tCons (tVar 0) (tCons (tVar 1) tNil))) (gTup K 2 (gCons (gName 2) (gCons (gName 3) gNil)))) (tSeq (tIfS (tTest (tOp rEq (tVar 1) (tC (.int 2)))) (tRet (tTup (tCons (tOp kMod (tVar 2) (tC (.int 2))) (tCons (tOp kMod (tVar 3) (tC (.int 8))) tNil)))) tNext) (tRet (tTup (tCons (tOp kMod (tVar 2) (tC (.int 2))) (tCons (tCall sp_square_by [] E0 (tCons (tVar 3) (tCons (tVar 1) tNil))) tNil)))))))
def t_is_square_at (K : PySem.W.Frag) : TS := (tSeq (tIfS (tTest (tOp rEq (tVar 1) (tC (.int 0)))) (tRet (tOp kGt (tVar 0) (tC (.int 0)))) tNext) (tRet (tOp (rEqD K) (tCall sp_class_at [] E0 (tCons (tVar 0) (tCons (tVar 1) tNil))) (tTup (tCons (tC (.int 0)) (tCons (tC (.int 1)) tNil))))))
def t_l_says (K : PySem.W.Frag) : TS := (tSeq (tIfS (tTest (tOp rEq (tVar 2) (tC (.int 0)))) (tRet (tOrV (tOp kGt (tVar 0) (tC (.int 0))) (tOp kGt (tVar 1) (tC (.int 0))))) tNext) (tSeq (tAsg (tCall sp_l_split [] E0 (tCons (tVar 0) (tCons (tVar 2) tNil))) (gTup K 2 (gCons (gName 3) (gCons (gName 4) gNil)))) (tSeq (tAsg (tCall sp_l_split [] E0 (tCons (tVar 1) (tCons (tVar 2) tNil))) (gTup K 2 (gCons (gName 5) (gCons (gName 6) gNil)))) (tSeq (tIfS (tTest (tOp rEq (tVar 2) (tC (.int 2)))) (tSeq (tAsg (tOp kMul (tOp kDiv (tOp kSub (tVar 4) (tC (.int 1))) (tC (.int 2))) (tOp kDiv (tOp kSub (tVar 6) (tC (.int 1))) (tC (.int 2)))) (gName 7)) (tSeq (tAsg (tOp kAdd (tVar 7) (tOp kMul (tVar 3) (tOp kDiv (tOp kSub (tOp kMul (tVar 6) (tVar 6)) (tC (.int 1))) (tC (.int 8))))) (gName 7)) (tSeq (tAsg (tOp kAdd (tVar 7) (tOp kMul (tVar 5) (tOp kDiv (tOp kSub (tOp kMul (tVar 4) (tVar 4)) (tC (.int 1))) (tC (.int 8))))) (gName 7)) (tRet (tOp rEq (tOp kMod (tVar 7) (tC (.int 2))) (tC (.int 0))))))) tNext) (tSeq (tAsg (tOp kMul (tOp kMul (tVar 3) (tVar 5)) (tOp kDiv (tOp kSub (tVar 2) (tC (.int 1))) (tC (.int 2)))) (gName 7)) (tSeq (tIfS (tTest (tOp rNe (tCall sp_l_power [] E0 (tCons (tVar 4) (tCons (tOp kDiv (tOp kSub (tVar 2) (tC (.int 1))) (tC (.int 2))) (tCons (tVar 2) tNil)))) (tC (.int 1)))) (tAsg (tOp kAdd (tVar 7) (tVar 5)) (gName 7)) tNext) (tSeq (tIfS (tTest (tOp rNe (tCall sp_l_power [] E0 (tCons (tVar 6) (tCons (tOp kDiv (tOp kSub (tVar 2) (tC (.int 1))) (tC (.int 2))) (tCons (tVar 2) tNil)))) (tC (.int 1)))) (tAsg (tOp kAdd (tVar 7) (tVar 3)) (gName 7)) tNext) (tRet (tOp rEq (tOp kMod (tVar 7) (tC (.int 2))) (tC (.int 0)))))))))))
theorem spv_power {k n m : Int} {H : Hp} (hn : 0 ≤ n) (h0 : 0 < m) (hm : m < 1073741824) : SpV sp_power_by ([.int k, .int n, .int m] ++ []) H (.int (k ^ n.toNat % m)) :=
  spv fun H1 Q E q => ⟨k, n.toNat, m, by rw [Int.toNat_of_nonneg hn]; rfl, h0, hm, q⟩
theorem spv_l_power {k n m : Int} {H : Hp} (hn : 0 ≤ n) (h0 : 1 < m) (hm : m < 1073741824) : SpV sp_l_power ([.int k, .int n, .int m] ++ []) H (.int (k ^ n.toNat % m)) :=
  spv fun H1 Q E q => ⟨k, n.toNat, m, by rw [Int.toNat_of_nonneg hn]; rfl, h0, hm, q⟩
theorem spv_square {k p : Int} {H : Hp} (h : 2 ≤ p ∧ p < 1073741824) : SpV sp_square_by ([.int k, .int p] ++ []) H (.int (sq k p)) :=
  spv fun H1 Q E q => ⟨k, p, rfl, h.1, h.2, q⟩
theorem spv_two {a b : Int} {H : Hp} (ha : a ≠ 0 ∧ a.natAbs < BD) (hb : b ≠ 0 ∧ b.natAbs < BD) : SpV sp_turns_at_two ([.int a, .int b] ++ []) H (.int (turns2 a b)) :=
  spv fun H1 Q E q => ⟨a, b, rfl, ha, hb, q⟩
theorem spv_oddp {a b p : Int} {H : Hp} (ha : a ≠ 0 ∧ a.natAbs < BD) (hb : b ≠ 0 ∧ b.natAbs < BD) (hp : 2 ≤ p ∧ p < 1073741824) : SpV sp_turns_at_odd ([.int a, .int b, .int p] ++ []) H (.int (turnsP a b p)) :=
  spv fun H1 Q E q => ⟨a, b, p, rfl, ha, hb, hp, q⟩
theorem spv_says {a b p : Int} {H : Hp} (ha : a ≠ 0 ∧ a.natAbs < BD) (hb : b ≠ 0 ∧ b.natAbs < BD) (hp : PlOk p) : SpV sp_says ([.int a, .int b, .int p] ++ []) H (.bl (saysB a b p)) :=
  spv fun H1 Q E q => ⟨a, b, p, rfl, ha, hb, hp, q⟩
theorem spv_l_says {a b p : Int} {H : Hp} (ha : a ≠ 0 ∧ a.natAbs < BD) (hb : b ≠ 0 ∧ b.natAbs < BD) (hp : PlOk p) : SpV sp_l_says ([.int a, .int b, .int p] ++ []) H (.bl (saysB a b p)) := spv_says ha hb hp
theorem spv_is_square_at {k p : Int} {H : Hp} (hk : k ≠ 0 ∧ k.natAbs < BD) (hp : PlOk p) : SpV sp_is_square_at ([.int k, .int p] ++ []) H (.bl (isSqB k p)) :=
  spv fun H1 Q E q => ⟨k, p, rfl, hk, hp, q⟩
theorem spu_split {k p : Int} {H : Hp} (hk : k ≠ 0) (hp : 2 ≤ p ∧ p < 1073741824) : SpU sp_split_at ([.int k, .int p] ++ []) H [.int (ord p k : Int), .int (unit p k)] :=
  fun H1 _ Q q E => ⟨k, p, rfl, hk, hp.1, hp.2, q⟩
theorem spu_l_split {k p : Int} {H : Hp} (hk : k ≠ 0) (hp : 2 ≤ p ∧ p < 1073741824) : SpU sp_l_split ([.int k, .int p] ++ []) H [.int (ord p k : Int), .int (unit p k)] := spu_split hk hp
theorem spu_class {k p : Int} {H : Hp} (hk : k ≠ 0 ∧ k.natAbs < BD) (hp : 2 ≤ p ∧ p < 1073741824) : SpU sp_class_at ([.int k, .int p] ++ []) H [.int (cv p k).1, .int (cv p k).2] :=
  fun H1 _ Q q E => ⟨k, p, rfl, hk, hp, q⟩
local macro_rules | `(tactic| walk_at "sp") => `(tactic| first
  | ((with_reducible refine' spv_power ?a ?b ?c); (case a => omega); (case b => omega); (case c => omega))
  | ((with_reducible refine' spv_l_power ?a ?b ?c); (case a => omega); (case b => omega); (case c => omega))
  | ((with_reducible refine' spv_square ?a); (case a => first | assumption | exact ⟨by omega, by omega⟩))
  | ((with_reducible refine' spv_two ?a ?b); (case a => assumption); (case b => assumption))
  | ((with_reducible refine' spv_oddp ?a ?b ?c); (case a => assumption); (case b => assumption); (case c => assumption))
  | ((with_reducible refine' spv_says ?a ?b ?c); (case a => assumption); (case b => assumption); (case c => assumption))
  | ((with_reducible refine' spv_l_says ?a ?b ?c); (case a => assumption); (case b => assumption); (case c => assumption))
  | ((with_reducible refine' spv_is_square_at ?a ?b); (case a => assumption); (case b => assumption)))
theorem r_square_by (K : PySem.W.Frag) : ∀ vs H Q E, sp_square_by vs H Q E → t_square_by K { nx := fun _ H' => Q .non H', rt := Q } (start names_square_by vs) H := by
  rintro vs H Q E ⟨k, p, rfl, p2, pb, q⟩
  refine q_when (by walk_at "et") (fun hb H1 e1 => ?_) (fun hb H1 e1 => ?_)
  · have z : k % p = 0 := by simpa using hb
    have e : sq k p = 0 := by unfold sq; rw [if_pos z]
    rw [e] at q
    exact s_ret (by walk_at "ev") fun H2 e2 => q H2 (e1.trans e2)
  · have z : ¬ k % p = 0 := by simpa using hb
    refine q_when (b := decide (V.int p = V.int 2) || decide (V.int (k ^ ((p - 1) / 2).toNat % p) = V.int 1)) (by walk_at "et") (fun hb H2 e2 => ?_) (fun hb H2 e2 => ?_)
    · have c : p = 2 ∨ k ^ ((p - 1) / 2).toNat % p = 1 := by simpa using hb
      have e : sq k p = 1 := by unfold sq; rw [if_neg z, if_pos c]
      rw [e] at q
      exact s_ret (by walk_at "ev") fun H3 e3 => q H3 (by walk_at "ex")
    · have c : ¬ (p = 2 ∨ k ^ ((p - 1) / 2).toNat % p = 1) := by
        intro c
        have : (decide (V.int p = V.int 2) || decide (V.int (k ^ ((p - 1) / 2).toNat % p) = V.int 1)) = true := by simpa using c
        rw [this] at hb
        cases hb
      have e : sq k p = -1 := by unfold sq; rw [if_neg z, if_neg c]
      rw [e] at q
      exact s_ret (by walk_at "ev") fun H3 e3 => q H3 (by walk_at "ex")
theorem r_turns_at_two (K : PySem.W.Frag) : ∀ vs H Q E, sp_turns_at_two vs H Q E → t_turns_at_two K { nx := fun _ H' => Q .non H', rt := Q } (start names_turns_at_two vs) H := by
  rintro vs H Q E ⟨a, b, rfl, ha, hb, q⟩
  obtain ⟨o1, u1⟩ := ord_le (p := 2) (by decide) ha.1
  obtain ⟨o2, u2⟩ := ord_le (p := 2) (by decide) hb.1
  have b1 := ha.2
  have b2 := hb.2
  unfold BD at b1 b2
  refine q_asgT2 (eu_call (by walk_at "ea") (spu_split ha.1 ⟨by decide, by decide⟩)) fun H1 e1 => ?_
  refine q_asgT2 (eu_call (by walk_at "ea") (spu_split hb.1 ⟨by decide, by decide⟩)) fun H2 e2 => ?_
  unfold turns2 at q
  generalize ord 2 a = al at *
  generalize unit 2 a = u at *
  generalize ord 2 b = be at *
  generalize unit 2 b = v at *
  have c1 : CMul ((u - 1) / 2) ((v - 1) / 2) := .inl ⟨by omega, by omega⟩
  have c2 : CMul v v := .inl ⟨by omega, by omega⟩
  have c3 : CMul u u := .inl ⟨by omega, by omega⟩
  have c4 : CMul (al : Int) ((v * v - 1) / 8) := .inl ⟨by omega, by omega⟩
  have c5 : CMul (be : Int) ((u * u - 1) / 8) := .inl ⟨by omega, by omega⟩
  refine q_asg (by walk_at "ev") fun H3 e3 => ?_
  refine q_aug rfl (by walk_at "ev") fun H4 e4 => ?_
  refine q_aug rfl (by walk_at "ev") fun H5 e5 => ?_
  exact s_ret (by walk_at "ev") fun H6 e6 => q H6 (by walk_at "ex")
theorem r_turns_at_odd (K : PySem.W.Frag) : ∀ vs H Q E, sp_turns_at_odd vs H Q E → t_turns_at_odd K { nx := fun _ H' => Q .non H', rt := Q } (start names_turns_at_odd vs) H := by
  rintro vs H Q E ⟨a, b, p, rfl, ha, hb, hp, q⟩
  obtain ⟨o1, u1⟩ := ord_le hp.1 ha.1
  obtain ⟨o2, u2⟩ := ord_le hp.1 hb.1
  have b1 := ha.2
  have b2 := hb.2
  unfold BD at b1 b2
  refine q_asgT2 (eu_call (by walk_at "ea") (spu_split ha.1 hp)) fun H1 e1 => ?_
  refine q_asgT2 (eu_call (by walk_at "ea") (spu_split hb.1 hp)) fun H2 e2 => ?_
  unfold turnsP at q
  generalize ord p a = al at *
  generalize unit p a = u at *
  generalize ord p b = be at *
  generalize unit p b = v at *
  have c1 : CMul (al : Int) (be : Int) := .inl ⟨by omega, by omega⟩
  have c2 : CMul ((al : Int) * be) ((p - 1) / 2) := .inr ⟨by omega, by omega⟩
  refine q_asg (by walk_at "ev") fun H3 e3 => ?_
  refine q_ifAug (by walk_at "et") rfl (fun _ => by walk_at "ev") fun H4 e4 => ?_
  refine q_ifAug (by walk_at "et") rfl (fun _ => by walk_at "ev") fun H5 e5 => ?_
  refine s_ret (by walk_at "ev") fun H6 e6 => ?_
  have dv : ∀ (x y : Int), decide (V.int x = V.int y) = decide (x = y) := fun x y => decide_eq_decide.mpr ⟨V.int.inj, fun h => by rw [h]⟩
  have add_if : ∀ (c : Bool) (x y : Int), (if c = true then x + y else x) = x + (if c = true then y else 0) := by
    intro c x y
    cases c
    · simp
    · simp
  rw [dv, dv, add_if, add_if]
  simp only [decide_eq_true_eq]
  exact q H6 (by walk_at "ex")
theorem r_says (K : PySem.W.Frag) : ∀ vs H Q E, sp_says vs H Q E → t_says K { nx := fun _ H' => Q .non H', rt := Q } (start names_says vs) H := by
  rintro vs H Q E ⟨a, b, p, rfl, ha, hb, hp, q⟩
  have dv : ∀ (x y : Int), decide (V.int x = V.int y) = decide (x = y) := fun x y => decide_eq_decide.mpr ⟨V.int.inj, fun h => by rw [h]⟩
  unfold saysB at q
  refine q_when (by walk_at "et") (fun h H1 e1 => ?_) (fun h H1 e1 => ?_)
  · have p0 : p = 0 := by simpa using h
    rw [if_pos p0] at q
    exact s_ret (by walk_at "ev") fun H2 e2 => q H2 (by walk_at "ex")
  · have p0 : p ≠ 0 := by simpa using h
    have hp2 : 2 ≤ p ∧ p < 1073741824 := by
      rcases hp with e | e
      · exact absurd e p0
      · exact e
    rw [if_neg p0] at q
    refine q_when (by walk_at "et") (fun h H2 e2 => ?_) (fun h H2 e2 => ?_)
    · have p2 : p = 2 := by simpa using h
      rw [if_pos p2] at q
      refine s_ret (by walk_at "ev") fun H3 e3 => ?_
      rw [dv]
      exact q H3 (by walk_at "ex")
    · have p2 : p ≠ 2 := by simpa using h
      rw [if_neg p2] at q
      refine s_ret (by walk_at "ev") fun H3 e3 => ?_
      rw [dv]
      exact q H3 (by walk_at "ex")
theorem r_l_says (K : PySem.W.Frag) : ∀ vs H Q E, sp_l_says vs H Q E → t_l_says K { nx := fun _ H' => Q .non H', rt := Q } (start names_l_says vs) H := by
  rintro vs H Q E ⟨a, b, p, rfl, ha, hb, hp, q⟩
  have dv : ∀ (x y : Int), decide (V.int x = V.int y) = decide (x = y) := fun x y => decide_eq_decide.mpr ⟨V.int.inj, fun h => by rw [h]⟩
  unfold saysB at q
  refine q_when (by walk_at "et") (fun h H1 e1 => ?_) (fun h H1 e1 => ?_)
  · have p0 : p = 0 := by simpa using h
    rw [if_pos p0] at q
    exact s_ret (by walk_at "ev") fun H2 e2 => q H2 (by walk_at "ex")
  have p0 : p ≠ 0 := by simpa using h
  have hp2 : 2 ≤ p ∧ p < 1073741824 := by
    rcases hp with e | e
    · exact absurd e p0
    · exact e
  rw [if_neg p0] at q
  obtain ⟨o1, u1⟩ := ord_le hp2.1 ha.1
  obtain ⟨o2, u2⟩ := ord_le hp2.1 hb.1
  have n1 := unit_nd hp2.1 ha.1
  have n2 := unit_nd hp2.1 hb.1
  have b1 := ha.2
  have b2 := hb.2
  unfold BD at b1 b2
  refine q_asgT2 (eu_call (by walk_at "ea") (spu_l_split ha.1 hp2)) fun H2 e2 => ?_
  refine q_asgT2 (eu_call (by walk_at "ea") (spu_l_split hb.1 hp2)) fun H3 e3 => ?_
  refine q_when (by walk_at "et") (fun h H4 e4 => ?_) (fun h H4 e4 => ?_)
  · have p2 : p = 2 := by simpa using h
    subst p2
    rw [if_pos rfl] at q
    unfold turns2 at q
    generalize ord 2 a = al at *
    generalize unit 2 a = u at *
    generalize ord 2 b = be at *
    generalize unit 2 b = v at *
    have c1 : CMul ((u - 1) / 2) ((v - 1) / 2) := .inl ⟨by omega, by omega⟩
    have c2 : CMul v v := .inl ⟨by omega, by omega⟩
    have c3 : CMul u u := .inl ⟨by omega, by omega⟩
    have c4 : CMul (al : Int) ((v * v - 1) / 8) := .inl ⟨by omega, by omega⟩
    have c5 : CMul (be : Int) ((u * u - 1) / 8) := .inl ⟨by omega, by omega⟩
    refine q_asg (by walk_at "ev") fun H5 e5 => ?_
    refine q_asg (by walk_at "ev") fun H6 e6 => ?_
    refine q_asg (by walk_at "ev") fun H7 e7 => ?_
    refine s_ret (by walk_at "ev") fun H8 e8 => ?_
    rw [dv]
    exact q H8 (by walk_at "ex")
  · have p2 : p ≠ 2 := by simpa using h
    rw [if_neg p2] at q
    have sqe : ∀ u : Int, ¬ p ∣ u → ((!decide (V.int (u ^ ((p - 1) / 2).toNat % p) = V.int 1)) = true ↔ sq u p = -1) := by
      intro u hu
      unfold sq
      rw [if_neg fun e => hu (Int.dvd_of_emod_eq_zero e), dv]
      by_cases c : u ^ ((p - 1) / 2).toNat % p = 1
      · rw [if_pos (.inr c), decide_eq_true c]; simp
      · rw [if_neg (by rintro (z | z); exact p2 z; exact c z), decide_eq_false c]; simp
    have s1 := sqe _ n1
    have s2 := sqe _ n2
    unfold turnsP at q
    generalize ord p a = al at *
    generalize unit p a = u at *
    generalize ord p b = be at *
    generalize unit p b = v at *
    have c1 : CMul (al : Int) (be : Int) := .inl ⟨by omega, by omega⟩
    have c2 : CMul ((al : Int) * be) ((p - 1) / 2) := .inr ⟨by omega, by omega⟩
    refine q_asg (by walk_at "ev") fun H5 e5 => ?_
    refine q_ifSet (by walk_at "et") (fun _ => by walk_at "ev") (fun _ => rfl) fun H6 e6 => ?_
    rw [v_ite]
    refine q_ifSet (by walk_at "et") (fun _ => by walk_at "ev") (fun _ => rfl) fun H7 e7 => ?_
    rw [v_ite]
    refine s_ret (by walk_at "ev") fun H8 e8 => ?_
    have add_if : ∀ (c : Bool) (x y : Int), (if c = true then x + y else x) = x + (if c = true then y else 0) := by
      intro c x y
      cases c
      · simp
      · simp
    rw [dv, add_if, add_if, app_if s1, app_if s2]
    exact q H8 (by walk_at "ex")
theorem rv_eqD2 {K : PySem.W.Frag} {a b : Addr} {H : Hp} {i j k l : Int} (ha : H a = some (.tup [.int i, .int k])) (hb : H b = some (.tup [.int j, .int l])) :
    RV (rEqD K) (.ref a) (.ref b) H (.bl ((i == j) && ((k == l) && true))) := fun H1 e Q q =>
  ⟨.tuple [.int i, .int k], .tuple [.int j, .int l], .tup (st_of (e _ _ ha)) (.cons (.int i) (.cons (.int k) .nil)), .tup (st_of (e _ _ hb)) (.cons (.int j) (.cons (.int l) .nil)), rfl, rfl, q H1 (Ex.refl H1)⟩
theorem r_class_at (K : PySem.W.Frag) : ∀ vs H Q E, sp_class_at vs H Q E → t_class_at K { nx := fun _ H' => Q .non H', rt := Q } (start names_class_at vs) H := by
  rintro vs H Q E ⟨k, p, rfl, hk, hp, q⟩
  refine q_when (by walk_at "et") (fun h H1 e1 => ?_) (fun h H1 e1 => ?_)
  · have p0 : p = 0 := by simpa using h
    omega
  refine q_asgT2 (eu_call (by walk_at "ea") (spu_split hk.1 hp)) fun H2 e2 => ?_
  unfold cv at q
  refine q_when (by walk_at "et") (fun h H3 e3 => ?_) (fun h H3 e3 => ?_)
  · have p2 : p = 2 := by simpa using h
    subst p2
    rw [if_pos rfl] at q
    exact s_retU (eu_tup (by walk_at "ea") (by simp)) fun t H4 nt e4 ht => q t H4 (fresh_back (by walk_at "ex") nt) (by walk_at "ex") ht
  · have p2 : p ≠ 2 := by simpa using h
    rw [if_neg p2] at q
    exact s_retU (eu_tup (by walk_at "ea") (by simp)) fun t H4 nt e4 ht => q t H4 (fresh_back (by walk_at "ex") nt) (by walk_at "ex") ht
theorem r_is_square_at (K : PySem.W.Frag) : ∀ vs H Q E, sp_is_square_at vs H Q E → t_is_square_at K { nx := fun _ H' => Q .non H', rt := Q } (start names_is_square_at vs) H := by
  rintro vs H Q E ⟨k, p, rfl, hk, hp, q⟩
  unfold isSqB at q
  refine q_when (by walk_at "et") (fun h H1 e1 => ?_) (fun h H1 e1 => ?_)
  · have p0 : p = 0 := by simpa using h
    rw [if_pos p0] at q
    exact s_ret (by walk_at "ev") fun H2 e2 => q H2 (by walk_at "ex")
  · have p0 : p ≠ 0 := by simpa using h
    have hp2 : 2 ≤ p ∧ p < 1073741824 := by
      rcases hp with e | e
      · exact absurd e p0
      · exact e
    rw [if_neg p0] at q
    refine s_ret (ev_opUU (eu_call (by walk_at "ea") (spu_class hk hp2)) (eu_tup (by walk_at "ea") (by simp)) fun a b H2 ha hb e2 => rv_eqD2 ha hb) fun H3 e3 => ?_
    have e : ((cv p k).1 == 0 && ((cv p k).2 == 1 && true)) = (if p = 2 then decide ((ord 2 k : Int) % 2 = 0) && decide (unit 2 k % 8 = 1) else decide ((ord p k : Int) % 2 = 0) && decide (sq (unit p k) p = 1)) := by
      rw [Bool.and_true]
      unfold cv
      by_cases c : p = 2
      · rw [if_pos c, if_pos c]; rfl
      · rw [if_neg c, if_neg c]; rfl
    rw [e]
    exact q H3 (by walk_at "ex")

/-! ### comprehensions that keep some numbers of a list -/
section
variable {K : PySem.W.Frag} {σ : L2.St} {H : Hp} {t : TT} {tl : TE}
theorem filt_step {r : List Int} {i : Nat} {a : Int} {g : Int → Bool} (h : r[i]? = some a) : (r.take (i + 1)).filter g = (r.take i).filter g ++ (if g a = true then [a] else []) := by
  rw [List.take_add_one, h]
  show ((r.take i) ++ [a]).filter g = _
  rw [List.filter_append, List.filter_cons]
  cases g a <;> rfl
theorem filt_turn {H1 : Hp} {r : List Int} {g : Int → Bool} {j : Nat} {vs : List Nat} {Dl : Addr} (hz : r.length ≤ 40000) (hw : ∀ x, wipe ((wipe σ vs).set j (some x)) vs = wipe σ vs) (hj : ∀ x, ((wipe σ vs).set j (some x))[j]? = some (some x))
    (ht : ∀ x H2, Ex H1 H2 → x ∈ r → EvT t ((wipe σ vs).set j (some (.int x))) H2 (g x)) (hD : H1 Dl = none) {i : Nat} {x : V} {H' : Hp} (hi : (r.map V.int)[i]? = some x) (p : Ex H1 H' ∧ H' Dl = some (.lst (((r.take i).filter g).map V.int))) :
    (gName j) x (wipe σ vs) H' fun σ2 H2 => wipe σ2 vs = wipe σ vs ∧ t σ2 H2 fun b H3 =>
      if b = true then (tVar j) σ2 H3 fun y H4 => ∃ acc, H4 Dl = some (.lst acc) ∧ acc.length < sizeLine ∧ (Ex H1 (upd H4 Dl (.lst (acc ++ [y]))) ∧ (upd H4 Dl (.lst (acc ++ [y]))) Dl = some (.lst (((r.take (i + 1)).filter g).map V.int)))
      else (Ex H1 H3 ∧ H3 Dl = some (.lst (((r.take (i + 1)).filter g).map V.int))) := by
  obtain ⟨a, ha, rfl⟩ := ints_at hi
  refine ⟨hw _, ht a H' p.1 (List.mem_of_getElem? ha) H' (Ex.refl H') _ fun H3 e3 => ?_⟩
  rw [filt_step ha]
  have hd := e3 _ _ p.2
  cases hg : g a with
  | true =>
    refine ⟨.int a, hj _, _, hd, ?_, (p.1.trans e3).mut hD, ?_⟩
    · refine sz_lt ?_
      rw [List.length_map]
      have h1 := List.length_filter_le g (r.take i)
      have h2 := List.length_take_le i r
      have h3 : (r.take i).length ≤ r.length := by rw [List.length_take]; omega
      omega
    · rw [upd_same, if_pos rfl, List.map_append]; rfl
  | false =>
    refine ⟨p.1.trans e3, ?_⟩
    rw [if_neg (by decide), List.append_nil]; exact hd
theorem el_filt {a : Addr} {r : List Int} {j : Nat} {vs : List Nat} (g : Int → Bool) (h : Ev tl σ H (.ref a)) (hx : SqL K H a (r.map V.int)) (hz : r.length ≤ 40000) (hw : ∀ x, wipe ((wipe σ vs).set j (some x)) vs = wipe σ vs) (hj : ∀ x, ((wipe σ vs).set j (some x))[j]? = some (some x))
    (ht : ∀ x H2, Ex H H2 → x ∈ r → EvT t ((wipe σ vs).set j (some (.int x))) H2 (g x)) : EvL (tLc (iList K tl) (gName j) t (tVar j) vs) σ H ((r.filter g).map V.int) := fun H0 e Q q => h H0 e _ fun H1 e1 =>
  ⟨a, rfl, ⟨_, ex_l (e.trans e1) hx⟩, fun Dl hD => lc_list (xs := r.map V.int) (fun i H' => Ex H1 H' ∧ H' Dl = some (.lst (((r.take i).filter g).map V.int))) ⟨Ex.new hD, by rw [upd_same]; rfl⟩
    (fun i H' _ p => ex_l ((e.trans e1).trans p.1) hx) (fun i x H' hi p => filt_turn hz hw hj (fun x H2 e2 hm => ht x H2 ((e.trans e1).trans e2) hm) hD hi p)
    (fun H' p => q Dl H' (fresh_back e1 hD) (e1.trans p.1) (by
      have := p.2
      rw [List.length_map, List.take_length] at this
      exact this))⟩
theorem el_filtT {a : Addr} {r : List Int} {j : Nat} {vs : List Nat} (g : Int → Bool) (h : EvU tl σ H (r.map V.int)) (hz : r.length ≤ 40000) (hw : ∀ x, wipe ((wipe σ vs).set j (some x)) vs = wipe σ vs) (hj : ∀ x, ((wipe σ vs).set j (some x))[j]? = some (some x))
    (ht : ∀ x H2, Ex H H2 → x ∈ r → EvT t ((wipe σ vs).set j (some (.int x))) H2 (g x)) : EvL (tLc (iTup K tl) (gName j) t (tVar j) vs) σ H ((r.filter g).map V.int) := fun H0 e Q q => h H0 e _ fun a H1 na e1 ha =>
  ⟨a, rfl, ⟨_, st_of ha⟩, fun Dl hD => lc_tup (xs := r.map V.int) (fun i H' => Ex H1 H' ∧ H' Dl = some (.lst (((r.take i).filter g).map V.int))) ⟨Ex.new hD, by rw [upd_same]; rfl⟩
    (fun i H' _ p => st_of (p.1 _ _ ha)) (fun i x H' hi p => filt_turn hz hw hj (fun x H2 e2 hm => ht x H2 ((e.trans e1).trans e2) hm) hD hi p)
    (fun H' p => q Dl H' (fresh_back e1 hD) (e1.trans p.1) (by
      have := p.2
      rw [List.length_map, List.take_length] at this
      exact this))⟩
/-- over a list of which something is known -/
theorem ep_filt {P : Hp → List Int → Prop} {tl : TE} {j : Nat} {vs : List Nat} (g : Int → Bool) (h : EvP tl σ H fun A v B => ∃ a r, v = .ref a ∧ B a = some (.lst (r.map V.int)) ∧ r.length ≤ 40000 ∧ P A r)
    (hm : ∀ A B r, Ex A B → P B r → P A r) (hw : ∀ x, wipe ((wipe σ vs).set j (some x)) vs = wipe σ vs) (hj : ∀ x, ((wipe σ vs).set j (some x))[j]? = some (some x))
    (ht : ∀ A r x H2, P A r → Ex H H2 → x ∈ r → EvT t ((wipe σ vs).set j (some (.int x))) H2 (g x)) :
    EvP (tLc (iList K tl) (gName j) t (tVar j) vs) σ H fun A v B => ∃ p r, v = .ref p ∧ A p = none ∧ B p = some (.lst ((r.filter g).map V.int)) ∧ r.length ≤ 40000 ∧ P A r := fun H0 e Q q => h H0 e _ fun v H1 e1 hp => by
  obtain ⟨a, r, rfl, ha, hz, hP⟩ := hp
  exact ⟨a, rfl, ⟨_, sq_of ha⟩, fun Dl hD => lc_list (xs := r.map V.int) (fun i H' => Ex H1 H' ∧ H' Dl = some (.lst (((r.take i).filter g).map V.int))) ⟨Ex.new hD, by rw [upd_same]; rfl⟩
    (fun i H' _ p => sq_of (p.1 _ _ ha)) (fun i x H' hi p => filt_turn hz hw hj (fun x H2 e2 hm => ht H0 r x H2 hP ((e.trans e1).trans e2) hm) hD hi p)
    (fun H' p => q _ H' (e1.trans p.1) ⟨Dl, r, rfl, fresh_back e1 hD, by
      have := p.2
      rw [List.length_map, List.take_length] at this
      exact this, hz, hP⟩)⟩
end
/-- what stood earlier stands -/
theorem lk {A B : Hp} {a : Addr} {o : HO} (h : A a = some o) (e : Ex A B) : B a = some o := e a o h
theorem rv_row {K : PySem.W.Frag} {p : Addr} {H : Hp} {r : List Int} {i : Nat} {z a : Int} (h : H p = some (.lst (r.map V.int))) (e : z = (i : Int)) (ha : r[i]? = some a) : RV (rIxL K) (.ref p) (.int z) H (.int a) :=
  rv_ixL (sq_of h) (at_of e (by rw [List.getElem?_map, ha]; rfl))
theorem drop_at {r : List Int} {i : Nat} {a : Int} (h : r[i]? = some a) : r.drop i = a :: r.drop (i + 1) := by
  obtain ⟨hi, e⟩ := List.getElem?_eq_some_iff.mp h
  rw [List.drop_eq_getElem_cons hi, e]
theorem nodup_le : ∀ {l m : List Int}, l.Nodup → (∀ x ∈ l, x ∈ m) → l.length ≤ m.length
  | [], _, _, _ => Nat.zero_le _
  | a :: l, m, h, hs => by
    rw [List.nodup_cons] at h
    have ha := hs a List.mem_cons_self
    have ih := nodup_le (m := m.erase a) h.2 fun x hx => (List.mem_erase_of_ne (fun e => h.1 (by rw [← e]; exact hx))).mpr (hs x (List.mem_cons_of_mem _ hx))
    rw [List.length_erase_of_mem ha] at ih
    have : 0 < m.length := List.length_pos_of_mem ha
    rw [List.length_cons]
    omega
local macro_rules | `(tactic| walk_at "lk") => `(tactic| first
  | assumption
  | ((refine' lk ?h ?e); (case h => assumption); (case e => walk_at "ex")))
local macro_rules | `(tactic| walk_at "evx") => `(tactic| ((with_reducible refine' ev_len ?a ?b); (case a => walk_at "ev"); (case b => exact sq_of (by walk_at "lk"))))
local macro_rules | `(tactic| walk_at "sp") => `(tactic| first
  | ((with_reducible refine' spv_says ?a ?b ?c); (case a => assumption); (case b => assumption); (case c => assumption))
  | ((with_reducible refine' spv_l_says ?a ?b ?c); (case a => assumption); (case b => assumption); (case c => assumption)))
/-! ### promises: rows -/
structure RowOk (r : List Int) : Prop where
  lo : 1 ≤ r.length
  hi : r.length ≤ 8
  el : ∀ a ∈ r, a ≠ 0 ∧ a.natAbs < 1073741824
  pl : ∃ q : Nat, ∀ a ∈ r, ∀ p, Pr p → p ∣ a.natAbs → p ∈ SQ q
def sp_is_row : Sp := fun vs H Q _ => ∃ (l : Addr) (r : List Int), vs = [.ref l] ∧ H l = some (.lst (r.map V.int)) ∧ RowOk r ∧ RetV (.bl true) H Q
def sp_must_be_row : Sp := fun vs H Q _ => ∃ (l : Addr) (r : List Int), vs = [.ref l] ∧ H l = some (.lst (r.map V.int)) ∧ RowOk r ∧ RetV .non H Q
def sp_signs_of : Sp := fun vs H Q _ => ∃ (l : Addr) (r : List Int), vs = [.ref l] ∧ H l = some (.lst (r.map V.int)) ∧ RowOk r ∧ RetV (.int (posc r : Int)) H Q
def sp_is_odd_at : Sp := fun vs H Q _ => ∃ (l : Addr) (r : List Int) (p : Int), vs = [.ref l, .int p] ∧ H l = some (.lst (r.map V.int)) ∧ RowOk r ∧ PlOk p ∧ RetV (.bl (nz p r)) H Q
def sp_l_noes : Sp := fun vs H Q _ => ∃ (l m : Addr) (r ps : List Int), vs = [.ref l, .ref m] ∧ H l = some (.lst (r.map V.int)) ∧ RowOk r ∧ H m = some (.lst (ps.map V.int)) ∧ ps.length ≤ 1000 ∧ (∀ p ∈ ps, PlOk p) ∧
  RetL ((ps.filter fun p => nz p r).map V.int) H Q
def sp_places_of : Sp := fun vs H Q _ => ∃ (l : Addr) (r : List Int), vs = [.ref l] ∧ H l = some (.lst (r.map V.int)) ∧ RowOk r ∧
  ∀ (s : Addr) (ns : List Int) (H2 : Hp), Ex H H2 → H s = none → H2 s = some (.lst (ns.map V.int)) → ns.length ≤ 64 → (∀ p, p ∈ ns ↔ Place p r) → Q (.ref s) H2
def sp_noes_of : Sp := fun vs H Q _ => ∃ (l : Addr) (r : List Int), vs = [.ref l] ∧ H l = some (.lst (r.map V.int)) ∧ RowOk r ∧
  ∀ (s : Addr) (ns : List Int) (H2 : Hp), Ex H H2 → H s = none → H2 s = some (.lst (ns.map V.int)) → ns.length ≤ 64 → (∀ p, p ∈ ns ↔ (Place p r ∧ nz p r = true)) → Q (.ref s) H2
def t_places_of (K : PySem.W.Frag) : TS := (tSeq (tAsg (tDisp [((tC (.int 0)), (tC (.bl true))), ((tC (.int 2)), (tC (.bl true)))]) (gName 1)) (tSeq (tFor (iList K (tVar 0)) (gName 2) (tFor (iList K (tCall sp_parts [] E0 (tCons (tCB kAbs (tCons (tVar 2) tNil)) tNil))) (gTup K 2 (gCons (gName 3) (gCons (gName 4) gNil))) (tDPut (tVar 1) (tVar 3) (tC (.bl true))))) (tRet (tCB kSortDI (tCons (tVar 1) tNil)))))
def t_is_row (K : PySem.W.Frag) : TS := (tSeq (tIfS (tOr (tTest (tOp kLt (tCB (rLenS K) (tCons (tVar 0) tNil)) (tC (.int 1)))) (tTest (tOp kGt (tCB (rLenS K) (tCons (tVar 0) tNil)) (tC (.int 8))))) (tRet (tC (.bl false))) tNext) (tSeq (tFor (iList K (tVar 0)) (gName 1) (tIfS (tOr (tNot (tB (tCB (rIsi K) (tCons (tVar 1) (tCons (tC (.ty "int")) tNil))))) (tOr (tB (tCB (rIsi K) (tCons (tVar 1) (tCons (tC (.ty "bool")) tNil)))) (tOr (tTest (tOp rEq (tVar 1) (tC (.int 0)))) (tTest (tOp kGe (tCB kAbs (tCons (tVar 1) tNil)) (tC (.int 1073741824))))))) (tRet (tC (.bl false))) tNext)) (tRet (tC (.bl true)))))
def t_must_be_row (K : PySem.W.Frag) : TS := (tIfS (tNot (tB (tCall sp_is_row [] E0 (tCons (tVar 0) tNil)))) tNever tNext)
def t_signs_of (K : PySem.W.Frag) : TS := (tSeq (tDrop (tCall sp_must_be_row [] E0 (tCons (tVar 0) tNil))) (tRet (tCB (rLenS K) (tCons (tLc (iList K (tVar 0)) (gName 1) (tTest (tOp kGt (tVar 1) (tC (.int 0)))) (tVar 1) [1]) tNil))))
def t_is_odd_at (K : PySem.W.Frag) : TS := (tSeq (tAsg (tC (.int 0)) (gName 2)) (tSeq (tFor (iRng1 (tCons (tCB (rLenS K) (tCons (tVar 0) tNil)) tNil)) (gName 3) (tFor (iRng2 (tCons (tOp kAdd (tVar 3) (tC (.int 1))) (tCons (tCB (rLenS K) (tCons (tVar 0) tNil)) tNil))) (gName 4) (tIfS (tNot (tB (tCall sp_says [] E0 (tCons (tOp (rIxL K) (tVar 0) (tVar 3)) (tCons (tOp (rIxL K) (tVar 0) (tVar 4)) (tCons (tVar 1) tNil)))))) (tAug 2 (tC (.int 1)) ipAdd) tNext))) (tRet (tOp rEq (tOp kMod (tVar 2) (tC (.int 2))) (tC (.int 1))))))
def t_noes_of (K : PySem.W.Frag) : TS := (tSeq (tDrop (tCall sp_must_be_row [] E0 (tCons (tVar 0) tNil))) (tRet (tLc (iList K (tCall sp_places_of [] E0 (tCons (tVar 0) tNil))) (gName 1) (tB (tCall sp_is_odd_at [] E0 (tCons (tVar 0) (tCons (tVar 1) tNil)))) (tVar 1) [1])))
def t_l_noes (K : PySem.W.Frag) : TS := (tSeq (tAsg (tLst tNil) (gName 2)) (tSeq (tFor (iList K (tVar 1)) (gName 3) (tSeq (tAsg (tC (.int 0)) (gName 4)) (tSeq (tFor (iRng1 (tCons (tCB (rLenS K) (tCons (tVar 0) tNil)) tNil)) (gName 5) (tFor (iRng2 (tCons (tOp kAdd (tVar 5) (tC (.int 1))) (tCons (tCB (rLenS K) (tCons (tVar 0) tNil)) tNil))) (gName 6) (tIfS (tNot (tB (tCall sp_l_says [] E0 (tCons (tOp (rIxL K) (tVar 0) (tVar 5)) (tCons (tOp (rIxL K) (tVar 0) (tVar 6)) (tCons (tVar 3) tNil)))))) (tAsg (tOp kAdd (tVar 4) (tC (.int 1))) (gName 4)) tNext))) (tIfS (tTest (tOp rEq (tOp kMod (tVar 4) (tC (.int 2))) (tC (.int 1)))) (tDrop (tBM K "list" rAppend (tVar 2) (tCons (tVar 3) tNil))) tNext)))) (tRet (tVar 2))))
theorem ev_isint {K : PySem.W.Frag} {σ : L2.St} {H : Hp} {ta : TE} {i : Int} (h : Ev ta σ H (.int i)) : Ev (tCB (rIsi K) (tCons ta (tCons (tC (.ty "int")) tNil))) σ H (.bl true) := fun H1 e Q q =>
  h H1 e _ fun H2 e2 => ⟨.int i, .ty "int", .type "int", .type "int", true, rfl, .ty "int", .base (.int i), kit_ty (by decide +kernel), q H2 e2⟩
theorem ev_isbool {K : PySem.W.Frag} {σ : L2.St} {H : Hp} {ta : TE} {i : Int} (h : Ev ta σ H (.int i)) : Ev (tCB (rIsi K) (tCons ta (tCons (tC (.ty "bool")) tNil))) σ H (.bl false) := fun H1 e Q q =>
  h H1 e _ fun H2 e2 => ⟨.int i, .ty "bool", .type "int", .type "bool", false, rfl, .ty "bool", .base (.int i), kit_ty (by decide +kernel), q H2 e2⟩
local macro_rules | `(tactic| walk_at "evx") => `(tactic| first
  | ((with_reducible refine' ev_isint ?a); (case a => walk_at "ev"))
  | ((with_reducible refine' ev_isbool ?a); (case a => walk_at "ev")))
theorem r_is_row (K : PySem.W.Frag) : ∀ vs H Q E, sp_is_row vs H Q E → t_is_row K { nx := fun _ H' => Q .non H', rt := Q } (start names_is_row vs) H := by
  rintro vs H Q E ⟨l, r, rfl, hl, ok, q⟩
  have lo := ok.lo
  have hi := ok.hi
  refine q_when (by walk_at "et") (fun hb H1 e1 => ?_) (fun hb H1 e1 => ?_)
  · rw [List.length_map, Bool.or_eq_true] at hb
    rcases hb with h | h
    · have := of_decide_eq_true h
      omega
    · have := of_decide_eq_true h
      omega
  have hl1 := e1 _ _ hl
  refine q_forLn (by walk_at "ev") (sq_of hl1) (fun i σ' H' => ∃ o, σ' = [some (.ref l), o] ∧ Ex H1 H') (fun H2 e2 => ⟨none, rfl, e2⟩) (fun i σ' H' _ p => ?_) ?_ ?_
  · obtain ⟨_, _, e2⟩ := p
    exact sq_of (e2 _ _ hl1)
  · rintro i x σ' H' hx ⟨o, rfl, e2⟩
    obtain ⟨a, ha, rfl⟩ := ints_at hx
    obtain ⟨a0, ab⟩ := ok.el a (List.mem_of_getElem? ha)
    refine s_when (by walk_at "et") (fun hb H3 e3 => ?_) (fun hb H3 e3 => ⟨some (.int a), rfl, e2.trans e3⟩)
    exfalso
    have d1 : decide (V.int a = V.int 0) = false := decide_eq_false fun h => a0 (V.int.inj h)
    have d2 : decide ((1073741824 : Int) ≤ (a.natAbs : Int)) = false := decide_eq_false (by omega)
    rw [d1, d2] at hb
    cases hb
  · rintro σ' H' ⟨o, rfl, e2⟩
    exact s_ret (by walk_at "ev") fun H3 e3 => q H3 (by walk_at "ex")
theorem spv_is_row {l : Addr} {r : List Int} {H : Hp} (hl : H l = some (.lst (r.map V.int))) (ok : RowOk r) : SpV sp_is_row ([.ref l] ++ []) H (.bl true) :=
  fun H1 e Q q E => ⟨l, r, rfl, e _ _ hl, ok, q⟩
theorem r_must_be_row (K : PySem.W.Frag) : ∀ vs H Q E, sp_must_be_row vs H Q E → t_must_be_row K { nx := fun _ H' => Q .non H', rt := Q } (start names_must_be_row vs) H := by
  rintro vs H Q E ⟨l, r, rfl, hl, ok, q⟩
  refine s_when (et_not (et_B (ev_call (by walk_at "ea") (spv_is_row hl ok)))) (fun hb H1 e1 => ?_) (fun hb H1 e1 => q H1 e1)
  cases hb
theorem r_signs_of (K : PySem.W.Frag) : ∀ vs H Q E, sp_signs_of vs H Q E → t_signs_of K { nx := fun _ H' => Q .non H', rt := Q } (start names_signs_of vs) H := by
  rintro vs H Q E ⟨l, r, rfl, hl, ok, q⟩
  have hi := ok.hi
  refine q_dropC (by walk_at "ea") fun H1 e1 => ⟨l, r, rfl, e1 _ _ hl, ok, fun H2 e2 => ?_⟩
  have hl2 : H2 l = some (.lst (r.map V.int)) := e2 _ _ (e1 _ _ hl)
  refine s_ret (ev_lenN (el_filt (fun a => decide (0 < a)) (by walk_at "ev") (sq_of hl2) (by omega) (fun x => rfl) (fun x => rfl) (fun x H3 e3 hx => by walk_at "et"))) fun H3 e3 => ?_
  rw [List.length_map]
  exact q H3 (by walk_at "ex")
/-- the two loops over the pairs of a row -/
theorem rc_step {p a b : Int} {r : List Int} {i : Nat} (h : r[i]? = some b) : rc p a (r.drop i) = (if hb p a b = true then 1 else 0) + rc p a (r.drop (i + 1)) := by
  rw [drop_at h]; rfl
theorem r_is_odd_at (K : PySem.W.Frag) : ∀ vs H Q E, sp_is_odd_at vs H Q E → t_is_odd_at K { nx := fun _ H' => Q .non H', rt := Q } (start names_is_odd_at vs) H := by
  rintro vs H Q E ⟨l, r, p, rfl, hl, ok, hp, q⟩
  have hi := ok.hi
  have bd : ∀ a ∈ r, a ≠ 0 ∧ a.natAbs < BD := fun a ha => ⟨(ok.el a ha).1, by have := (ok.el a ha).2; unfold BD; omega⟩
  refine q_asg (by walk_at "ev") fun H1 e1 => ?_
  refine q_forR1 (n := (r.length : Int)) (by rw [← List.length_map (f := V.int)]; walk_at "ea") ⟨by omega, by omega⟩ (fun i σ' H' => ∃ (c : Nat) (o1 o2 : Option V), σ' = [some (.ref l), some (.int p), some (.int (c : Int)), o1, o2] ∧ Ex H H' ∧ c + cz p (r.drop i) = cz p r) ?_ ?_ ?_
  · intro H2 e2
    exact ⟨0, none, none, rfl, e1.trans e2, by rw [List.drop_zero]; omega⟩
  · rintro i σ' H' hlt ⟨c, o1, o2, rfl, ex, inv⟩
    have hir : i < r.length := by omega
    have ga : r[i]? = some r[i] := List.getElem?_eq_getElem hir
    have ba := bd r[i] (List.getElem_mem hir)
    have hl' := ex _ _ hl
    generalize r[i] = a at *
    rw [drop_at ga] at inv
    refine s_forR2 (lo := (i : Int) + 1) (n := (r.length : Int)) (by rw [← List.length_map (f := V.int)]; walk_at "ea") ⟨by omega, by omega, by omega, by omega⟩ (fun j σ' H' => ∃ (c : Nat) (o2 : Option V), σ' = [some (.ref l), some (.int p), some (.int (c : Int)), some (.int (i : Int)), o2] ∧ Ex H H' ∧ c + rc p a (r.drop (i + 1 + j)) + cz p (r.drop (i + 1)) = cz p r) ?_ ?_ ?_
    · intro H2 e2
      refine ⟨c, o2, rfl, ex.trans e2, ?_⟩
      rw [Nat.add_zero, ← inv]
      show _ = c + (rc p a (r.drop (i + 1)) + cz p (r.drop (i + 1)))
      omega
    · rintro j σ' H2 hlt2 ⟨c, o2, rfl, ex2, inv2⟩
      have hjr : i + 1 + j < r.length := by omega
      have gb : r[i + 1 + j]? = some r[i + 1 + j] := List.getElem?_eq_getElem hjr
      have bb := bd r[i + 1 + j] (List.getElem_mem hjr)
      generalize r[i + 1 + j] = b at *
      rw [rc_step gb] at inv2
      have hl2 := ex2 _ _ hl
      have er := ev_op (σ := [some (V.ref l), some (V.int p), some (V.int (c : Int)), some (V.int (i : Int)), some (V.int ((i : Int) + 1 + (j : Int)))]) (H := H2) (ev_var (i := 0) rfl) (ev_var (i := 3) rfl) (rv_row (K := K) hl2 rfl ga)
      have er2 := ev_op (σ := [some (V.ref l), some (V.int p), some (V.int (c : Int)), some (V.int (i : Int)), some (V.int ((i : Int) + 1 + (j : Int)))]) (H := H2) (ev_var (i := 0) rfl) (ev_var (i := 4) rfl) (rv_row (K := K) hl2 (show (i : Int) + 1 + (j : Int) = ((i + 1 + j : Nat) : Int) by omega) gb)
      refine s_if (et_not (et_B (ev_call (ea_cons er (ea_cons er2 (ea_cons (ev_var rfl) ea_nil))) (spv_says ba bb hp)))) (fun hbb H3 e3 => ?_) (fun hbb H3 e3 => ?_)
      · have h1 : hb p a b = true := hbb
        rw [if_pos h1] at inv2
        refine s_aug rfl (by walk_at "ev") fun H4 e4 => ⟨c + 1, _, rfl, by walk_at "ex", ?_⟩
        rw [← inv2, show i + 1 + (j + 1) = i + 1 + j + 1 by omega]
        omega
      · have h1 : ¬ hb p a b = true := fun h => by
          have : (!saysB a b p) = true := h
          rw [this] at hbb
          cases hbb
        rw [if_neg h1] at inv2
        refine ⟨c, _, rfl, by walk_at "ex", ?_⟩
        rw [← inv2, show i + 1 + (j + 1) = i + 1 + j + 1 by omega]
        omega
    · rintro σ' H2 ⟨c, o2, rfl, ex2, inv2⟩
      refine ⟨c, _, o2, rfl, ex2, ?_⟩
      rw [← inv2]
      have : r.drop (i + 1 + ((r.length : Int) - ((i : Int) + 1)).toNat) = [] := List.drop_eq_nil_of_le (by omega)
      rw [this]
      show _ = c + 0 + _
      omega
  · rintro σ' H' ⟨c, o1, o2, rfl, ex, inv⟩
    have : r.drop (r.length : Int).toNat = [] := List.drop_eq_nil_of_le (by omega)
    rw [this] at inv
    have ec : c = cz p r := by rw [← inv]; rfl
    subst ec
    refine s_ret (by walk_at "ev") fun H2 e2 => ?_
    have e : decide (V.int ((cz p r : Int) % 2) = V.int 1) = nz p r := by
      unfold nz odd
      exact decide_eq_decide.mpr ⟨V.int.inj, fun h => by rw [h]⟩
    rw [e]
    exact q H2 (by walk_at "ex")

theorem r_l_noes (K : PySem.W.Frag) : ∀ vs H Q E, sp_l_noes vs H Q E → t_l_noes K { nx := fun _ H' => Q .non H', rt := Q } (start names_l_noes vs) H := by
  rintro vs H Q E ⟨l, m, r, ps, rfl, hl, ok, hm, pz, hps, q⟩
  have hi := ok.hi
  have bd : ∀ a ∈ r, a ≠ 0 ∧ a.natAbs < BD := fun a ha => ⟨(ok.el a ha).1, by have := (ok.el a ha).2; unfold BD; omega⟩
  refine q_asgL (el_lst (by walk_at "ea") (by simp)) fun z H1 nz0 e1 h1 => ?_
  refine q_forLn (by walk_at "ev") (sq_of (lk hm e1)) (fun k σ' H' => ∃ (o1 o2 o3 o4 : Option V), σ' = [some (.ref l), some (.ref m), some (.ref z), o1, o2, o3, o4] ∧ Own H H' z ∧ H' z = some (.lst (((ps.take k).filter fun p => nz p r).map V.int))) ?_ ?_ ?_ ?_
  · intro H2 e2
    exact ⟨none, none, none, none, rfl, ⟨nz0, e1.trans e2⟩, by rw [List.take_zero]; exact e2 _ _ h1⟩
  · rintro k σ' H' _ ⟨o1, o2, o3, o4, _, ow, _⟩
    exact sq_of (ow.ex _ _ hm)
  · rintro k x σ' H' hx ⟨o1, o2, o3, o4, rfl, ow, hz⟩
    obtain ⟨p, hpk, rfl⟩ := ints_at hx
    have hp := hps p (List.mem_of_getElem? hpk)
    have mne : l ≠ z := ne_of_none hl nz0
    refine q_asg (by walk_at "ev") fun H2 e2 => ?_
    have ow2 := ow.on e2
    have hz2 := e2 _ _ hz
    refine q_forR1 (n := (r.length : Int)) (by rw [← List.length_map (f := V.int)]; exact ea_cons (ev_len (ev_var rfl) (sq_of (ow2.ex _ _ hl))) ea_nil) ⟨by omega, by omega⟩ (fun i σ' H' => ∃ (c : Nat) (o1 o2 : Option V), σ' = [some (.ref l), some (.ref m), some (.ref z), some (.int p), some (.int (c : Int)), o1, o2] ∧ Ex H2 H' ∧ c + cz p (r.drop i) = cz p r) ?_ ?_ ?_
    · intro H3 e3
      exact ⟨0, o3, o4, rfl, e3, by rw [List.drop_zero]; omega⟩
    · rintro i σ' H3 hlt ⟨c, o1, o2, rfl, ex, inv⟩
      have hir : i < r.length := by omega
      have ga : r[i]? = some r[i] := List.getElem?_eq_getElem hir
      have ba := bd r[i] (List.getElem_mem hir)
      have hl' := ex _ _ (ow2.ex _ _ hl)
      generalize r[i] = a at *
      rw [drop_at ga] at inv
      refine s_forR2 (lo := (i : Int) + 1) (n := (r.length : Int)) (by rw [← List.length_map (f := V.int)]; walk_at "ea") ⟨by omega, by omega, by omega, by omega⟩ (fun j σ' H' => ∃ (c : Nat) (o2 : Option V), σ' = [some (.ref l), some (.ref m), some (.ref z), some (.int p), some (.int (c : Int)), some (.int (i : Int)), o2] ∧ Ex H2 H' ∧ c + rc p a (r.drop (i + 1 + j)) + cz p (r.drop (i + 1)) = cz p r) ?_ ?_ ?_
      · intro H4 e4
        refine ⟨c, o2, rfl, ex.trans e4, ?_⟩
        rw [Nat.add_zero, ← inv]
        show _ = c + (rc p a (r.drop (i + 1)) + cz p (r.drop (i + 1)))
        omega
      · rintro j σ' H4 hlt2 ⟨c, o2, rfl, ex2, inv2⟩
        have hjr : i + 1 + j < r.length := by omega
        have gb : r[i + 1 + j]? = some r[i + 1 + j] := List.getElem?_eq_getElem hjr
        have bb := bd r[i + 1 + j] (List.getElem_mem hjr)
        generalize r[i + 1 + j] = b at *
        rw [rc_step gb] at inv2
        have hl2 := ex2 _ _ (ow2.ex _ _ hl)
        have er := ev_op (σ := [some (V.ref l), some (V.ref m), some (V.ref z), some (V.int p), some (V.int (c : Int)), some (V.int (i : Int)), some (V.int ((i : Int) + 1 + (j : Int)))]) (H := H4) (ev_var (i := 0) rfl) (ev_var (i := 5) rfl) (rv_row (K := K) hl2 rfl ga)
        have er2 := ev_op (σ := [some (V.ref l), some (V.ref m), some (V.ref z), some (V.int p), some (V.int (c : Int)), some (V.int (i : Int)), some (V.int ((i : Int) + 1 + (j : Int)))]) (H := H4) (ev_var (i := 0) rfl) (ev_var (i := 6) rfl) (rv_row (K := K) hl2 (show (i : Int) + 1 + (j : Int) = ((i + 1 + j : Nat) : Int) by omega) gb)
        refine s_if (et_not (et_B (ev_call (ea_cons er (ea_cons er2 (ea_cons (ev_var rfl) ea_nil))) (spv_l_says ba bb hp)))) (fun hbb H5 e5 => ?_) (fun hbb H5 e5 => ?_)
        · have h1 : hb p a b = true := hbb
          rw [if_pos h1] at inv2
          refine s_asg (by walk_at "ev") fun H6 e6 => ?_
          refine ⟨c + 1, _, rfl, by walk_at "ex", ?_⟩
          rw [← inv2, show i + 1 + (j + 1) = i + 1 + j + 1 by omega]
          omega
        · have h1 : ¬ hb p a b = true := fun h => by
            have : (!saysB a b p) = true := h
            rw [this] at hbb
            cases hbb
          rw [if_neg h1] at inv2
          refine ⟨c, _, rfl, by walk_at "ex", ?_⟩
          rw [← inv2, show i + 1 + (j + 1) = i + 1 + j + 1 by omega]
          omega
      · rintro σ' H4 ⟨c, o2, rfl, ex2, inv2⟩
        refine ⟨c, _, o2, rfl, ex2, ?_⟩
        rw [← inv2]
        have : r.drop (i + 1 + ((r.length : Int) - ((i : Int) + 1)).toNat) = [] := List.drop_eq_nil_of_le (by omega)
        rw [this]
        show _ = c + 0 + _
        omega
    · rintro σ' H3 ⟨c, o1, o2, rfl, ex, inv⟩
      have : r.drop (r.length : Int).toNat = [] := List.drop_eq_nil_of_le (by omega)
      rw [this] at inv
      have ec : c = cz p r := by rw [← inv]; rfl
      subst ec
      have e : decide (V.int ((cz p r : Int) % 2) = V.int 1) = nz p r := by
        unfold nz odd
        exact decide_eq_decide.mpr ⟨V.int.inj, fun h => by rw [h]⟩
      have ow3 := ow2.on ex
      have hz3 := ex _ _ hz2
      have zl : (((ps.take k).filter fun p => nz p r).map V.int).length < 100000 := by
        rw [List.length_map]
        have h1 := List.length_filter_le (fun p => nz p r) (ps.take k)
        have h3 : (ps.take k).length ≤ ps.length := by rw [List.length_take]; omega
        omega
      refine s_when (b := nz p r) (by rw [← e]; walk_at "et") (fun hb H4 e4 => ?_) (fun hb H4 e4 => ?_)
      · refine s_app (lk hz3 e4) (by walk_at "ev") (by walk_at "ev") zl fun H5 e5 => ⟨some (.int p), _, o1, o2, rfl, ((ow3.on e4).on e5).put, ?_⟩
        rw [upd_same, filt_step hpk, hb, if_pos rfl, List.map_append]; rfl
      · refine ⟨some (.int p), _, o1, o2, rfl, ow3.on e4, ?_⟩
        rw [filt_step hpk, hb, if_neg (by decide), List.append_nil]
        exact e4 _ _ hz3
  · rintro σ' H' ⟨o1, o2, o3, o4, rfl, ow, hz⟩
    rw [List.length_map, List.take_length] at hz
    exact s_ret (by walk_at "ev") fun H2 e2 => q z H2 nz0 (ow.ex.trans e2) (e2 _ _ hz)
/-- a dict whose values are all True, by its keys -/
def trueAt (ks : List Int) : List (Key × V) := ks.map fun k => (Sum.inl k, V.bl true)
theorem put_true (ks : List Int) (k : Int) : putK (trueAt ks) (Sum.inl k : Key) (.bl true) = trueAt (if k ∈ ks then ks else ks ++ [k]) := by
  unfold putK trueAt
  have e : ((ks.map fun k => ((Sum.inl k : Key), V.bl true)).any fun kv => decide (kv.1 = Sum.inl k)) = decide (k ∈ ks) := by
    rw [List.any_map]
    induction ks with
    | nil => rfl
    | cons x ks ih =>
      rw [List.any_cons, ih]
      by_cases c : k = x
      · subst c; simp
      · have c' : ¬ x = k := fun h => c h.symm
        simp [c, c']
  rw [e]
  by_cases c : k ∈ ks
  · rw [if_pos (decide_eq_true c), if_pos c, List.map_map]
    refine List.map_congr_left fun x hx => ?_
    show (if (Sum.inl x : Key) = Sum.inl k then ((Sum.inl x : Key), V.bl true) else _) = _
    by_cases d : (Sum.inl x : Key) = Sum.inl k
    · rw [if_pos d]
    · rw [if_neg d]
  · rw [if_neg (by rw [decide_eq_false c]; decide), if_neg c, List.map_append]; rfl
/-- keys gathered so far: 0, 2, the primes of the numbers -/
structure Keys (ks : List Int) (C : Nat → Prop) : Prop where
  nd : ks.Nodup
  mem : ∀ p, p ∈ ks ↔ p = 0 ∨ p = 2 ∨ ∃ q : Nat, p = (q : Int) ∧ C q
theorem Keys.put {ks : List Int} {C C' : Nat → Prop} {k : Nat} (h : Keys ks C) (hc : ∀ q, C' q ↔ C q ∨ q = k) : Keys (if (k : Int) ∈ ks then ks else ks ++ [(k : Int)]) C' := by
  by_cases m : (k : Int) ∈ ks
  · rw [if_pos m]
    refine ⟨h.nd, fun p => ?_⟩
    rw [h.mem]
    constructor
    · rintro (e | e | ⟨q, e, c⟩)
      · exact .inl e
      · exact .inr (.inl e)
      · exact .inr (.inr ⟨q, e, (hc q).mpr (.inl c)⟩)
    · rintro (e | e | ⟨q, e, c⟩)
      · exact .inl e
      · exact .inr (.inl e)
      · rcases (hc q).mp c with c | c
        · exact .inr (.inr ⟨q, e, c⟩)
        · rw [e, c]; exact (h.mem _).mp m
  · rw [if_neg m]
    refine ⟨?_, fun p => ?_⟩
    · rw [List.nodup_append]
      refine ⟨h.nd, by simp, fun a ha b hb e => ?_⟩
      simp at hb
      subst e
      rw [hb] at ha
      exact m ha
    · rw [List.mem_append, h.mem, List.mem_singleton]
      constructor
      · rintro ((e | e | ⟨q, e, c⟩) | e)
        · exact .inl e
        · exact .inr (.inl e)
        · exact .inr (.inr ⟨q, e, (hc q).mpr (.inl c)⟩)
        · exact .inr (.inr ⟨k, e, (hc k).mpr (.inr rfl)⟩)
      · rintro (e | e | ⟨q, e, c⟩)
        · exact .inl (.inl e)
        · exact .inl (.inr (.inl e))
        · rcases (hc q).mp c with c | c
          · exact .inl (.inr (.inr ⟨q, e, c⟩))
          · rw [c] at e; exact .inr e
theorem Keys.size {ks : List Int} {C : Nat → Prop} (h : Keys ks C) {q : Nat} (hc : ∀ p, C p → p ∈ SQ q) : ks.length ≤ 9 := by
  have := nodup_le (l := ks) (m := 0 :: 2 :: (SQ q).map fun n : Nat => (n : Int)) h.nd fun p hp => by
    rcases (h.mem p).mp hp with e | e | ⟨n, e, c⟩
    · rw [e]; exact List.mem_cons_self
    · rw [e]; exact List.mem_cons_of_mem _ List.mem_cons_self
    · rw [e]; exact List.mem_cons_of_mem _ (List.mem_cons_of_mem _ (List.mem_map.mpr ⟨n, hc n c, rfl⟩))
  simpa [SQ] using this
theorem r_places_of (K : PySem.W.Frag) : ∀ vs H Q E, sp_places_of vs H Q E → t_places_of K { nx := fun _ H' => Q .non H', rt := Q } (start names_places_of vs) H := by
  rintro vs H Q E ⟨l, r, rfl, hl, ok, q⟩
  obtain ⟨big, hbig⟩ := ok.pl
  -- found = {0: True, 2: True}
  intro d nd0
  refine ⟨by rw [upd_same], [((Sum.inl 0 : Key), V.bl true), (Sum.inl 2, V.bl true)], rfl, by simp, ?_⟩
  have start0 : mergeK [] [((Sum.inl 0 : Key), V.bl true), (Sum.inl 2, V.bl true)] = trueAt [0, 2] := by decide +kernel
  rw [start0, upd_upd]
  have k0 : Keys [0, 2] (fun q => ∃ a ∈ r.take 0, Pr q ∧ q ∣ a.natAbs) := by
    refine ⟨by decide, fun p => ?_⟩
    simp
  have ow0 : Own H (upd H d (.dK (trueAt [0, 2]))) d := ⟨nd0, Ex.new nd0⟩
  have hd0 : (upd H d (.dK (trueAt [0, 2]))) d = some (.dK (trueAt [0, 2])) := upd_same
  generalize upd H d (.dK (trueAt [0, 2])) = H1 at *
  dsimp only [gName]
  refine q_forLn (by walk_at "ev") (sq_of (ow0.ex _ _ hl)) (fun i σ' H' => ∃ (ks : List Int) (o1 o2 o3 : Option V), σ' = [some (.ref l), some (.ref d), o1, o2, o3] ∧ Own H H' d ∧ H' d = some (.dK (trueAt ks)) ∧ Keys ks (fun q => ∃ a ∈ r.take i, Pr q ∧ q ∣ a.natAbs)) ?_ ?_ ?_ ?_
  · intro H2 e2
    exact ⟨[0, 2], none, none, none, rfl, ow0.on e2, e2 _ _ hd0, k0⟩
  · rintro i σ' H' _ ⟨ks, o1, o2, o3, _, ow, _⟩
    exact sq_of (ow.ex _ _ hl)
  · rintro i x σ' H' hx ⟨ks, o1, o2, o3, rfl, ow, hd, keys⟩
    obtain ⟨a, ha, rfl⟩ := ints_at hx
    have am := List.mem_of_getElem? ha
    obtain ⟨a0, ab⟩ := ok.el a am
    refine s_forLP (P := fun A v B => ∃ s L, v = .ref s ∧ A s = none ∧ Prs B s L ∧ PartsOf a.natAbs L) (ep_call (by walk_at "ea") (fun H1 _ Q q E => ⟨a.natAbs, rfl, by omega, ab, fun s L H2 e2 ns ps pt => q _ H2 e2 ⟨s, L, rfl, ns, ps, pt⟩⟩) (by
      rintro A B v C e ⟨s, L, rfl, ns, ps, pt⟩
      exact ⟨s, L, rfl, fresh_back e ns, ps, pt⟩)) fun v H2 e2 hP => ?_
    obtain ⟨s, L, rfl, ns, ps, pt⟩ := hP
    obtain ⟨as, g1, g2, at_⟩ := ps.at
    have sd : s ≠ d := fun e => by
      subst e
      rw [hd] at ns
      cases ns
    refine ⟨s, as.map V.ref, fun j σ' H' => ∃ (ks : List Int) (o2 o3 : Option V), σ' = [some (.ref l), some (.ref d), some (.int a), o2, o3] ∧ Own H H' d ∧ (∀ b o, b ≠ d → H2 b = some o → H' b = some o) ∧ H' d = some (.dK (trueAt ks)) ∧
      Keys ks (fun q => (∃ a ∈ r.take i, Pr q ∧ q ∣ a.natAbs) ∨ q ∈ (L.take j).map Prod.fst), rfl, sq_of g1, ⟨ks, o2, o3, rfl, ow.on e2, fun _ _ _ h => h, e2 _ _ hd, ?_⟩, ?_, ?_, ?_⟩
    · refine ⟨keys.nd, fun p => ?_⟩
      rw [keys.mem]
      simp
    · rintro j σ' H' _ ⟨ks, _, _, _, _, st, _⟩
      exact sq_of (st s _ sd g1)
    · rintro j x σ' H3 hxj ⟨ks, o2, o3, rfl, ow3, st, hd3, keys3⟩
      obtain ⟨t, c, rfl, hc, ht⟩ := at_ j x hxj
      have td : t ≠ d := fun e => by
        subst e
        rw [e2 _ _ hd] at ht
        cases ht
      refine g_pair (st t _ td ht) ?_
      have cm := List.mem_of_getElem? hc
      obtain ⟨cp, cd⟩ := (pt.1 c.1).mp (List.mem_map.mpr ⟨c, cm, rfl⟩)
      have kz : ks.length ≤ 9 := keys3.size (q := big) fun p hp => by
        rcases hp with ⟨b, hb, pr, dv⟩ | hm
        · exact hbig b (List.mem_of_mem_take hb) p pr dv
        · obtain ⟨x, hx, e⟩ := List.mem_map.mp hm
          obtain ⟨pr, dv⟩ := (pt.1 p).mp (List.mem_map.mpr ⟨x, List.mem_of_mem_take hx, e⟩)
          exact hbig a am p pr dv
      -- found[prime] = True
      refine ⟨_, rfl, _, rfl, d, _, rfl, DPut.k (k := Sum.inl (c.1 : Int)) hd3 (sz_lt (by unfold trueAt; rw [List.length_map]; omega)), ?_⟩
      rw [put_true]
      refine ⟨_, some (.int (c.1 : Int)), some (.int (c.2 : Int)), rfl, ow3.put, fun b o hb h => by rw [upd_ne hb]; exact st b o hb h, upd_same, ?_⟩
      refine keys3.put fun q => ?_
      rw [List.take_add_one, hc, List.map_append, List.mem_append]
      simp only [Option.toList_some, List.map_cons, List.map_nil, List.mem_singleton, or_assoc]
    · rintro σ' H3 ⟨ks, o2, o3, rfl, ow3, st, hd3, keys3⟩
      refine ⟨ks, some (.int a), o2, o3, rfl, ow3, hd3, keys3.nd, fun p => ?_⟩
      rw [keys3.mem, List.length_map, g2, List.take_length, List.take_add_one, ha]
      simp only [Option.toList_some, List.mem_append, List.mem_singleton]
      constructor
      · rintro (e | e | ⟨q, e, (⟨b, hb, pr, dv⟩ | hm)⟩)
        · exact .inl e
        · exact .inr (.inl e)
        · exact .inr (.inr ⟨q, e, b, .inl hb, pr, dv⟩)
        · obtain ⟨pr, dv⟩ := (pt.1 q).mp hm
          exact .inr (.inr ⟨q, e, a, .inr rfl, pr, dv⟩)
      · rintro (e | e | ⟨q, e, b, (hb | rfl), pr, dv⟩)
        · exact .inl e
        · exact .inr (.inl e)
        · exact .inr (.inr ⟨q, e, .inl ⟨b, hb, pr, dv⟩⟩)
        · exact .inr (.inr ⟨q, e, .inr ((pt.1 q).mpr ⟨pr, dv⟩)⟩)
  · rintro σ' H' ⟨ks, o1, o2, o3, rfl, ow, hd, keys⟩
    rw [List.length_map, List.take_length] at keys
    have kz : ks.length ≤ 9 := keys.size (q := big) fun p ⟨b, hb, pr, dv⟩ => hbig b hb p pr dv
    -- sorted(found)
    refine ⟨_, rfl, d, trueAt ks, ks, rfl, .inl hd, ?_, by omega, fun ys p perm _ np => ?_⟩
    · unfold trueAt
      rw [List.map_map]; rfl
    · refine q p ys _ (Ex.trans ow.ex (Ex.new np)) ?_ upd_same (by rw [perm.length_eq]; omega) fun z => ?_
      · exact fresh_back ow.ex np
      · rw [perm.mem_iff, keys.mem]
        unfold Place
        constructor
        · rintro (e | e | ⟨q, e, a, ha, pr, dv⟩)
          · exact .inl e
          · exact .inr (.inl e)
          · exact .inr (.inr ⟨q, e, pr, a, ha, dv⟩)
        · rintro (e | e | ⟨q, e, pr, a, ha, dv⟩)
          · exact .inl e
          · exact .inr (.inl e)
          · exact .inr (.inr ⟨q, e, a, ha, pr, dv⟩)
theorem r_noes_of (K : PySem.W.Frag) : ∀ vs H Q E, sp_noes_of vs H Q E → t_noes_of K { nx := fun _ H' => Q .non H', rt := Q } (start names_noes_of vs) H := by
  rintro vs H Q E ⟨l, r, rfl, hl, ok, q⟩
  have hi := ok.hi
  refine q_dropC (by walk_at "ea") fun H1 e1 => ⟨l, r, rfl, e1 _ _ hl, ok, fun H2 e2 => ?_⟩
  have hl2 : H2 l = some (.lst (r.map V.int)) := e2 _ _ (e1 _ _ hl)
  have pok : ∀ p, Place p r → PlOk p := by
    rintro p (e | e | ⟨q, e, pr, a, ha, dv⟩)
    · exact .inl e
    · right; omega
    · right
      have := pr.two
      have := (ok.el a ha)
      have := Nat.le_of_dvd (by omega) dv
      omega
  refine s_retP (ep_filt (P := fun A ns => ns.length ≤ 64 ∧ ∀ p, p ∈ ns ↔ Place p r) (fun p => nz p r) (ep_call (by walk_at "ea") (fun H3 e3 Q q E => ⟨l, r, rfl, e3 _ _ hl2, ok, fun s ns H4 e4 n0 hs hz hp => q _ H4 e4 ⟨s, ns, rfl, hs, by omega, hz, hp⟩⟩))
    (fun A B r' _ h => h) (fun x => rfl) (fun x => rfl) (fun A ns x H3 hP e3 hx => ?_)) fun v H3 e3 hP => ?_
  · have hp := pok x ((hP.2 x).mp hx)
    exact et_B (ev_call (ea_cons (ev_var rfl) (ea_cons (ev_var rfl) ea_nil)) (fun H4 e4 Q q E => ⟨l, r, x, rfl, (e3.trans e4) _ _ hl2, ok, hp, q⟩))
  · obtain ⟨p, ns, rfl, np, hp, _, hz, hm⟩ := hP
    refine q p _ H3 (by walk_at "ex") (fresh_back (by walk_at "ex") np) hp ?_ fun z => ?_
    · have := List.length_filter_le (fun p => nz p r) ns
      omega
    · rw [List.mem_filter, hm]

/-! ### promises: numbers with wished classes -/
def WTup (K : PySem.W.Frag) (a : Addr) (is : List Int) : Prop := ∀ H, SqT K H a (is.map V.int)
/-- the list of classes on the heap -/
structure Clss (H : Hp) (l : Addr) (c0 : Int) (c : Int → Int × Int) : Prop where
  ex : ∃ as : List Addr, H l = some (.lst (.int c0 :: as.map V.ref)) ∧ as.length = 6 ∧ ∀ (i : Nat) (a : Addr) (p : Int), as[i]? = some a → P6[i]? = some p → H a = some (.tup [.int (c p).1, .int (c p).2])
def sp_known_part : Sp := fun vs H Q _ => ∃ (l : Addr) (c0 : Int) (c : Int → Int × Int), vs = [.ref l] ∧ Clss H l c0 c ∧ CW c0 c ∧ RetV (.int (knownM c0 c)) H Q
def sp_left_of : Sp := fun vs H Q _ => ∃ n p : Int, vs = [.int n, .int p] ∧ 0 < p ∧ p < 1073741824 ∧ RetV (.int (leftM n p)) H Q
def sp_wanted : Sp := fun vs H Q _ => ∃ (l : Addr) (c0 : Int) (c : Int → Int × Int), vs = [.int (knownM c0 c), .ref l] ∧ Clss H l c0 c ∧ CW c0 c ∧
  ∀ (t r : Addr) (H2 : Hp), Ex H H2 → H2 t = some (.tup [.int (firstM c0 c), .ref r]) → H2 r = some (.lst ((P5.map (wM c0 c)).map V.int)) → Q (.ref t) H2
def sp_fits : Sp := fun vs H Q _ => ∃ (q first : Int) (w : Int → Int) (t r : Addr), vs = [.int q, .ref t] ∧ H t = some (.tup [.int first, .ref r]) ∧ H r = some (.lst ((P5.map w).map V.int)) ∧ RetV (.bl (pd (Fits q first w))) H Q
def sp_number_with_also : Sp := fun vs H Q _ => ∃ (l : Addr) (c0 : Int) (c : Int → Int × Int), vs = [.ref l, .int 0, .int 0] ∧ Clss H l c0 c ∧ CW c0 c ∧ ∀ A H2, Ex H H2 → Num c0 c A → Q (.int A) H2
def sp_number_with : Sp := fun vs H Q _ => ∃ (l : Addr) (c0 : Int) (c : Int → Int × Int), vs = [.ref l] ∧ Clss H l c0 c ∧ CW c0 c ∧ ∀ A H2, Ex H H2 → Num c0 c A → Q (.int A) H2
def sp_kinds_at : Sp := fun vs H Q _ => ∃ p : Int, vs = [.int p] ∧ p ∈ P6 ∧ RetL ((kinds p).map V.int) H Q
def t_known_part (K : PySem.W.Frag) (aS : Addr) : TS := (tSeq (tAsg (tOp (rIxL K) (tVar 0) (tC (.int 0))) (gName 1)) (tSeq (tFor (iZipM K (tCons (tC (.ref aS)) (tCons (tSl (rSlL K) (tVar 0) (tPart (tC (.int 1))) tNoPart) tNil))) (gTup K 2 (gCons (gName 2) (gCons (gName 3) gNil))) (tIfS (tTest (tOp rEq (tOp (rIxT K) (tVar 3) (tC (.int 0))) (tC (.int 1)))) (tAsg (tOp kMul (tVar 1) (tVar 2)) (gName 1)) tNext)) (tRet (tVar 1))))
def t_left_of (K : PySem.W.Frag) : TS := (tSeq (tIfS (tTest (tOp rEq (tOp kMod (tVar 0) (tVar 1)) (tC (.int 0)))) (tRet (tOp kDiv (tVar 0) (tVar 1))) tNext) (tRet (tVar 0)))
def t_wanted (K : PySem.W.Frag) (aO : Addr) : TS := (tSeq (tAsg (tOp kMod (tOp kMul (tOp (rIxT K) (tOp (rIxL K) (tVar 1) (tC (.int 1))) (tC (.int 1))) (tCall sp_left_of [] E0 (tCons (tVar 0) (tCons (tC (.int 2)) tNil)))) (tC (.int 8))) (gName 2)) (tSeq (tAsg (tLst tNil) (gName 3)) (tSeq (tFor (iZipM K (tCons (tC (.ref aO)) (tCons (tSl (rSlL K) (tVar 1) (tPart (tC (.int 2))) tNoPart) tNil))) (gTup K 2 (gCons (gName 4) (gCons (gName 5) gNil))) (tDrop (tBM K "list" rAppend (tVar 3) (tCons (tOp kMul (tOp (rIxT K) (tVar 5) (tC (.int 1))) (tCall sp_square_by [] E0 (tCons (tCall sp_left_of [] E0 (tCons (tVar 0) (tCons (tVar 4) tNil))) (tCons (tVar 4) tNil)))) tNil)))) (tRet (tTup (tCons (tVar 2) (tCons (tVar 3) tNil)))))))
def t_fits (K : PySem.W.Frag) (aO : Addr) : TS := (tSeq (tIfS (tTest (tOp rNe (tOp kMod (tVar 0) (tC (.int 8))) (tOp (rIxT K) (tVar 1) (tC (.int 0))))) (tRet (tC (.bl false))) tNext) (tSeq (tFor (iZipM K (tCons (tC (.ref aO)) (tCons (tOp (rIxT K) (tVar 1) (tC (.int 1))) tNil))) (gTup K 2 (gCons (gName 2) (gCons (gName 3) gNil))) (tIfS (tTest (tOp rNe (tCall sp_square_by [] E0 (tCons (tVar 0) (tCons (tVar 2) tNil))) (tVar 3))) (tRet (tC (.bl false))) tNext)) (tRet (tC (.bl true)))))
def t_number_with_also (K : PySem.W.Frag) : TS := (tSeq (tAsg (tCall sp_known_part [] E0 (tCons (tVar 0) tNil)) (gName 3)) (tSeq (tAsg (tCall sp_wanted [] E0 (tCons (tVar 3) (tCons (tVar 0) tNil))) (gName 4)) (tSeq (tAsg (tC (.int 1)) (gName 5)) (tWhile (tB (tC (.bl true))) (tSeq (tIfS (tAnd (tTest (tOp rNe (tVar 5) (tVar 1))) (tAnd (tB (tCall sp_fits [] E0 (tCons (tVar 5) (tCons (tVar 4) tNil)))) (tOr (tTest (tOp rEq (tVar 5) (tC (.int 1)))) (tB (tCall sp_is_prime [] E0 (tCons (tVar 5) tNil)))))) (tIfS (tOr (tTest (tOp rEq (tVar 2) (tC (.int 0)))) (tTest (tOp rEq (tCall sp_square_by [] E0 (tCons (tOp kMul (tVar 3) (tVar 5)) (tCons (tVar 1) tNil))) (tVar 2)))) (tRet (tOp kMul (tVar 3) (tVar 5))) tNext) tNext) (tSeq (tIfS (tTest (tOp rEq (tVar 5) (tC (.int 1)))) (tAsg (tC (.int 15)) (gName 5)) tNext) (tAug 5 (tC (.int 2)) ipAdd)))))))
def t_number_with (K : PySem.W.Frag) : TS := (tRet (tCall sp_number_with_also [] E0 (tCons (tVar 0) (tCons (tC (.int 0)) (tCons (tC (.int 0)) tNil)))))
def t_kinds_at (K : PySem.W.Frag) (aN : Addr) : TS := (tSeq (tIfS (tTest (tOp rEq (tVar 0) (tC (.int 0)))) (tRet (tLst (tCons (tC (.int 1)) (tCons (tUn kNeg (tC (.int 1))) tNil)))) tNext) (tSeq (tIfS (tTest (tOp rEq (tVar 0) (tC (.int 2)))) (tRet (tLst (tCons (tC (.int 1)) (tCons (tC (.int 3)) (tCons (tC (.int 5)) (tCons (tC (.int 7)) (tCons (tC (.int 2)) (tCons (tC (.int 6)) (tCons (tC (.int 10)) (tCons (tC (.int 14)) tNil)))))))))) tNext) (tRet (tLst (tCons (tC (.int 1)) (tCons (tOp (rIxDI K) (tC (.ref aN)) (tVar 0)) (tCons (tVar 0) (tCons (tOp kMul (tVar 0) (tOp (rIxDI K) (tC (.ref aN)) (tVar 0))) tNil))))))))
section
variable {K : PySem.W.Frag} {σ : L2.St} {H : Hp} {te : TE} {D : Ends} {tu tz : TS} {g : TG}
theorem ep_ofL {xs : List V} (h : EvL te σ H xs) : EvP te σ H fun A v B => ∃ p, v = .ref p ∧ A p = none ∧ B p = some (.lst xs) := fun H1 e Q q =>
  h H1 e _ fun p H2 hp e2 h2 => q _ H2 e2 ⟨p, rfl, hp, h2⟩
theorem ep_ofV {v : V} (h : Ev te σ H v) : EvP te σ H fun _ w _ => w = v := fun H1 e Q q => h H1 e _ fun H2 e2 => q v H2 e2 rfl
/-- for x, y in zip(a written tuple, a list) -/
theorem s_forZ {aS : Addr} {us : List V} {P : Hp → V → Hp → Prop} {i j : Nat} (hT : ∀ H', SqT K H' aS us) (h : EvP te σ H P) (k : ∀ v H1, Ex H H1 → P H v H1 → ∃ b ws, ∃ Pv : Nat → L2.St → Hp → Prop, v = .ref b ∧ SqL K H1 b ws ∧ us.length = ws.length ∧ Pv 0 σ H1 ∧
      (∀ n σ' H', Pv n σ' H' → SqL K H' b ws) ∧
      (∀ n x y σ' H' H2, us[n]? = some x → ws[n]? = some y → Pv n σ' H' → Ex H' H2 → tu { D with nx := Pv (n + 1), ct := Pv (n + 1), bk := D.nx } ((σ'.set i (some x)).set j (some y)) H2) ∧
      ∀ σ' H', Pv us.length σ' H' → D.nx σ' H') :
    tFor (iZipM K (tCons (tC (.ref aS)) (tCons te tNil))) (gTup K 2 (gCons (gName i) (gCons (gName j) gNil))) tu D σ H := h H (Ex.refl H) _ fun v H1 e hp => by
  obtain ⟨b, ws, Pv, rfl, hb, hl, h0, h1, h2, h3⟩ := k v H1 e hp
  refine ⟨aS, b, us, ws, rfl, hT _, hb, fun n m σ' H' => m = us.length - n ∧ n ≤ us.length ∧ Pv n σ' H', ⟨us.length, by omega, by omega, h0⟩, ?_⟩
  rintro n m σ' H' ⟨rfl, hn, hPv⟩
  have hb' := h1 n σ' H' hPv
  by_cases c : n < us.length
  · have gx : us[n]? = some us[n] := List.getElem?_eq_getElem c
    have gy : ws[n]? = some ws[n] := List.getElem?_eq_getElem (by omega)
    refine .inr ⟨⟨us, ws, _, _, hT _, hb', gx, gy⟩, Pv (n + 1), fun σ2 H2 hN => ⟨us.length - (n + 1), by omega, rfl, by omega, hN⟩, ?_⟩
    rintro z H2 ⟨T, x, y, rfl, nT, rfl, fx, fy⟩
    have ex := fx us (hT _)
    have ey := fy ws hb'
    exact g_pair upd_same (h2 n x y σ' H' _ ex ey hPv (Ex.new nT))
  · have e : n = us.length := by omega
    subst e
    exact .inl ⟨⟨us, ws, hT _, hb', by omega, by omega, .inl rfl⟩, h3 σ' H' hPv⟩
theorem q_forZ {aS : Addr} {us : List V} {P : Hp → V → Hp → Prop} {i j : Nat} (hT : ∀ H', SqT K H' aS us) (h : EvP te σ H P) (k : ∀ v H1, Ex H H1 → P H v H1 → ∃ b ws, ∃ Pv : Nat → L2.St → Hp → Prop, v = .ref b ∧ SqL K H1 b ws ∧ us.length = ws.length ∧ Pv 0 σ H1 ∧
      (∀ n σ' H', Pv n σ' H' → SqL K H' b ws) ∧
      (∀ n x y σ' H' H2, us[n]? = some x → ws[n]? = some y → Pv n σ' H' → Ex H' H2 → tu { D with nx := Pv (n + 1), ct := Pv (n + 1), bk := tz D } ((σ'.set i (some x)).set j (some y)) H2) ∧
      ∀ σ' H', Pv us.length σ' H' → tz D σ' H') :
    tSeq (tFor (iZipM K (tCons (tC (.ref aS)) (tCons te tNil))) (gTup K 2 (gCons (gName i) (gCons (gName j) gNil))) tu) tz D σ H := s_forZ (D := { D with nx := tz D }) hT h k
end
theorem Clss.ex' {H H' : Hp} {l : Addr} {c0 : Int} {c : Int → Int × Int} (h : Clss H l c0 c) (e : Ex H H') : Clss H' l c0 c := by
  obtain ⟨as, h1, h2, h3⟩ := h.ex
  exact ⟨as, e _ _ h1, h2, fun i a p ha hp => e _ _ (h3 i a p ha hp)⟩
theorem cut_from {x : V} {xs : List V} : cutV (x :: xs) (some 1) none = xs := by
  unfold cutV
  rw [show HT.sIx (x :: xs).length 0 (some 1) = min 1 (x :: xs).length from HT.sIx_nat _ 0 1, HT.sIx_none]
  have : min 1 (x :: xs).length = 1 := by rw [List.length_cons]; omega
  rw [this]
  show xs.take ((x :: xs).length - 1) = xs
  rw [List.length_cons, Nat.add_sub_cancel]
  exact List.take_length
theorem cut_from2 {x y : V} {xs : List V} : cutV (x :: y :: xs) (some 2) none = xs := by
  unfold cutV
  rw [show HT.sIx (x :: y :: xs).length 0 (some 2) = min 2 (x :: y :: xs).length from HT.sIx_nat _ 0 2, HT.sIx_none]
  have : min 2 (x :: y :: xs).length = 2 := by rw [List.length_cons, List.length_cons]; omega
  rw [this]
  show xs.take ((x :: y :: xs).length - 2) = xs
  have e : (x :: y :: xs).length - 2 = xs.length := by
    rw [List.length_cons, List.length_cons]
    omega
  rw [e]
  exact List.take_length
theorem kn_take {c : Int → Int × Int} {i : Nat} {p : Int} (c0 : Int) (h : P6[i]? = some p) : kn c0 ((bits fun p => decide ((c p).1 = 1)).take (i + 1)) = (if decide ((c p).1 = 1) = true then kn c0 ((bits fun p => decide ((c p).1 = 1)).take i) * p else kn c0 ((bits fun p => decide ((c p).1 = 1)).take i)) := by
  have gen : ∀ (l : List (Int × Bool)) (c0 : Int) (x : Int × Bool), kn c0 (l ++ [x]) = if x.2 = true then kn c0 l * x.1 else kn c0 l := by
    intro l
    induction l with
    | nil => intro c0 x; rfl
    | cons y l ih => intro c0 x; exact ih _ x
  have hb : (bits fun p => decide ((c p).1 = 1))[i]? = some (p, decide ((c p).1 = 1)) := by
    unfold bits
    rw [List.getElem?_map, h]; rfl
  rw [List.take_add_one, hb]
  exact gen _ _ _
theorem kn_bd {c0 : Int} {b : Int → Bool} (h : c0 = 1 ∨ c0 = -1) (i : Nat) : (kn c0 ((bits b).take i)).natAbs ≤ 30030 := by
  have aux : ∀ c0 ∈ [(1 : Int), -1], ∀ b2 b3 b5 b7 b11 b13 : Bool, ∀ i : Nat, i < 7 → (kn c0 ([((2 : Int), b2), (3, b3), (5, b5), (7, b7), (11, b11), (13, b13)].take i)).natAbs ≤ 30030 := by decide +kernel
  have hs : c0 ∈ [(1 : Int), -1] := by
    rcases h with e | e <;> rw [e] <;> decide
  by_cases l : i < 7
  · exact aux c0 hs (b 2) (b 3) (b 5) (b 7) (b 11) (b 13) i l
  · rw [List.take_of_length_le (by show 6 ≤ i; omega)]
    have := aux c0 hs (b 2) (b 3) (b 5) (b 7) (b 11) (b 13) 6 (by decide)
    exact this
theorem six_at {i : Nat} (h : i < 6) : ∃ p, P6[i]? = some p ∧ p ∈ P6 ∧ (P6.map V.int)[i]? = some (.int p) := by
  have hl : i < P6.length := h
  refine ⟨P6[i], List.getElem?_eq_getElem hl, List.getElem_mem hl, ?_⟩
  rw [List.getElem?_map, List.getElem?_eq_getElem hl]; rfl
theorem r_known_part (K : PySem.W.Frag) (aS : Addr) (hS : WTup K aS P6) : ∀ vs H Q E, sp_known_part vs H Q E → t_known_part K aS { nx := fun _ H' => Q .non H', rt := Q } (start names_known_part vs) H := by
  rintro vs H Q E ⟨l, c0, c, rfl, hc, cw, q⟩
  obtain ⟨as, h1, h2, h3⟩ := hc.ex
  refine q_asg (v := .int c0) (ev_op (ev_var rfl) ev_c (rv_ixL (sq_of h1) (atI_nat (j := 0) rfl))) fun H1 e1 => ?_
  refine q_forZ hS (ep_ofL (el_sl (ev_var rfl) (eo_some ev_c) eo_none (sq_of (e1 _ _ h1)))) fun v H2 e2 hP => ?_
  obtain ⟨b, rfl, nb, hb⟩ := hP
  rw [cut_from] at hb
  refine ⟨b, as.map V.ref, fun i σ' H' => ∃ o1 o2 : Option V, σ' = [some (.ref l), some (.int (kn c0 ((bits fun p => decide ((c p).1 = 1)).take i))), o1, o2] ∧ Ex H2 H', rfl, sq_of hb, ?_, ⟨none, none, rfl, Ex.refl _⟩, ?_, ?_, ?_⟩
  · rw [List.length_map, List.length_map, h2]; rfl
  · rintro n σ' H' ⟨_, _, _, ex⟩
    exact sq_of (ex _ _ hb)
  · rintro n x y σ' H3 H4 hx hy ⟨o1, o2, rfl, ex⟩ e4
    have n6 : n < 6 := by
      have := (List.getElem?_eq_some_iff.mp hx).1
      simpa [P6] using this
    obtain ⟨p, hp, pm, hpv⟩ := six_at n6
    rw [hpv] at hx
    cases hx
    rw [List.getElem?_map, List.getElem?_eq_getElem (show n < as.length by omega)] at hy
    cases hy
    have ha := h3 n as[n] p (List.getElem?_eq_getElem (by omega)) hp
    have ha4 : H4 as[n] = some (.tup [.int (c p).1, .int (c p).2]) := ((((e1.trans e2).trans ex).trans e4)) _ _ ha
    have bd := kn_bd (b := fun p => decide ((c p).1 = 1)) cw.s n
    have cm : CMul (kn c0 ((bits fun p => decide ((c p).1 = 1)).take n)) p := .inl ⟨by omega, by omega⟩
    have tst : EvT (tTest (tOp rEq (tOp (rIxT K) (tVar 3) (tC (.int 0))) (tC (.int 1)))) ([some (V.ref l), some (V.int (kn c0 ((bits fun p => decide ((c p).1 = 1)).take n))), o1, o2].set 2 (some (V.int p)) |>.set 3 (some (V.ref as[n]))) H4 (decide (V.int (c p).1 = V.int 1)) :=
      et_test (ev_op (ev_op (ev_var rfl) ev_c (rv_ixT (st_of ha4) (atI_nat (j := 0) rfl))) ev_c (rv_eq rfl))
    have e : decide (V.int (c p).1 = V.int 1) = decide ((c p).1 = 1) := decide_eq_decide.mpr ⟨V.int.inj, fun h => by rw [h]⟩
    rw [e] at tst
    refine s_if tst (fun hb5 H5 e5 => ?_) (fun hb5 H5 e5 => ?_)
    · refine s_asg (by walk_at "ev") fun H6 e6 => ?_
      refine ⟨some (.int p), some (.ref as[n]), ?_, by walk_at "ex"⟩
      rw [kn_take c0 hp, if_pos hb5]; rfl
    · refine ⟨some (.int p), some (.ref as[n]), ?_, by walk_at "ex"⟩
      rw [kn_take c0 hp, if_neg (by rw [hb5]; decide)]; rfl
  · rintro σ' H3 ⟨o1, o2, rfl, ex⟩
    refine s_ret (by walk_at "ev") fun H4 e4 => ?_
    exact q H4 (by walk_at "ex")
theorem r_left_of (K : PySem.W.Frag) : ∀ vs H Q E, sp_left_of vs H Q E → t_left_of K { nx := fun _ H' => Q .non H', rt := Q } (start names_left_of vs) H := by
  rintro vs H Q E ⟨n, p, rfl, p0, pb, q⟩
  unfold leftM at q
  refine q_when (by walk_at "et") (fun hb H1 e1 => ?_) (fun hb H1 e1 => ?_)
  · have z : n % p = 0 := by simpa using hb
    rw [if_pos z] at q
    exact s_ret (by walk_at "ev") fun H2 e2 => q H2 (by walk_at "ex")
  · have z : ¬ n % p = 0 := by simpa using hb
    rw [if_neg z] at q
    exact s_ret (by walk_at "ev") fun H2 e2 => q H2 (by walk_at "ex")
theorem spv_left {n p : Int} {H : Hp} (h0 : 0 < p) (hp : p < 1073741824) : SpV sp_left_of ([.int n, .int p] ++ []) H (.int (leftM n p)) :=
  spv fun H1 Q E q => ⟨n, p, rfl, h0, hp, q⟩
theorem five_at {i : Nat} (h : i < 5) : ∃ p, P5[i]? = some p ∧ p ∈ P5 ∧ (P5.map V.int)[i]? = some (.int p) ∧ P6[i + 1]? = some p ∧ 2 ≤ p ∧ p ≤ 13 := by
  have hl : i < P5.length := h
  have aux : ∀ i : Nat, i < 5 → ∃ p ∈ P5, P5[i]? = some p ∧ P6[i + 1]? = some p ∧ 2 ≤ p ∧ p ≤ 13 := by decide
  obtain ⟨p, pm, e1, e2, b⟩ := aux i h
  exact ⟨p, e1, pm, by rw [List.getElem?_map, e1]; rfl, e2, b⟩
theorem sq_bd (u p : Int) : sq u p = 0 ∨ sq u p = 1 ∨ sq u p = -1 := by
  unfold sq
  by_cases c : u % p = 0
  · rw [if_pos c]; exact .inl rfl
  · rw [if_neg c]
    by_cases d : p = 2 ∨ u ^ ((p - 1) / 2).toNat % p = 1
    · rw [if_pos d]; exact .inr (.inl rfl)
    · rw [if_neg d]; exact .inr (.inr rfl)
theorem r_wanted (K : PySem.W.Frag) (aO : Addr) (hO : WTup K aO P5) : ∀ vs H Q E, sp_wanted vs H Q E → t_wanted K aO { nx := fun _ H' => Q .non H', rt := Q } (start names_wanted vs) H := by
  rintro vs H Q E ⟨l, c0, c, rfl, hc, cw, q⟩
  obtain ⟨as, h1, h2, h3⟩ := hc.ex
  match as, h2 with
  | [a0, a1, a2, a3, a4, a5], _ =>
    have ha0 := h3 0 a0 2 rfl rfl
    have r2 := cw.r2
    have r2b : 0 ≤ (c 2).2 ∧ (c 2).2 ≤ 7 := by
      simp only [List.mem_cons, List.not_mem_nil, or_false] at r2
      omega
    have cm : CMul (c 2).2 (leftM (knownM c0 c) 2) := .inl ⟨by omega, by omega⟩
    refine q_asg (v := .int (firstM c0 c)) (ev_op (ev_op (ev_op (ev_op (ev_var rfl) ev_c (rv_ixL (sq_of h1) (atI_nat (j := 1) rfl))) ev_c (rv_ixT (st_of ha0) (atI_nat (j := 1) rfl))) (ev_call (ea_cons (ev_var rfl) (ea_cons ev_c ea_nil)) (spv_left (by decide) (by decide))) (rv_I cm)) ev_c (rv_I (by decide))) fun H1 e1 => ?_
    refine q_asgL (el_lst (by walk_at "ea") (by simp)) fun z H2 nz0 e2 hz => ?_
    have nzH : H z = none := fresh_back e1 nz0
    refine q_forZ hO (ep_ofL (el_sl (ev_var rfl) (eo_some ev_c) eo_none (sq_of ((e1.trans e2) _ _ h1)))) fun v H3 e3 hP => ?_
    obtain ⟨b, rfl, nb, hb⟩ := hP
    have ec : cutV (.int c0 :: [a0, a1, a2, a3, a4, a5].map V.ref) (some 2) none = [a1, a2, a3, a4, a5].map V.ref := cut_from2
    rw [ec] at hb
    have bz : b ≠ z := fun e => by
      subst e
      rw [hz] at nb
      cases nb
    refine ⟨b, [a1, a2, a3, a4, a5].map V.ref, fun i σ' H' => ∃ o1 o2 : Option V, σ' = [some (.int (knownM c0 c)), some (.ref l), some (.int (firstM c0 c)), some (.ref z), o1, o2] ∧ Own H H' z ∧ H' b = some (.lst ([a1, a2, a3, a4, a5].map V.ref)) ∧ H' z = some (.lst (((P5.take i).map (wM c0 c)).map V.int)),
      rfl, sq_of hb, rfl, ⟨none, none, rfl, ⟨nzH, (e1.trans e2).trans e3⟩, hb, e3 _ _ hz⟩, ?_, ?_, ?_⟩
    · rintro n σ' H' ⟨_, _, _, _, hb', _⟩
      exact sq_of hb'
    · rintro n x y σ' H4 H5 hx hy ⟨o1, o2, rfl, ow, hb', hz'⟩ e5
      have n5 : n < 5 := by
        have := (List.getElem?_eq_some_iff.mp hx).1
        simpa [P5] using this
      obtain ⟨p, hp, pm, hpv, hp6, p2, p13⟩ := five_at n5
      rw [hpv] at hx
      cases hx
      have hn : n < [a1, a2, a3, a4, a5].length := n5
      rw [List.getElem?_map, List.getElem?_eq_getElem hn] at hy
      cases hy
      have hga : [a0, a1, a2, a3, a4, a5][n + 1]? = some ([a1, a2, a3, a4, a5][n]) := List.getElem?_eq_getElem (show n + 1 < 6 by omega)
      have ha := (ow.on e5).ex _ _ (h3 (n + 1) _ p hga hp6)
      have rr := cw.r p pm
      have cm2 : CMul (c p).2 (sq (leftM (knownM c0 c) p) p) := .inl ⟨by omega, by omega⟩
      have zl : (((P5.take n).map (wM c0 c)).map V.int).length < 100000 := by
        rw [List.length_map, List.length_map]
        have h3 : (P5.take n).length ≤ P5.length := by rw [List.length_take]; omega
        have : P5.length = 5 := rfl
        omega
      refine s_app (lk hz' e5) (ev_var rfl) (ev_op (ev_op (ev_var rfl) ev_c (rv_ixT (st_of ha) (atI_nat (j := 1) rfl))) (ev_call (ea_cons (ev_call (ea_cons (ev_var rfl) (ea_cons (ev_var rfl) ea_nil)) (spv_left (by omega) (by omega))) (ea_cons (ev_var rfl) ea_nil)) (spv_square ⟨p2, by omega⟩)) (rv_I cm2)) zl fun H6 e6 => ?_
      refine ⟨some (.int p), some (.ref [a1, a2, a3, a4, a5][n]), rfl, ((ow.on e5).on e6).put, ?_, ?_⟩
      · rw [upd_ne bz]; exact (e5.trans e6) _ _ hb'
      · rw [upd_same, List.take_add_one, hp]
        simp only [Option.toList_some, List.map_append, List.map_cons, List.map_nil]
        rfl
    · rintro σ' H4 ⟨o1, o2, rfl, ow, hb', hz'⟩
      refine s_retU (eu_tup (by walk_at "ea") (by simp)) fun t H5 nt e5 ht => ?_
      exact q t z H5 (ow.ex.trans e5) ht (e5 _ _ hz')
theorem r_fits (K : PySem.W.Frag) (aO : Addr) (hO : WTup K aO P5) : ∀ vs H Q E, sp_fits vs H Q E → t_fits K aO { nx := fun _ H' => Q .non H', rt := Q } (start names_fits vs) H := by
  rintro vs H Q E ⟨x, first, w, t, r, rfl, ht, hr, q⟩
  refine q_when (b := !decide (V.int (x % 8) = V.int first)) (et_test (ev_op (by walk_at "ev") (ev_op (ev_var rfl) ev_c (rv_ixT (st_of ht) (atI_nat (j := 0) rfl))) (rv_ne rfl))) (fun hb H1 e1 => ?_) (fun hb H1 e1 => ?_)
  · have z : ¬ x % 8 = first := by simpa using hb
    have e : pd (Fits x first w) = false := pd_false.mpr fun h => z h.1
    rw [e] at q
    exact s_ret (by walk_at "ev") fun H2 e2 => q H2 (by walk_at "ex")
  have z : x % 8 = first := by simpa using hb
  refine q_forZ hO (ep_ofV (v := .ref r) (ev_op (ev_var rfl) ev_c (rv_ixT (st_of (e1 _ _ ht)) (atI_nat (j := 1) rfl)))) fun v H2 e2 hP => ?_
  subst hP
  have hr2 := (e1.trans e2) _ _ hr
  refine ⟨r, _, fun i σ' H' => ∃ o1 o2 : Option V, σ' = [some (.int x), some (.ref t), o1, o2] ∧ Ex H2 H' ∧ ∀ p ∈ P5.take i, sq x p = w p, rfl, sq_of hr2, rfl, ⟨none, none, rfl, Ex.refl _, fun p hp => by simp at hp⟩, ?_, ?_, ?_⟩
  · rintro n σ' H' ⟨_, _, _, ex, _⟩
    exact sq_of (ex _ _ hr2)
  · rintro n x' y σ' H3 H4 hx hy ⟨o1, o2, rfl, ex, inv⟩ e4
    have n5 : n < 5 := by
      have := (List.getElem?_eq_some_iff.mp hx).1
      simpa [P5] using this
    obtain ⟨p, hp, pm, hpv, _, p2, p13⟩ := five_at n5
    rw [hpv] at hx
    cases hx
    have hy' : y = .int (w p) := by
      rw [List.map_map, List.getElem?_map, hp] at hy
      cases hy
      rfl
    subst hy'
    have hpp : 2 ≤ p ∧ p < 1073741824 := ⟨p2, by omega⟩
    refine s_if (b := !decide (V.int (sq x p) = V.int (w p))) (et_test (ev_op (ev_call (by walk_at "ea") (spv_square hpp)) (ev_var rfl) (rv_ne rfl))) (fun hb5 H5 e5 => ?_) (fun hb5 H5 e5 => ?_)
    · have ne : ¬ sq x p = w p := by simpa using hb5
      have e : pd (Fits x first w) = false := pd_false.mpr fun h => ne (h.2 p pm)
      rw [e] at q
      exact s_ret (by walk_at "ev") fun H6 e6 => q H6 (by walk_at "ex")
    · have eq : sq x p = w p := by simpa using hb5
      refine ⟨some (.int p), some (.int (w p)), rfl, by walk_at "ex", fun p' hp' => ?_⟩
      rw [List.take_add_one, hp] at hp'
      simp only [Option.toList_some, List.mem_append, List.mem_singleton] at hp'
      rcases hp' with h | h
      · exact inv p' h
      · rw [h]; exact eq
  · rintro σ' H3 ⟨o1, o2, rfl, ex, inv⟩
    have e : pd (Fits x first w) = true := pd_iff.mpr ⟨z, inv⟩
    rw [e] at q
    exact s_ret (by walk_at "ev") fun H4 e4 => q H4 (by walk_at "ex")
theorem spv_fits {x first : Int} {w : Int → Int} {t r : Addr} {H : Hp} (ht : H t = some (.tup [.int first, .ref r])) (hr : H r = some (.lst ((P5.map w).map V.int))) : SpV sp_fits ([.int x, .ref t] ++ []) H (.bl (pd (Fits x first w))) :=
  fun H1 e Q q E => ⟨x, first, w, t, r, rfl, e _ _ ht, e _ _ hr, q⟩
theorem spv_prime {k : Int} {H : Hp} (h : k < 1073741824) : SpV sp_is_prime ([.int k] ++ []) H (.bl (pd (PrI k))) :=
  spv fun H1 Q E q => ⟨k, rfl, h, fun b H2 e hb => by rw [pd_of hb]; exact q H2 e⟩
theorem spv_known {l : Addr} {c0 : Int} {c : Int → Int × Int} {H : Hp} (hc : Clss H l c0 c) (cw : CW c0 c) : SpV sp_known_part ([.ref l] ++ []) H (.int (knownM c0 c)) :=
  fun H1 e Q q E => ⟨l, c0, c, rfl, hc.ex' e, cw, q⟩
theorem r_number_with_also (K : PySem.W.Frag) : ∀ vs H Q E, sp_number_with_also vs H Q E → t_number_with_also K { nx := fun _ H' => Q .non H', rt := Q } (start names_number_with_also vs) H := by
  rintro vs H Q E ⟨l, c0, c, rfl, hc, cw, q⟩
  obtain ⟨dk, _, _⟩ := cw.known
  obtain ⟨wf, ww⟩ := cw.want
  obtain ⟨q0, hq0, fit0⟩ := fit_ex wf ww
  have q0b : q0 < 8192 ∧ 1 ≤ q0 ∧ (q0 = 1 ∨ (17 ≤ q0 ∧ q0 % 2 = 1)) := by
    rcases hq0 with e | b
    · subst e
      exact ⟨by decide, by decide, .inl rfl⟩
    · have h1 := b.lo
      have h2 := b.odd
      have h3 := b.hi
      have h4 : ¬ 3 ∣ q0 := b.nd (p := 3) (by decide)
      omega
  refine q_asg (ev_call (by walk_at "ea") (spv_known hc cw)) fun H1 e1 => ?_
  refine q_asgC (by walk_at "ea") fun H2 e2 => ⟨l, c0, c, rfl, hc.ex' (e1.trans e2), cw, fun t r H3 e3 ht hr => ?_⟩
  dsimp only [gName]
  refine q_asg (by walk_at "ev") fun H4 e4 => ?_
  refine s_wh (fun m σ' H' => ∃ x : Int, σ' = [some (.ref l), some (.int 0), some (.int 0), some (.int (knownM c0 c)), some (.ref t), some (.int x)] ∧ Ex H3 H' ∧ (x = 1 ∨ (17 ≤ x ∧ x % 2 = 1)) ∧ x ≤ q0 ∧ m = (q0 - x).toNat) ((q0 : Int) - 1).toNat
    ⟨1, rfl, e4, .inl rfl, by omega, rfl⟩ ?_
  rintro m σ' H' ⟨x, rfl, ex, xo, xq, rfl⟩
  refine wst (b := true) (by walk_at "et") (fun _ H5 e5 => ?_) (fun hb H5 e5 => by cases hb)
  have ht5 := (ex.trans e5) _ _ ht
  have hr5 := (ex.trans e5) _ _ hr
  have kb := dk.le
  have cm : CMul (knownM c0 c) x := .inl ⟨by omega, by omega⟩
  have xp : x < 1073741824 := by omega
  have tst : EvT (tAnd (tTest (tOp rNe (tVar 5) (tVar 1))) (tAnd (tB (tCall sp_fits [] E0 (tCons (tVar 5) (tCons (tVar 4) tNil)))) (tOr (tTest (tOp rEq (tVar 5) (tC (.int 1)))) (tB (tCall sp_is_prime [] E0 (tCons (tVar 5) tNil))))))
      [some (V.ref l), some (V.int 0), some (V.int 0), some (V.int (knownM c0 c)), some (V.ref t), some (V.int x)] H5 (!decide (V.int x = V.int 0) && (pd (Fits x (firstM c0 c) (wM c0 c)) && (decide (V.int x = V.int 1) || pd (PrI x)))) :=
    et_and (by walk_at "et") fun _ => et_and (et_B (ev_call (by walk_at "ea") (spv_fits ht5 hr5))) fun _ => et_or (by walk_at "et") fun _ => et_B (ev_call (by walk_at "ea") (spv_prime xp))
  have cond : (!decide (V.int x = V.int 0) && (pd (Fits x (firstM c0 c) (wM c0 c)) && (decide (V.int x = V.int 1) || pd (PrI x)))) = true ↔ Fits x (firstM c0 c) (wM c0 c) ∧ (x = 1 ∨ PrI x) := by
    have x0 : (!decide (V.int x = V.int 0)) = true := by
      have : ¬ V.int x = V.int 0 := fun h => by
        have := V.int.inj h
        omega
      rw [decide_eq_false this]; rfl
    rw [x0, Bool.true_and, Bool.and_eq_true, Bool.or_eq_true, pd_iff, pd_iff, decide_eq_true_iff]
    constructor
    · rintro ⟨a, b | b⟩
      · exact ⟨a, .inl (V.int.inj b)⟩
      · exact ⟨a, .inr b⟩
    · rintro ⟨a, b | b⟩
      · exact ⟨a, .inl (by rw [b])⟩
      · exact ⟨a, .inr b⟩
  have rest : ∀ H6, Ex H3 H6 → ¬ (Fits x (firstM c0 c) (wM c0 c) ∧ (x = 1 ∨ PrI x)) →
      (tSeq (tIfS (tTest (tOp rEq (tVar 5) (tC (.int 1)))) (tAsg (tC (.int 15)) (gName 5)) tNext) (tAug 5 (tC (.int 2)) ipAdd))
        { nx := fun σ2 H2 => ∃ m', m' < ((q0 : Int) - x).toNat ∧ ∃ x : Int, σ2 = [some (.ref l), some (.int 0), some (.int 0), some (.int (knownM c0 c)), some (.ref t), some (.int x)] ∧ Ex H3 H2 ∧ (x = 1 ∨ (17 ≤ x ∧ x % 2 = 1)) ∧ x ≤ q0 ∧ m' = ((q0 : Int) - x).toNat,
          rt := Q, bk := fun _ H' => Q V.non H', ct := fun σ2 H2 => ∃ m', m' < ((q0 : Int) - x).toNat ∧ ∃ x : Int, σ2 = [some (.ref l), some (.int 0), some (.int 0), some (.int (knownM c0 c)), some (.ref t), some (.int x)] ∧ Ex H3 H2 ∧ (x = 1 ∨ (17 ≤ x ∧ x % 2 = 1)) ∧ x ≤ q0 ∧ m' = ((q0 : Int) - x).toNat }
        [some (V.ref l), some (V.int 0), some (V.int 0), some (V.int (knownM c0 c)), some (V.ref t), some (V.int x)] H6 := by
    intro H6 e6 no
    have xn : x ≠ q0 := by
      rintro rfl
      apply no
      refine ⟨fit0, ?_⟩
      rcases hq0 with e | b
      · left; omega
      · exact .inr b.pi
    refine q_ifSet (by walk_at "et") (fun _ => by walk_at "ev") (fun _ => rfl) fun H7 e7 => ?_
    rw [v_ite]
    refine s_aug rfl (by walk_at "ev") fun H8 e8 => ?_
    have ee : (if decide (V.int x = V.int 1) = true then (15 : Int) else x) = if x = 1 then 15 else x := app_if (by
      rw [decide_eq_true_iff]
      exact ⟨V.int.inj, fun h => by rw [h]⟩)
    rw [ee]
    refine ⟨_, ?_, _, rfl, by walk_at "ex", ?_, ?_, rfl⟩
    · by_cases c : x = 1
      · rw [if_pos c]; omega
      · rw [if_neg c]; omega
    · by_cases c : x = 1
      · rw [if_pos c]; omega
      · rw [if_neg c]; omega
    · by_cases c : x = 1
      · rw [if_pos c]; omega
      · rw [if_neg c]; omega
  refine q_when tst (fun hb H6 e6 => ?_) (fun hb H6 e6 => ?_)
  · obtain ⟨ft, pr⟩ := cond.mp hb
    refine s_when (b := decide (V.int 0 = V.int 0) || decide (V.int 0 = V.int 0)) (fun H7 e7 Q7 q7 => ?_) (fun _ H7 e7 => ?_) (fun hb7 => by cases hb7)
    · refine (et_test (ev_op (ev_var rfl) ev_c (rv_eq rfl)) : EvT (tTest (tOp rEq (tVar 2) (tC (.int 0)))) _ H6 (decide (V.int 0 = V.int 0))) H7 e7 _ fun H8 e8 => ?_
      exact q7 H8 e8
    · refine s_ret (by walk_at "ev") fun H8 e8 => ?_
      refine q _ H8 (by walk_at "ex") ?_
      refine ⟨x.toNat, ?_, ?_, ?_⟩
      · rcases pr with e | p
        · left; omega
        · by_cases x1 : x = 1
          · left; omega
          · exact .inr (big_pi p (by omega) (by omega)).1
      · rw [Int.toNat_of_nonneg (by omega)]
      · rw [Int.toNat_of_nonneg (by omega)]; exact ft
  · exact rest H6 (by walk_at "ex") fun h => by
      rw [cond.mpr h] at hb
      cases hb
theorem r_number_with (K : PySem.W.Frag) : ∀ vs H Q E, sp_number_with vs H Q E → t_number_with K { nx := fun _ H' => Q .non H', rt := Q } (start names_number_with vs) H := by
  rintro vs H Q E ⟨l, c0, c, rfl, hc, cw, q⟩
  exact s_retC (by walk_at "ea") fun H1 e1 => ⟨l, c0, c, rfl, hc.ex' e1, cw, fun A H2 e2 hn => q A H2 (e1.trans e2) hn⟩
theorem rv_dict {K : PySem.W.Frag} {a : Addr} {k v : Int} {H : Hp} (h : KDInt K a k (.int v)) : RV (rIxDI K) (.ref a) (.int k) H (.int v) := fun H1 _ Q q => ⟨a, k, .int v, rfl, rfl, h, q H1 (Ex.refl H1)⟩
theorem r_kinds_at (K : PySem.W.Frag) (aN : Addr) (hN : NoneBy K aN) : ∀ vs H Q E, sp_kinds_at vs H Q E → t_kinds_at K aN { nx := fun _ H' => Q .non H', rt := Q } (start names_kinds_at vs) H := by
  rintro vs H Q E ⟨p, rfl, hp, q⟩
  have pb : 2 ≤ p ∧ p ≤ 13 := by
    simp only [P6, List.mem_cons, List.not_mem_nil, or_false] at hp
    omega
  refine q_when (by walk_at "et") (fun hb H1 e1 => ?_) (fun hb H1 e1 => ?_)
  · have : p = 0 := by simpa using hb
    omega
  unfold kinds at q
  refine q_when (by walk_at "et") (fun hb H2 e2 => ?_) (fun hb H2 e2 => ?_)
  · have p2 : p = 2 := by simpa using hb
    rw [if_pos p2] at q
    refine s_retL (el_lst (by walk_at "ea") (by simp)) fun s H3 ns e3 hs => ?_
    exact q s H3 (fresh_back (by walk_at "ex") ns) (by walk_at "ex") hs
  · have p2 : p ≠ 2 := by simpa using hb
    rw [if_neg p2] at q
    have kd : KDInt K aN p (.int (nbM p)) := hN.get (by
      simp only [P6, List.mem_cons, List.not_mem_nil, or_false] at hp
      rcases hp with rfl | rfl | rfl | rfl | rfl | rfl
      · exact absurd rfl p2
      all_goals decide)
    have cm : CMul p (nbM p) := .inl ⟨by omega, by omega⟩
    have ed : ∀ {σ : L2.St} {H : Hp}, σ[0]? = some (some (V.int p)) → Ev (tOp (rIxDI K) (tC (.ref aN)) (tVar 0)) σ H (.int (nbM p)) := fun h => ev_op ev_c (ev_var h) (rv_dict kd)
    exact s_retL (el_lst (ea_cons ev_c (ea_cons (ed rfl) (ea_cons (ev_var rfl) (ea_cons (ev_op (ev_var rfl) (ed rfl) (rv_I cm)) ea_nil)))) (by simp)) fun s H3 ns e3 hs => q s H3 (fresh_back (by walk_at "ex") ns) (by walk_at "ex") hs

/-! ### promises: wishes and built rows -/
/-- a wish on the heap -/
structure Wsh (H : Hp) (t m : Addr) (size signs n : Int) (ns : List Int) : Prop where
  t : H t = some (.tup [.int size, .int signs, .int n, .ref m])
  m : H m = some (.lst (ns.map V.int))
theorem Wsh.ex {H H' : Hp} {t m : Addr} {size signs n : Int} {ns : List Int} (h : Wsh H t m size signs n ns) (e : Ex H H') : Wsh H' t m size signs n ns := ⟨e _ _ h.t, e _ _ h.m⟩
structure WOk (size signs n : Int) (ns : List Int) : Prop where
  s : size.natAbs ≤ 100
  g : signs.natAbs ≤ 100
  n : n ≠ 0 ∧ n.natAbs < BD
  l : ns.length ≤ 1000
  p : ∀ p ∈ ns, PlOk p
def sp_can_be : Sp := fun vs H Q _ => ∃ (t m : Addr) (size signs n : Int) (ns : List Int), vs = [.ref t] ∧ Wsh H t m size signs n ns ∧ WOk size signs n ns ∧ RetV (.bl (canB size signs n ns)) H Q
def sp_first_number : Sp := fun vs H Q _ => ∃ size signs n : Int, vs = [.int size, .int signs, .int n] ∧ D n ∧ RetV (.int (firstN size signs n)) H Q
def sp_wish_behind : Sp := fun vs H Q _ => ∃ (t m : Addr) (size signs n a : Int) (f : Int → Bool), vs = [.ref t, .int a] ∧ Wsh H t m size signs n (P7.filter f) ∧ D n ∧ D a ∧
  ∀ (t' m' : Addr) (H2 : Hp), Ex H H2 → H m' = none → Wsh H2 t' m' (size - 1) (signs - (if 0 < a then 1 else 0)) (ft a n) (P7.filter fun p => f p ^^ hb p a (ft a n)) → Q (.ref t') H2
def sp_two_with : Sp := fun vs H Q _ => ∃ (signs n : Int) (m : Addr) (f : Int → Bool), vs = [.int signs, .int n, .ref m] ∧ H m = some (.lst ((P7.filter f).map V.int)) ∧ Can 2 signs n f ∧
  ∀ (s : Addr) (r : List Int) (H2 : Hp), Ex H H2 → H s = none → H2 s = some (.lst (r.map V.int)) → Good 2 signs n f r → Q (.ref s) H2
def sp_built : Sp := fun vs H Q _ => ∃ (t m : Addr) (size signs n : Int) (ns : List Int), vs = [.ref t] ∧ Wsh H t m size signs n ns ∧ WOk size signs n ns ∧
  ((canB size signs n ns = false ∧ RetV .non H Q) ∨ (∃ f, ns = P7.filter f ∧ Can size signs n f ∧
    ∀ (s : Addr) (r : List Int) (H2 : Hp), Ex H H2 → H s = none → H2 s = some (.lst (r.map V.int)) → Good size signs n f r → Q (.ref s) H2))
structure Like (r s : List Int) : Prop where
  len : r.length = s.length
  pos : posc r = posc s
  num : ∃ n t z, t ≠ 0 ∧ z ≠ 0 ∧ n ≠ 0 ∧ prod r = n * (t * t) ∧ prod s = n * (z * z)
  nzs : ∀ p ∈ P7, nz p r = nz p s
  br : ∀ p : Nat, Pr p → 13 < p → nz p r = false
  bs : ∀ p : Nat, Pr p → 13 < p → nz p s = false
def sp_parting : Sp := fun vs H Q _ => ∃ (l m : Addr) (r s : List Int), vs = [.ref l, .ref m] ∧ H l = some (.lst (r.map V.int)) ∧ H m = some (.lst (s.map V.int)) ∧ RowOk r ∧ RowOk s ∧ Like r s ∧ RetV .non H Q
def t_can_be (K : PySem.W.Frag) : TS := (tSeq (tAsg (tVar 0) (gTup K 4 (gCons (gName 1) (gCons (gName 2) (gCons (gName 3) (gCons (gName 4) gNil)))))) (tSeq (tAsg (tOp kSub (tVar 1) (tVar 2)) (gName 5)) (tSeq (tIfS (tOr (tTest (tOp rNe (tOp kLt (tVar 3) (tC (.int 0))) (tOp rEq (tOp kMod (tVar 5) (tC (.int 2))) (tC (.int 1))))) (tTest (tOp rEq (tOp kMod (tCB (rLenS K) (tCons (tVar 4) tNil)) (tC (.int 2))) (tC (.int 1))))) (tRet (tC (.bl false))) tNext) (tSeq (tIfS (tTest (tOp rNe (tOp (rIn K false) (tC (.int 0)) (tVar 4)) (tOp rEq (tOp kMod (tOp kDiv (tOp kMul (tVar 5) (tOp kSub (tVar 5) (tC (.int 1)))) (tC (.int 2))) (tC (.int 2))) (tC (.int 1))))) (tRet (tC (.bl false))) tNext) (tSeq (tIfS (tTest (tOp rEq (tVar 1) (tC (.int 1)))) (tRet (tOp rEq (tCB (rLenS K) (tCons (tVar 4) tNil)) (tC (.int 0)))) tNext) (tSeq (tIfS (tTest (tOp rEq (tVar 1) (tC (.int 2)))) (tRet (tOp rEq (tCB (rLenS K) (tCons (tLc (iList K (tVar 4)) (gName 6) (tB (tCall sp_is_square_at [] E0 (tCons (tOp kSub (tC (.int 0)) (tVar 3)) (tCons (tVar 6) tNil)))) (tVar 6) [6]) tNil)) (tC (.int 0)))) tNext) (tRet (tC (.bl true)))))))))
def t_first_number (K : PySem.W.Frag) : TS := (tSeq (tAsg (tC (.int 1)) (gName 3)) (tSeq (tIfS (tTest (tOp rEq (tVar 0) (tC (.int 3)))) (tAsg (tOp kDiv (tC (.int 30030)) (tCB kAbs (tCons (tVar 2) tNil))) (gName 3)) tNext) (tSeq (tIfS (tTest (tOp rEq (tVar 1) (tC (.int 0)))) (tRet (tOp kSub (tC (.int 0)) (tVar 3))) tNext) (tRet (tVar 3)))))
def t_wish_behind (K : PySem.W.Frag) (aS : Addr) : TS := (tSeq (tAsg (tVar 0) (gTup K 4 (gCons (gName 2) (gCons (gName 3) (gCons (gName 4) (gCons (gName 5) gNil)))))) (tSeq (tAsg (tCall sp_fpt [] E0 (tCons (tVar 1) (tCons (tVar 4) tNil))) (gName 6)) (tSeq (tAsg (tLc (iTup K (tOp (rCatT K) (tTup (tCons (tC (.int 0)) tNil)) (tC (.ref aS)))) (gName 8) (tTest (tOp rNe (tOp (rIn K false) (tVar 8) (tVar 5)) (tNotV (tCall sp_says [] E0 (tCons (tVar 1) (tCons (tVar 6) (tCons (tVar 8) tNil))))))) (tVar 8) [8]) (gName 7)) (tRet (tTup (tCons (tOp kSub (tVar 2) (tC (.int 1))) (tCons (tOp kSub (tVar 3) (tCB kInt1 (tCons (tOp kGt (tVar 1) (tC (.int 0))) tNil))) (tCons (tVar 6) (tCons (tVar 7) tNil)))))))))
def t_two_with (K : PySem.W.Frag) (aS : Addr) : TS := (tSeq (tAsg (tLst (tCons (tC (.int 1)) tNil)) (gName 3)) (tSeq (tIfS (tTest (tOp rEq (tVar 0) (tC (.int 0)))) (tAsg (tLst (tCons (tUn kNeg (tC (.int 1))) tNil)) (gName 3)) tNext) (tSeq (tFor (iTup K (tC (.ref aS))) (gName 4) (tSeq (tAsg (tLc (iList K (tCall sp_kinds_at [] E0 (tCons (tVar 4) tNil))) (gName 6) (tTest (tOp rEq (tCall sp_says [] E0 (tCons (tVar 6) (tCons (tOp kSub (tC (.int 0)) (tVar 1)) (tCons (tVar 4) tNil)))) (tOp (rIn K true) (tVar 4) (tVar 2)))) (tVar 6) [6]) (gName 5)) (tDrop (tBM K "list" rAppend (tVar 3) (tCons (tCall sp_class_at [] E0 (tCons (tOp (rIxL K) (tVar 5) (tC (.int 0))) (tCons (tVar 4) tNil))) tNil))))) (tSeq (tAsg (tCall sp_number_with [] E0 (tCons (tVar 3) tNil)) (gName 7)) (tRet (tLst (tCons (tVar 7) (tCons (tCall sp_fpt [] E0 (tCons (tVar 7) (tCons (tVar 1) tNil))) tNil))))))))
def t_built (K : PySem.W.Frag) : TS := (tSeq (tIfS (tNot (tB (tCall sp_can_be [] E0 (tCons (tVar 0) tNil)))) (tRet (tC .non)) tNext) (tSeq (tAsg (tLst tNil) (gName 1)) (tSeq (tWhile (tTest (tOp kGt (tOp (rIxT K) (tVar 0) (tC (.int 0))) (tC (.int 2)))) (tSeq (tAsg (tCall sp_first_number [] E0 (tCons (tOp (rIxT K) (tVar 0) (tC (.int 0))) (tCons (tOp (rIxT K) (tVar 0) (tC (.int 1))) (tCons (tOp (rIxT K) (tVar 0) (tC (.int 2))) tNil)))) (gName 2)) (tSeq (tDrop (tBM K "list" rAppend (tVar 1) (tCons (tVar 2) tNil))) (tAsg (tCall sp_wish_behind [] E0 (tCons (tVar 0) (tCons (tVar 2) tNil))) (gName 0))))) (tSeq (tIfS (tTest (tOp rEq (tOp (rIxT K) (tVar 0) (tC (.int 0))) (tC (.int 1)))) (tRet (tOp rCat (tVar 1) (tLst (tCons (tOp (rIxT K) (tVar 0) (tC (.int 2))) tNil)))) tNext) (tRet (tOp rCat (tVar 1) (tCall sp_two_with [] E0 (tCons (tOp (rIxT K) (tVar 0) (tC (.int 1))) (tCons (tOp (rIxT K) (tVar 0) (tC (.int 2))) (tCons (tOp (rIxT K) (tVar 0) (tC (.int 3))) tNil))))))))))
def t_parting (K : PySem.W.Frag) : TS := (tSeq (tAsg (tCall sp_noes_of [] E0 (tCons (tVar 0) tNil)) (gName 2)) (tSeq (tAsg (tCall sp_noes_of [] E0 (tCons (tVar 1) tNil)) (gName 3)) (tSeq (tIfS (tTest (tOp rNe (tCB (rLenS K) (tCons (tVar 0) tNil)) (tCB (rLenS K) (tCons (tVar 1) tNil)))) (tRet (tTup (tCons (tC (.str "size")) tNil))) tNext) (tSeq (tIfS (tTest (tOp rNe (tCall sp_signs_of [] E0 (tCons (tVar 0) tNil)) (tCall sp_signs_of [] E0 (tCons (tVar 1) tNil)))) (tRet (tTup (tCons (tC (.str "signs")) tNil))) tNext) (tSeq (tIfS (tTest (tOp rNe (tCall sp_fpr [] E0 (tCons (tVar 0) tNil)) (tCall sp_fpr [] E0 (tCons (tVar 1) tNil)))) (tRet (tTup (tCons (tC (.str "number")) tNil))) tNext) (tSeq (tAsg (tCB (rSorted K) (tCons (tOp rCat (tLc (iList K (tVar 2)) (gName 5) (tTest (tOp (rIn K true) (tVar 5) (tVar 3))) (tVar 5) [5]) (tLc (iList K (tVar 3)) (gName 5) (tTest (tOp (rIn K true) (tVar 5) (tVar 2))) (tVar 5) [5])) tNil)) (gName 4)) (tSeq (tIfS (tTest (tOp kGt (tCB (rLenS K) (tCons (tVar 4) tNil)) (tC (.int 0)))) (tRet (tTup (tCons (tC (.str "place")) (tCons (tOp (rIxL K) (tVar 4) (tC (.int 0))) tNil)))) tNext) (tRet (tC .non)))))))))
section
variable {K : PySem.W.Frag} {σ : L2.St} {H : Hp} {ta tb : TE}
theorem g_four {i j k l : Nat} {t : Addr} {a b c d : V} {Q : L2.St → Hp → Prop} (ht : H t = some (.tup [a, b, c, d])) (q : Q ((((σ.set i (some a)).set j (some b)).set k (some c)).set l (some d)) H) :
    gTup K 4 (gCons (gName i) (gCons (gName j) (gCons (gName k) (gCons (gName l) gNil)))) (.ref t) σ H Q :=
  ⟨t, [a, b, c, d], rfl, st_of ht, rfl, a, _, rfl, b, _, rfl, c, _, rfl, d, _, rfl, rfl, q⟩
theorem q_asgV4 {D : Ends} {tz : TS} {x i j k l : Nat} {t : Addr} {a b c d : V} (hx : σ[x]? = some (some (.ref t))) (ht : H t = some (.tup [a, b, c, d]))
    (q : tz D ((((σ.set i (some a)).set j (some b)).set k (some c)).set l (some d)) H) : tSeq (tAsg (tVar x) (gTup K 4 (gCons (gName i) (gCons (gName j) (gCons (gName k) (gCons (gName l) gNil)))))) tz D σ H :=
  ⟨.ref t, hx, g_four ht q⟩
theorem el_catLL {xs zs : List V} (ha : EvL ta σ H xs) (hb : EvL tb σ H zs) (hz : xs.length + zs.length ≤ 100000) : EvL (tOp rCat ta tb) σ H (xs ++ zs) := fun H1 e Q q =>
  ha H1 e _ fun p H2 np e2 hp => hb H2 (e.trans e2) _ fun b H3 nb e3 hbb => ⟨p, b, xs, zs, rfl, rfl, e3 _ _ hp, hbb, sz_of hz, fun s ns => q s _ (fresh_back (e2.trans e3) ns) ((e2.trans e3).trans (Ex.new ns)) upd_same⟩
theorem el_catVL {l : Addr} {xs zs : List V} (ha : Ev ta σ H (.ref l)) (hl : H l = some (.lst xs)) (hb : EvL tb σ H zs) (hz : xs.length + zs.length ≤ 100000) : EvL (tOp rCat ta tb) σ H (xs ++ zs) := fun H1 e Q q =>
  ha H1 e _ fun H2 e2 => hb H2 (e.trans e2) _ fun b H3 nb e3 hbb => ⟨l, b, xs, zs, rfl, rfl, ((e.trans e2).trans e3) _ _ hl, hbb, sz_of hz, fun s ns => q s _ (fresh_back (e2.trans e3) ns) ((e2.trans e3).trans (Ex.new ns)) upd_same⟩
theorem ep_catVP {l : Addr} {xs : List V} {P : Hp → List V → Prop} (ha : Ev ta σ H (.ref l)) (hl : H l = some (.lst xs)) (hb : EvP tb σ H fun A v B => ∃ p zs, v = .ref p ∧ B p = some (.lst zs) ∧ xs.length + zs.length ≤ 100000 ∧ P A zs)
    (hm : ∀ A B zs, Ex A B → P B zs → P A zs) : EvP (tOp rCat ta tb) σ H fun A v B => ∃ p zs, v = .ref p ∧ A p = none ∧ B p = some (.lst (xs ++ zs)) ∧ P A zs := fun H1 e Q q =>
  ha H1 e _ fun H2 e2 => hb H2 (e.trans e2) _ fun v H3 e3 hP => by
    obtain ⟨b, zs, rfl, hbb, hz, hp⟩ := hP
    exact ⟨l, b, xs, zs, rfl, rfl, ((e.trans e2).trans e3) _ _ hl, hbb, sz_of hz, fun s ns => q _ _ ((e2.trans e3).trans (Ex.new ns)) ⟨s, zs, rfl, fresh_back (e2.trans e3) ns, upd_same, hm _ _ _ e2 hp⟩⟩
theorem eu_catT {aS : Addr} {is : List Int} {i : Int} (hS : WTup K aS is) (ne : is ≠ []) (hz : is.length ≤ 1000) : EvU (tOp (rCatT K) (tTup (tCons (tC (.int i)) tNil)) (tC (.ref aS))) σ H ((i :: is).map V.int) := fun H1 e Q q =>
  (eu_tup (ea_cons ev_c ea_nil) (by simp) : EvU (tTup (tCons (tC (.int i)) tNil)) σ H1 [.int i]) H1 (Ex.refl H1) _ fun p H2 np e2 hp =>
    ⟨p, aS, [.int i], is.map V.int, rfl, rfl, st_of hp, hS H2, by simp, sz_of (by rw [List.length_map]; simp; omega), fun h => absurd (List.map_eq_nil_iff.mp h) ne, fun _ s ns => q s _ (fresh_back e2 ns) (e2.trans (Ex.new ns)) upd_same⟩
end
theorem inV_int (p : Int) (ns : List Int) : inV (.int p) (ns.map V.int) = decide (p ∈ ns) := by
  unfold inV
  induction ns with
  | nil => rfl
  | cons x ns ih =>
    rw [List.map_cons, List.any_cons, ih]
    show (x == p || _) = _
    by_cases c : p = x
    · subst c; simp
    · have c' : ¬ x = p := fun h => c h.symm
      simp [c, c']
theorem flat_ints (ns : List Int) : (ns.map V.int).all flatV = true := by
  rw [List.all_map]
  exact List.all_eq_true.mpr fun x _ => rfl
theorem ev_inI {K : PySem.W.Frag} {σ : L2.St} {H : Hp} {ta tb : TE} {p : Int} {m : Addr} {ns : List Int} (ha : Ev ta σ H (.int p)) (hb : Ev tb σ H (.ref m)) (hm : H m = some (.lst (ns.map V.int))) : Ev (tOp (rIn K false) ta tb) σ H (.bl (decide (p ∈ ns))) := by
  rw [← inV_int]
  exact ev_op ha hb (rv_isL (sq_of hm) rfl (flat_ints ns))
theorem ev_notInI {K : PySem.W.Frag} {σ : L2.St} {H : Hp} {ta tb : TE} {p : Int} {m : Addr} {ns : List Int} (ha : Ev ta σ H (.int p)) (hb : Ev tb σ H (.ref m)) (hm : H m = some (.lst (ns.map V.int))) : Ev (tOp (rIn K true) ta tb) σ H (.bl (!decide (p ∈ ns))) := by
  rw [← inV_int]
  exact ev_op ha hb (rv_niL (sq_of hm) rfl (flat_ints ns))
theorem dv (x y : Int) : decide (V.int x = V.int y) = decide (x = y) := decide_eq_decide.mpr ⟨V.int.inj, fun h => by rw [h]⟩
theorem db (x y : Bool) : decide (V.bl x = V.bl y) = (x == y) := by
  cases x <;> cases y <;> rfl
theorem r_can_be (K : PySem.W.Frag) : ∀ vs H Q E, sp_can_be vs H Q E → t_can_be K { nx := fun _ H' => Q .non H', rt := Q } (start names_can_be vs) H := by
  rintro vs H Q E ⟨t, m, size, signs, n, ns, rfl, w, ok, q⟩
  have b1 := ok.s
  have b2 := ok.g
  have b3 := ok.n
  have b4 := ok.l
  unfold canB tri at q
  refine q_asgV4 rfl w.t ?_
  refine q_asg (by walk_at "ev") fun H1 e1 => ?_
  have hm1 := e1 _ _ w.m
  have lenE : ∀ {σ : L2.St} {H2 : Hp}, Ex H1 H2 → σ[4]? = some (some (.ref m)) → Ev (tCB (rLenS K) (tCons (tVar 4) tNil)) σ H2 (.int (ns.length : Int)) := fun e h => by
    have := ev_len (K := K) (ev_var h) (sq_of (e _ _ hm1))
    rwa [List.length_map] at this
  refine q_when (b := (!decide (V.bl (decide (n < 0)) = V.bl (decide (V.int ((size - signs) % 2) = V.int 1)))) || decide (V.int ((ns.length : Int) % 2) = V.int 1))
    (et_or (et_test (ev_op (by walk_at "ev") (by walk_at "ev") (rv_ne rfl))) fun _ => et_test (ev_op (ev_op (lenE (Ex.refl _) rfl) ev_c (rv_I (by decide))) ev_c (rv_eq rfl))) (fun hb H2 e2 => ?_) (fun hb H2 e2 => ?_)
  · rw [dv, dv, db] at hb
    rw [if_pos (show (decide (n < 0) != decide ((size - signs) % 2 = 1) || decide ((ns.length : Int) % 2 = 1)) = true from hb)] at q
    exact s_ret (by walk_at "ev") fun H3 e3 => q H3 (by walk_at "ex")
  rw [dv, dv, db] at hb
  rw [if_neg (by show ¬ ((!(decide (n < 0) == decide ((size - signs) % 2 = 1))) || decide ((ns.length : Int) % 2 = 1)) = true; rw [hb]; decide)] at q
  have cm : CMul (size - signs) (size - signs - 1) := .inl ⟨by omega, by omega⟩
  refine q_when (b := !decide (V.bl (decide ((0 : Int) ∈ ns)) = V.bl (decide (V.int ((size - signs) * (size - signs - 1) / 2 % 2) = V.int 1))))
    (et_test (ev_op (ev_inI ev_c (ev_var rfl) (e2 _ _ hm1)) (by walk_at "ev") (rv_ne rfl))) (fun hb H3 e3 => ?_) (fun hb H3 e3 => ?_)
  · rw [dv, db] at hb
    rw [if_pos (show (decide ((0 : Int) ∈ ns) != decide ((size - signs) * (size - signs - 1) / 2 % 2 = 1)) = true from hb)] at q
    exact s_ret (by walk_at "ev") fun H4 e4 => q H4 (by walk_at "ex")
  rw [dv, db] at hb
  rw [if_neg (by show ¬ (!(decide ((0 : Int) ∈ ns) == decide ((size - signs) * (size - signs - 1) / 2 % 2 = 1))) = true; rw [hb]; decide)] at q
  refine q_when (by walk_at "et") (fun hb H4 e4 => ?_) (fun hb H4 e4 => ?_)
  · have s1 : size = 1 := by simpa using hb
    rw [if_pos s1] at q
    refine s_ret (ev_op (lenE ((e2.trans e3).trans e4) rfl) ev_c (rv_eq rfl)) fun H5 e5 => ?_
    rw [dv]
    have e : decide ((ns.length : Int) = 0) = decide (ns.length = 0) := decide_eq_decide.mpr (by omega)
    rw [e]
    exact q H5 (by walk_at "ex")
  have s1 : size ≠ 1 := by simpa using hb
  rw [if_neg s1] at q
  refine q_when (by walk_at "et") (fun hb H5 e5 => ?_) (fun hb H5 e5 => ?_)
  · have s2 : size = 2 := by simpa using hb
    rw [if_pos s2] at q
    have nn : (0 - n) ≠ 0 ∧ (0 - n).natAbs < BD := ⟨by omega, by omega⟩
    refine s_ret (ev_op (ev_lenN (el_filt (fun p => isSqB (0 - n) p) (ev_var rfl) (sq_of ((((e2.trans e3).trans e4).trans e5) _ _ hm1)) (by omega) (fun x => rfl) (fun x => rfl) (fun x H6 e6 hx => et_B (ev_call (ea_cons (by walk_at "ev") (ea_cons (ev_var rfl) ea_nil)) (spv_is_square_at nn (ok.p x hx)))))) ev_c (rv_eq rfl)) fun H6 e6 => ?_
    rw [dv, List.length_map]
    have e : decide (((ns.filter fun p => isSqB (0 - n) p).length : Int) = 0) = decide ((ns.filter fun p => isSqB (0 - n) p).length = 0) := decide_eq_decide.mpr (by omega)
    rw [e]
    exact q H6 (by walk_at "ex")
  · have s2 : size ≠ 2 := by simpa using hb
    rw [if_neg s2] at q
    exact s_ret (by walk_at "ev") fun H6 e6 => q H6 (by walk_at "ex")
theorem r_first_number (K : PySem.W.Frag) : ∀ vs H Q E, sp_first_number vs H Q E → t_first_number K { nx := fun _ H' => Q .non H', rt := Q } (start names_first_number vs) H := by
  rintro vs H Q E ⟨size, signs, n, rfl, d, q⟩
  have n0 := d.ne0
  have nl := d.le
  have cd : CDiv 30030 (n.natAbs : Int) := ⟨by omega, by omega⟩
  refine q_asg (by walk_at "ev") fun H1 e1 => ?_
  refine q_ifSet (by walk_at "et") (fun _ => by walk_at "ev") (fun _ => rfl) fun H2 e2 => ?_
  rw [v_ite]
  have e : (if decide (V.int size = V.int 3) = true then (30030 : Int) / (n.natAbs : Int) else 1) = if size = 3 then 30030 / (n.natAbs : Int) else 1 := app_if (by rw [dv, decide_eq_true_iff])
  rw [e]
  unfold firstN at q
  generalize (if size = 3 then (30030 : Int) / (n.natAbs : Int) else 1) = a at *
  refine q_when (by walk_at "et") (fun hb H3 e3 => ?_) (fun hb H3 e3 => ?_)
  · have s0 : signs = 0 := by simpa using hb
    rw [if_pos s0] at q
    exact s_ret (by walk_at "ev") fun H4 e4 => q H4 (by walk_at "ex")
  · have s0 : signs ≠ 0 := by simpa using hb
    rw [if_neg s0] at q
    exact s_ret (by walk_at "ev") fun H4 e4 => q H4 (by walk_at "ex")
theorem mem_P7 {f : Int → Bool} {p : Int} (hp : p ∈ P7) : decide (p ∈ P7.filter f) = f p := by
  cases e : f p with
  | true => exact decide_eq_true (List.mem_filter.mpr ⟨hp, e⟩)
  | false => exact decide_eq_false fun m => by rw [(List.mem_filter.mp m).2] at e; cases e
theorem P7_ok {p : Int} (hp : p ∈ P7) : PlOk p := by
  simp only [P7, List.mem_cons, List.not_mem_nil, or_false] at hp
  unfold PlOk
  omega
theorem spv_fpt {a b : Int} {H : Hp} (sa : SqF a.natAbs) (sb : SqF b.natAbs) (ab : a.natAbs < 1073741824) (bb : b.natAbs < 1073741824) : SpV sp_fpt ([.int a, .int b] ++ []) H (.int (ft a b)) :=
  spv fun H1 Q E q => ⟨a, b, rfl, sa, sb, ab, bb, q⟩
theorem P7_len (f : Int → Bool) : (P7.filter f).length ≤ 7 := List.length_filter_le f P7
theorem r_wish_behind (K : PySem.W.Frag) (aS : Addr) (hS : WTup K aS P6) : ∀ vs H Q E, sp_wish_behind vs H Q E → t_wish_behind K aS { nx := fun _ H' => Q .non H', rt := Q } (start names_wish_behind vs) H := by
  rintro vs H Q E ⟨t, m, size, signs, n, a, f, rfl, w, dn, da, q⟩
  have nl := dn.le
  have al := da.le
  have dl := ft_D da dn
  have ll := dl.le
  refine q_asgV4 rfl w.t ?_
  refine q_asg (ev_call (by walk_at "ea") (spv_fpt da.sqf dn.sqf (by omega) (by omega))) fun H1 e1 => ?_
  have hm1 := e1 _ _ w.m
  have ha : a ≠ 0 ∧ a.natAbs < BD := ⟨da.ne0, by unfold BD; omega⟩
  have hl : ft a n ≠ 0 ∧ (ft a n).natAbs < BD := ⟨dl.ne0, by unfold BD; omega⟩
  generalize ft a n = left at *
  refine q_asgL (el_filtT (a := aS) (r := P7) (fun p => f p ^^ hb p a left) (eu_catT hS (by decide) (by decide)) (by decide) (fun x => rfl) (fun x => rfl) (fun x H2 e2 hx => ?_)) fun z H2 nz0 e2 hz => ?_
  · have e : (!decide (V.bl (decide (x ∈ P7.filter f)) = V.bl (!saysB a left x))) = (f x ^^ hb x a left) := by
      rw [mem_P7 hx, db]
      unfold hb
      cases f x <;> cases saysB a left x <;> rfl
    rw [← e]
    exact et_test (ev_op (ev_inI (ev_var rfl) (ev_var rfl) (e2 _ _ hm1)) (ev_notV (ev_call (by walk_at "ea") (spv_says ha hl (P7_ok hx)))) (rv_ne rfl))
  · refine s_retU (eu_tup (by walk_at "ea") (by simp)) fun t' H3 nt e3 ht => ?_
    refine q t' z H3 (by walk_at "ex") (fresh_back e1 nz0) ⟨?_, e3 _ _ hz⟩
    rw [ht]
    have e : (if decide (0 < a) = true then (1 : Int) else 0) = if 0 < a then 1 else 0 := app_if (by rw [decide_eq_true_iff])
    rw [e]

theorem spl_kinds {p : Int} {H : Hp} (hp : p ∈ P6) : SpL sp_kinds_at ([.int p] ++ []) H ((kinds p).map V.int) := fun H1 _ Q q E => ⟨p, rfl, hp, q⟩
theorem kinds_len (p : Int) : (kinds p).length ≤ 40000 := by
  unfold kinds
  by_cases c : p = 2
  · rw [if_pos c]; decide
  · rw [if_neg c]; show 4 ≤ 40000; decide
theorem tM_ex {signs n : Int} {f : Int → Bool} (c : Can 2 signs n f) : ∃ tM : Int → Int, ∀ p ∈ P6, (∃ rest, (kinds p).filter (fun t => saysB t (0 - n) p == !f p) = tM p :: rest) ∧ tM p ≠ 0 ∧ (tM p).natAbs < 1000 ∧ saysB (tM p) (0 - n) p = !f p := by
  have each : ∀ p, ∃ t, p ∈ P6 → (∃ rest, (kinds p).filter (fun t => saysB t (0 - n) p == !f p) = t :: rest) ∧ t ≠ 0 ∧ t.natAbs < 1000 ∧ saysB t (0 - n) p = !f p := by
    intro p
    by_cases hp : p ∈ P6
    · obtain ⟨t, ht, e⟩ := kinds_ex c hp
      have m : t ∈ (kinds p).filter (fun t => saysB t (0 - n) p == !f p) := List.mem_filter.mpr ⟨ht, by rw [e]; simp⟩
      cases h : (kinds p).filter (fun t => saysB t (0 - n) p == !f p) with
      | nil => rw [h] at m; cases m
      | cons a r =>
        have ma : a ∈ (kinds p).filter (fun t => saysB t (0 - n) p == !f p) := by rw [h]; exact List.mem_cons_self
        obtain ⟨m1, m2⟩ := List.mem_filter.mp ma
        have := kinds_ne0 p hp a m1
        exact ⟨a, fun _ => ⟨⟨r, rfl⟩, this.1, this.2, eq_of_beq m2⟩⟩
    · exact ⟨0, fun h => absurd h hp⟩
  exact ⟨fun p => Classical.choose (each p), fun p hp => Classical.choose_spec (each p) hp⟩
theorem p6_bd {p : Int} (h : p ∈ P6) : 2 ≤ p ∧ p < 1073741824 := by
  simp only [P6, List.mem_cons, List.not_mem_nil, or_false] at h
  omega
theorem r_two_with (K : PySem.W.Frag) (aS : Addr) (hS : WTup K aS P6) : ∀ vs H Q E, sp_two_with vs H Q E → t_two_with K aS { nx := fun _ H' => Q .non H', rt := Q } (start names_two_with vs) H := by
  rintro vs H Q E ⟨signs, n, m, f, rfl, hm, can, q⟩
  obtain ⟨tM, htM⟩ := tM_ex can
  have dn := can.d
  have n0 := dn.ne0
  have nl := dn.le
  have hn : (0 - n) ≠ 0 ∧ (0 - n).natAbs < BD := ⟨by omega, by unfold BD; omega⟩
  have rest : ∀ (c0 : Int) (z : Addr) (H1 : Hp), c0 = (if signs = 0 then -1 else 1) → Own H H1 z → H1 z = some (.lst [.int c0]) →
      (tSeq (tFor (iTup K (tC (.ref aS))) (gName 4) (tSeq (tAsg (tLc (iList K (tCall sp_kinds_at [] E0 (tCons (tVar 4) tNil))) (gName 6) (tTest (tOp rEq (tCall sp_says [] E0 (tCons (tVar 6) (tCons (tOp kSub (tC (.int 0)) (tVar 1)) (tCons (tVar 4) tNil)))) (tOp (rIn K true) (tVar 4) (tVar 2)))) (tVar 6) [6]) (gName 5)) (tDrop (tBM K "list" rAppend (tVar 3) (tCons (tCall sp_class_at [] E0 (tCons (tOp (rIxL K) (tVar 5) (tC (.int 0))) (tCons (tVar 4) tNil))) tNil))))) (tSeq (tAsg (tCall sp_number_with [] E0 (tCons (tVar 3) tNil)) (gName 7)) (tRet (tLst (tCons (tVar 7) (tCons (tCall sp_fpt [] E0 (tCons (tVar 7) (tCons (tVar 1) tNil))) tNil))))))
        { nx := fun _ H' => Q .non H', rt := Q } [some (.int signs), some (.int n), some (.ref m), some (.ref z), none, none, none, none] H1 := by
    intro c0 z H1 hc0 ow hz
    have mz : m ≠ z := fun e => by
      subst e
      rw [ow.new] at hm
      cases hm
    refine q_forT (xs := P6.map V.int) ev_c (hS H1) (fun i σ' H' => ∃ (as : List Addr) (o4 o5 : Option V), σ' = [some (.int signs), some (.int n), some (.ref m), some (.ref z), o4, o5, none, none] ∧ Own H H' z ∧
      H' z = some (.lst (.int c0 :: as.map V.ref)) ∧ as.length = i ∧ ∀ (j : Nat) (a : Addr) (p : Int), as[j]? = some a → P6[j]? = some p → H' a = some (.tup [.int (cv p (tM p)).1, .int (cv p (tM p)).2])) ?_ ?_ ?_ ?_
    · intro H2 e2
      refine ⟨[], none, none, rfl, ow.on e2, e2 _ _ hz, rfl, fun j a p h => ?_⟩
      cases h
    · intro i σ' H' _ _
      exact hS H'
    · rintro i x σ' H2 hx ⟨as, o4, o5, rfl, ow2, hz2, la, has⟩
      have n6 : i < 6 := by
        have := (List.getElem?_eq_some_iff.mp hx).1
        simpa [P6] using this
      obtain ⟨p, hp, pm, hpv⟩ := six_at n6
      rw [hpv] at hx
      cases hx
      obtain ⟨⟨rs, hrs⟩, t0, tb, ts⟩ := htM p pm
      have pb := p6_bd pm
      have p7 := (p6_eu pm).2
      have hm2 := ow2.ex _ _ hm
      refine q_asgP (ep_filt (P := fun _ r => r = kinds p) (fun t => saysB t (0 - n) p == !f p)
        (ep_imp (ep_ofL (el_call (ea_cons (ev_var rfl) ea_nil) (spl_kinds pm))) (fun A v B h => by
          obtain ⟨a, rfl, _, ha⟩ := h
          exact ⟨a, kinds p, rfl, ha, kinds_len p, rfl⟩)) (fun _ _ _ _ h => h) (fun _ => rfl) (fun _ => rfl) (fun A r x H3 hr e3 hx => ?_)) fun v H3 e3 hP => ?_
      · subst hr
        obtain ⟨x0, xb⟩ := kinds_ne0 p pm x hx
        have e : decide (V.bl (saysB x (0 - n) p) = V.bl (!decide (p ∈ P7.filter f))) = (saysB x (0 - n) p == !f p) := by
          rw [mem_P7 p7, db]
        rw [← e]
        exact et_test (ev_op (ev_call (ea_cons (ev_var rfl) (ea_cons (by walk_at "ev") (ea_cons (ev_var rfl) ea_nil))) (spv_says ⟨x0, by unfold BD; omega⟩ hn (P7_ok p7))) (ev_notInI (ev_var rfl) (ev_var rfl) (e3 _ _ hm2)) (rv_eq rfl))
      · obtain ⟨w, r, rfl, nw, hw, _, rfl⟩ := hP
        rw [hrs] at hw
        refine s_appU (e3 _ _ hz2) (ev_var rfl) (eu_call (ea_cons (ev_op (ev_var rfl) ev_c (rv_ixL (sq_of hw) (atI_nat (j := 0) rfl))) (ea_cons (ev_var rfl) ea_nil)) (spu_class (k := tM p) (p := p) ⟨t0, by unfold BD; omega⟩ pb)) (by rw [List.length_cons, List.length_map]; omega) fun a H4 na e4 ha => ?_
        have hz4 := (e3.trans e4) _ _ hz2
        have az : ∀ {b : Addr} {us : List V}, H4 b = some (.tup us) → b ≠ z := fun h e => by
          subst e
          rw [hz4] at h
          cases h
        refine ⟨as ++ [a], some (.int p), some (.ref w), rfl, ((ow2.on e3).on e4).put, ?_, ?_, ?_⟩
        · rw [upd_same, List.map_append]; rfl
        · rw [List.length_append, la]; rfl
        · intro j b p' hb hp'
          by_cases c : j < as.length
          · rw [List.getElem?_append_left c] at hb
            have h4 := (e3.trans e4) _ _ (has j b p' hb hp')
            rw [upd_ne (az h4)]; exact h4
          · rw [List.getElem?_append_right (by omega)] at hb
            have j0 : j - as.length = 0 := by
              have := (List.getElem?_eq_some_iff.mp hb).1
              rw [List.length_singleton] at this
              omega
            rw [j0] at hb
            cases hb
            have ji : j = i := by omega
            subst ji
            rw [hp] at hp'
            cases hp'
            rw [upd_ne (az ha)]; exact ha
    · rintro σ' H2 ⟨as, o4, o5, rfl, ow2, hz2, la, has⟩
      have hcl : Clss H2 z c0 (fun p => cv p (tM p)) := ⟨as, hz2, la, has⟩
      have hs : c0 = 1 ∨ c0 = -1 := by
        rw [hc0]
        by_cases c : signs = 0
        · rw [if_pos c]; exact .inr rfl
        · rw [if_neg c]; exact .inl rfl
      have cw : CW c0 (fun p => cv p (tM p)) := cv_cw hs (fun p hp => (htM p hp).2.1) (fun p hp => rfl)
      refine q_asgC (ea_cons (ev_var rfl) ea_nil) fun H3 e3 => ⟨z, c0, _, rfl, hcl.ex' e3, cw, fun A H4 e4 hnum => ?_⟩
      dsimp only [gName]
      obtain ⟨good, sA, bA⟩ := two_good can hc0 (fun p hp => ⟨(htM p hp).2.1, (htM p hp).2.2.2⟩) (fun p hp => rfl) hnum
      have ev7 : Ev (tVar 7) [some (.int signs), some (.int n), some (.ref m), some (.ref z), o4, o5, none, some (.int A)] H4 (.int A) := ev_var rfl
      have ev1 : Ev (tVar 1) [some (.int signs), some (.int n), some (.ref m), some (.ref z), o4, o5, none, some (.int A)] H4 (.int n) := ev_var rfl
      refine s_retL (el_lst (ea_cons ev7 (ea_cons (ev_call (ea_cons ev7 (ea_cons ev1 ea_nil)) (spv_fpt sA dn.sqf bA (by omega))) ea_nil)) (by simp)) fun s H5 ns e5 hs5 => ?_
      have ex5 : Ex H H4 := (ow2.ex.trans e3).trans e4
      exact q s [A, ft A n] H5 (ex5.trans e5) (fresh_back ex5 ns) hs5 good
  refine q_asgL (el_lst (by walk_at "ea") (by simp)) fun z H1 nz0 e1 hz => ?_
  refine q_when (by walk_at "et") (fun hb H2 e2 => ?_) (fun hb H2 e2 => ?_)
  · have s0 : signs = 0 := by simpa using hb
    refine s_asgL (el_lst (by walk_at "ea") (by simp)) fun z' H3 nz' e3 hz' => ?_
    exact rest (-1) z' H3 (by rw [if_pos s0]) ⟨fresh_back (e1.trans e2) nz', (e1.trans e2).trans e3⟩ hz'
  · have s0 : ¬ signs = 0 := by simpa using hb
    exact rest 1 z H2 (by rw [if_neg s0]) ⟨nz0, e1.trans e2⟩ (e2 _ _ hz)
section
variable {K : PySem.W.Frag} {σ : L2.St} {H : Hp} {ta tb : TE}
theorem ep_sorted {ns : List Int} (h : EvL ta σ H (ns.map V.int)) (hl : ns.length < 64) : EvP (tCB (rSorted K) (tCons ta tNil)) σ H fun A v B => ∃ (p : Addr) (ns' : List Int), v = .ref p ∧ A p = none ∧ B p = some (.lst (ns'.map V.int)) ∧ ns'.Perm ns := fun H1 e Q q =>
  h H1 e _ fun a H2 na e2 ha => ⟨a, ns, rfl, sq_of ha, hl, fun ns' p hp _ hn => q _ _ (e2.trans (Ex.new hn)) ⟨p, ns', rfl, fresh_back e2 hn, upd_same, hp⟩⟩
end
theorem ev_opPP {σ : L2.St} {H : Hp} {ta tb : TE} {v : V} {r : R2} {P P' : V → Prop} (ha : EvP ta σ H fun _ v _ => P v) (hb : EvP tb σ H fun _ v _ => P' v) (hr : ∀ x y H', P x → P' y → RV r x y H' v) : Ev (tOp r ta tb) σ H v := fun H1 e Q q =>
  ha H1 e _ fun x H2 e2 p => hb H2 (e.trans e2) _ fun y H3 e3 p' => hr x y H3 p p' H3 (Ex.refl _) Q fun H4 e4 => q H4 ((e2.trans e3).trans e4)
theorem spv_can {t m : Addr} {size signs n : Int} {ns : List Int} {H : Hp} (w : Wsh H t m size signs n ns) (ok : WOk size signs n ns) : SpV sp_can_be ([.ref t] ++ []) H (.bl (canB size signs n ns)) :=
  fun H1 e Q q E => ⟨t, m, size, signs, n, ns, rfl, w.ex e, ok, q⟩
theorem r_built (K : PySem.W.Frag) : ∀ vs H Q E, sp_built vs H Q E → t_built K { nx := fun _ H' => Q .non H', rt := Q } (start names_built vs) H := by
  rintro vs H Q E ⟨t, m, size, signs, n, ns, rfl, w, ok, hq⟩
  refine q_when (et_not (et_B (ev_call (by walk_at "ea") (spv_can w ok)))) (fun hb H1 e1 => ?_) (fun hb H1 e1 => ?_)
  · rcases hq with ⟨_, q⟩ | ⟨f, rfl, can, _⟩
    · exact s_ret (by walk_at "ev") fun H2 e2 => q H2 (by walk_at "ex")
    · rw [can.can] at hb
      cases hb
  rcases hq with ⟨c, _⟩ | ⟨f, rfl, can, q⟩
  · rw [c] at hb
    cases hb
  refine q_asgL (el_lst ea_nil (by simp)) fun l H2 nl e2 hl => ?_
  have ow : Own H H2 l := ⟨fresh_back e1 nl, e1.trans e2⟩
  have ixT : ∀ {σ : L2.St} {H' : Hp} {t' m' : Addr} {s' g' n' : Int} {ns' : List Int}, Wsh H' t' m' s' g' n' ns' → σ[0]? = some (some (.ref t')) →
      Ev (tOp (rIxT K) (tVar 0) (tC (.int 0))) σ H' (.int s') ∧ Ev (tOp (rIxT K) (tVar 0) (tC (.int 1))) σ H' (.int g') ∧ Ev (tOp (rIxT K) (tVar 0) (tC (.int 2))) σ H' (.int n') ∧ Ev (tOp (rIxT K) (tVar 0) (tC (.int 3))) σ H' (.ref m') := fun w h =>
    ⟨ev_op (ev_var h) ev_c (rv_ixT (st_of w.t) (atI_nat (j := 0) rfl)), ev_op (ev_var h) ev_c (rv_ixT (st_of w.t) (atI_nat (j := 1) rfl)), ev_op (ev_var h) ev_c (rv_ixT (st_of w.t) (atI_nat (j := 2) rfl)), ev_op (ev_var h) ev_c (rv_ixT (st_of w.t) (atI_nat (j := 3) rfl))⟩
  have ml : m ≠ l := fun e => by
    subst e
    have h := w.m
    rw [ow.new] at h
    cases h
  refine q_wh (fun k σ' H' => ∃ (t' m' : Addr) (size' signs' n' : Int) (f' : Int → Bool) (pre : List Int) (o2 : Option V), σ' = [some (.ref t'), some (.ref l), o2] ∧ Own H H' l ∧ H' l = some (.lst (pre.map V.int)) ∧ Wsh H' t' m' size' signs' n' (P7.filter f') ∧
    m' ≠ l ∧ Can size' signs' n' f' ∧ (pre.length : Int) + size' = size ∧ (∀ r', Good size' signs' n' f' r' → Good size signs n f (pre ++ r')) ∧ k = size'.toNat) size.toNat
    ⟨t, m, size, signs, n, f, [], none, rfl, ow, hl, w.ex (e1.trans e2), ml, can, by simp, fun r' g => g, rfl⟩ ?_
  rintro k σ' H' ⟨t', m', size', signs', n', f', pre, o2, rfl, ow', hl', w', ml', can', hsz, hg, rfl⟩
  obtain ⟨i0, i1, i2, i3⟩ := ixT (σ := [some (V.ref t'), some (V.ref l), o2]) w' rfl
  have slo := can'.lo
  have shi := can.hi
  have preL : pre.length ≤ 8 := by omega
  refine wst (b := decide (2 < size')) ?_ (fun hb H3 e3 => ?_) (fun hb H3 e3 => ?_)
  · exact et_test (ev_op i0 ev_c rv_I0)
  · have s3 : 3 ≤ size' := by
      have := of_decide_eq_true hb
      omega
    refine q_asg (ev_call (ea_cons (i0.mono e3) (ea_cons (i1.mono e3) (ea_cons (i2.mono e3) ea_nil))) (spv fun H4 Q4 E4 q4 => ⟨size', signs', n', rfl, can'.d, q4⟩)) fun H4 e4 => ?_
    have hl4 := (e3.trans e4) _ _ hl'
    refine q_app hl4 (ev_var rfl) (ev_var rfl) (by rw [List.length_map]; omega) fun H5 e5 => ?_
    have w5 := w'.ex ((e3.trans e4).trans e5)
    have hl5 := e5 _ _ hl4
    have tl : t' ≠ l := fun e => by
      subst e
      have := w5.t
      rw [hl5] at this
      cases this
    have w6 : Wsh (upd H5 l (.lst (pre.map V.int ++ [V.int (firstN size' signs' n')]))) t' m' size' signs' n' (P7.filter f') := ⟨by rw [upd_ne tl]; exact w5.t, by rw [upd_ne ml']; exact w5.m⟩
    have cs := can_step can' s3 rfl
    refine s_asgC (ea_cons (ev_var rfl) (ea_cons (ev_var rfl) ea_nil)) fun H6 e6 => ⟨t', m', size', signs', n', firstN size' signs' n', f', rfl, w6.ex e6, can'.d, firstN_D can'.d, fun t2 m2 H7 e7 nm w7 => ?_⟩
    dsimp only [gName]
    have hl6 : H6 l = some (.lst ((pre ++ [firstN size' signs' n']).map V.int)) := by
      rw [List.map_append]
      exact e6 _ _ upd_same
    refine ⟨(size' - 1).toNat, by omega, t2, m2, _, _, _, _, pre ++ [firstN size' signs' n'], some (.int (firstN size' signs' n')), rfl, ((((ow'.on ((e3.trans e4).trans e5)).put).on e6).on e7), e7 _ _ hl6, w7, ?_, cs, ?_, ?_, rfl⟩
    · rintro rfl
      rw [hl6] at nm
      cases nm
    · rw [List.length_append, List.length_singleton]
      omega
    · intro r' g
      rw [List.append_assoc]
      exact hg _ (Good.step (firstN_D can'.d) can'.d rfl g)
  · have s2 : size' ≤ 2 := by
      have := of_decide_eq_false hb
      omega
    have hl3 := e3 _ _ hl'
    refine q_when (b := decide (V.int size' = V.int 1)) (et_test (ev_op (i0.mono e3) ev_c (rv_eq rfl))) (fun hb4 H4 e4 => ?_) (fun hb4 H4 e4 => ?_)
    · have s1 : size' = 1 := by simpa using hb4
      refine s_retL (el_catVL (ev_var rfl) (e4 _ _ hl3) (el_lst (ea_cons (i2.mono (e3.trans e4)) ea_nil) (by simp)) (by rw [List.length_map]; simp; omega)) fun s H5 nss e5 hs => ?_
      have exx : Ex H H4 := ow'.ex.trans (e3.trans e4)
      refine q s (pre ++ [n']) H5 (exx.trans e5) (fresh_back exx nss) ?_ (hg _ (Good.one can' s1))
      rw [List.map_append]; exact hs
    · have s1 : ¬ size' = 1 := by simpa using hb4
      have se : size' = 2 := by omega
      subst se
      have w4 := w'.ex (e3.trans e4)
      refine s_retP (ep_catVP (P := fun _ zs => ∃ r, zs = r.map V.int ∧ Good 2 signs' n' f' r) (ev_var rfl) (e4 _ _ hl3)
        (ep_call (ea_cons (i1.mono (e3.trans e4)) (ea_cons (i2.mono (e3.trans e4)) (ea_cons (i3.mono (e3.trans e4)) ea_nil))) (fun H5 e5 Q5 q5 E5 => ⟨signs', n', m', f', rfl, e5 _ _ w4.m, can', fun s r H6 e6 nss hs g => q5 _ H6 e6 ⟨s, r.map V.int, rfl, hs, by
          have := g.len
          rw [List.length_map, List.length_map]
          omega, r, rfl, g⟩⟩)) (by intro A B zs _ h; exact h)) fun v H5 e5 hP => ?_
      obtain ⟨s, zs, rfl, nss, hs, r, rfl, g⟩ := hP
      have exx : Ex H H4 := ow'.ex.trans (e3.trans e4)
      refine q s (pre ++ r) H5 (exx.trans e5) (fresh_back exx nss) ?_ (hg _ g)
      rw [List.map_append]; exact hs
theorem inV_sub {ns ms : List Int} (h : ∀ p ∈ ns, p ∈ ms) : (ns.filter fun p => !decide (p ∈ ms)) = [] := by
  rw [List.filter_eq_nil_iff]
  intro p hp
  rw [decide_eq_true (h p hp)]
  decide
theorem spv_signs {l : Addr} {r : List Int} {H : Hp} (hl : H l = some (.lst (r.map V.int))) (ok : RowOk r) : SpV sp_signs_of ([.ref l] ++ []) H (.int (posc r : Int)) := fun H1 e Q q E => ⟨l, r, rfl, e _ _ hl, ok, q⟩
theorem r_parting (K : PySem.W.Frag) : ∀ vs H Q E, sp_parting vs H Q E → t_parting K { nx := fun _ H' => Q .non H', rt := Q } (start names_parting vs) H := by
  rintro vs H Q E ⟨l, m, r, s, rfl, hl, hm, rok, sok, lk', q⟩
  refine q_asgC (ea_cons (ev_var rfl) ea_nil) fun H1 e1 => ⟨l, r, rfl, e1 _ _ hl, rok, fun a ns H2 e2 na ha nl hns => ?_⟩
  dsimp only [gName]
  have x2 := e1.trans e2
  refine q_asgC (ea_cons (ev_var rfl) ea_nil) fun H3 e3 => ⟨m, s, rfl, (x2.trans e3) _ _ hm, sok, fun b ms H4 e4 nb hb ml hms => ?_⟩
  dsimp only [gName]
  have x4 := (x2.trans e3).trans e4
  have ha4 := (e3.trans e4) _ _ ha
  have hl4 := x4 _ _ hl
  have hm4 := x4 _ _ hm
  have r0 : ∀ a ∈ r, a ≠ 0 := fun a h => (rok.el a h).1
  have s0 : ∀ a ∈ s, a ≠ 0 := fun a h => (sok.el a h).1
  have same : ∀ p, p ∈ ns ↔ p ∈ ms := fun p => by
    rw [hns, hms]
    exact ⟨fun h => noes_same r0 s0 lk'.nzs lk'.br h.1 h.2, fun h => noes_same s0 r0 (fun p hp => (lk'.nzs p hp).symm) lk'.bs h.1 h.2⟩
  have lenE : ∀ {σ : L2.St} {H2 : Hp} {i : Nat} {a : Addr} {r : List Int}, H2 a = some (.lst (r.map V.int)) → σ[i]? = some (some (V.ref a)) → Ev (tCB (rLenS K) (tCons (tVar i) tNil)) σ H2 (.int (r.length : Int)) := fun h hi => by
    have := ev_len (K := K) (ev_var hi) (sq_of h)
    rwa [List.length_map] at this
  refine q_when (et_test (ev_op (lenE hl4 rfl) (lenE hm4 rfl) (rv_ne rfl))) (fun hb5 H5 e5 => ?_) (fun _ H5 e5 => ?_)
  · rw [lk'.len] at hb5
    simp at hb5
  refine q_when (et_test (ev_op (ev_call (ea_cons (ev_var rfl) ea_nil) (spv_signs (e5 _ _ hl4) rok)) (ev_call (ea_cons (ev_var rfl) ea_nil) (spv_signs (e5 _ _ hm4) sok)) (rv_ne rfl))) (fun hb6 H6 e6 => ?_) (fun _ H6 e6 => ?_)
  · rw [lk'.pos] at hb6
    simp at hb6
  obtain ⟨n, t, z, t0, z0, n0, en, em⟩ := lk'.num
  have x6 := e5.trans e6
  have num : Ev (tOp rNe (tCall sp_fpr [] E0 (tCons (tVar 0) tNil)) (tCall sp_fpr [] E0 (tCons (tVar 1) tNil))) [some (V.ref l), some (V.ref m), some (V.ref a), some (V.ref b), none, none] H6 (.bl false) := by
    have sq2 : ∀ {i : Nat} {c : Addr} {r : List Int}, H4 c = some (.lst (r.map V.int)) → RowOk r → [some (V.ref l), some (V.ref m), some (V.ref a), some (V.ref b), none, none][i]? = some (some (V.ref c)) → EvP (tCall sp_fpr [] E0 (tCons (tVar i) tNil)) [some (V.ref l), some (V.ref m), some (V.ref a), some (V.ref b), none, none] H6 fun _ v _ => ∃ g : Int, v = .int g ∧ SqF g.natAbs ∧ ∃ t, t ≠ 0 ∧ prod r = g * (t * t) := by
      intro i c r h ok hi
      exact ep_call (ea_cons (ev_var hi) ea_nil) (fun H7 e7 Q7 q7 E7 => ⟨c, r, rfl, (x6.trans e7) _ _ h, by have := ok.hi; omega, ok.el, fun g H9 e9 sg tg => q7 _ H9 e9 ⟨g, rfl, sg, tg⟩⟩)
    refine ev_opPP (sq2 (i := 0) hl4 rok rfl) (sq2 (i := 1) hm4 sok rfl) ?_
    rintro x y H' ⟨g, rfl, sg, t1, t10, eg⟩ ⟨g', rfl, sg', t2, t20, eg'⟩
    have e : g = g' := by
      refine sqf_uniq sg sg' (Int.mul_ne_zero t10 z0) (Int.mul_ne_zero t20 t0) ?_
      have h1 : g * (t1 * z * (t1 * z)) = g * (t1 * t1) * (z * z) := by ac_rfl
      have h2 : g' * (t2 * t * (t2 * t)) = g' * (t2 * t2) * (t * t) := by ac_rfl
      rw [h1, h2, ← eg, ← eg', en, em]
      ac_rfl
    subst e
    have rv := (rv_ne rfl : RV rNe (.int g) (.int g) H' (.bl (!decide (V.int g = V.int g))))
    rwa [decide_eq_true rfl] at rv
  refine q_when (et_test num) (fun hb7 => by cases hb7) (fun _ H7 e7 => ?_)
  have ha7 := (x6.trans e7) _ _ ha4
  have hb7 := (x6.trans e7) _ _ hb
  have f1 : EvL (tLc (iList K (tVar 2)) (gName 5) (tTest (tOp (rIn K true) (tVar 5) (tVar 3))) (tVar 5) [5]) [some (V.ref l), some (V.ref m), some (V.ref a), some (V.ref b), none, none] H7 (([] : List Int).map V.int) := by
    rw [← inV_sub (ns := ns) (ms := ms) fun p hp => (same p).mp hp]
    exact el_filt (fun p => !decide (p ∈ ms)) (ev_var rfl) (sq_of ha7) (by omega) (fun _ => rfl) (fun _ => rfl) (fun x H8 e8 hx => et_test (ev_notInI (ev_var rfl) (ev_var rfl) (e8 _ _ hb7)))
  have f2 : EvL (tLc (iList K (tVar 3)) (gName 5) (tTest (tOp (rIn K true) (tVar 5) (tVar 2))) (tVar 5) [5]) [some (V.ref l), some (V.ref m), some (V.ref a), some (V.ref b), none, none] H7 (([] : List Int).map V.int) := by
    rw [← inV_sub (ns := ms) (ms := ns) fun p hp => (same p).mpr hp]
    exact el_filt (fun p => !decide (p ∈ ns)) (ev_var rfl) (sq_of hb7) (by omega) (fun _ => rfl) (fun _ => rfl) (fun x H8 e8 hx => et_test (ev_notInI (ev_var rfl) (ev_var rfl) (e8 _ _ ha7)))
  refine q_asgP (ep_sorted (ns := []) (el_catLL f1 f2 (by simp)) (by simp)) fun v H8 e8 hP => ?_
  obtain ⟨p, ns', rfl, np, hp, pm⟩ := hP
  have : ns' = [] := pm.eq_nil
  subst this
  refine q_when (et_test (ev_op (lenE hp rfl) ev_c rv_I0)) (fun hb9 => by cases hb9) (fun _ H9 e9 => ?_)
  exact s_ret (by walk_at "ev") fun H10 e10 => q H10 (by walk_at "ex")

/-! ### promises: the law's own functions -/
/-- an entry of a drawn row -/
def El (x : Int) : Prop := ∃ s t : Int, D s ∧ 1 ≤ t ∧ t ≤ 12 ∧ x = s * t * t
def sp_l_cell_at (K : PySem.W.Frag) : Sp := fun vs H Q _ => ∃ (a : Addr) (ns : List Int) (k : Int), vs = [.ref a, .int k] ∧ SqL K H a (ns.map V.int) ∧ 0 ≤ k ∧ ∀ c H2, Ex H H2 → Q (.int c) H2
def sp_l_big : Sp := fun vs H Q _ => ∃ c k : Int, vs = [.int c, .int k] ∧ 0 ≤ k ∧ k ≤ 100 ∧ ∀ r H2, Ex H H2 → Q (.int r) H2
def sp_l_small : Sp := fun vs H Q _ => ∃ c : Int, vs = [.int c] ∧ ∀ s H2, Ex H H2 → D s → Q (.int s) H2
def sp_l_row : Sp := fun vs H Q _ => ∃ c z : Int, vs = [.int c, .int z] ∧ 1 ≤ z ∧ z ≤ 8 ∧
  ∀ (a : Addr) (r : List Int) (H2 : Hp), Ex H H2 → H a = none → H2 a = some (.lst (r.map V.int)) → (r.length : Int) = z → (∀ x ∈ r, El x) → Q (.ref a) H2
def t_l_cell_at (K : PySem.W.Frag) : TS := (tSeq (tIfS (tTest (tOp kLt (tVar 1) (tCB (rLenS K) (tCons (tVar 0) tNil)))) (tRet (tOp (rIxL K) (tVar 0) (tVar 1))) tNext) (tRet (tC (.int 0))))
def t_l_big (K : PySem.W.Frag) : TS := (tSeq (tIfS (tTest (tOp kGe (tCB kAbs (tCons (tVar 0) tNil)) (tOp kPow (tC (.int 10)) (tC (.int 18))))) (tRet (tVar 0)) tNext) (tSeq (tAsg (tC (.int 0)) (gName 2)) (tSeq (tFor (iRng1 (tCons (tC (.int 9)) tNil)) (gName 3) (tSeq (tAsg (tOp kAdd (tOp kAdd (tOp kAdd (tOp kMod (tCB kAbs (tCons (tVar 0) tNil)) (tC (.int 2147483647))) (tOp kMul (tC (.int 97)) (tVar 1))) (tOp kMul (tC (.int 131)) (tVar 3))) (tC (.int 13))) (gName 4)) (tSeq (tAsg (tOp kMod (tOp kMul (tVar 4) (tOp kAdd (tOp kAdd (tC (.int 16807)) (tOp kMul (tVar 3) (tVar 3))) (tVar 1))) (tC (.int 2147483647))) (gName 4)) (tAsg (tOp kAdd (tOp kMul (tVar 2) (tC (.int 2147483659))) (tOp kMod (tOp kMul (tVar 4) (tC (.int 48271))) (tC (.int 2147483647)))) (gName 2))))) (tRet (tVar 2)))))
def t_l_small (K : PySem.W.Frag) : TS := (tSeq (tAsg (tOp kSub (tC (.int 1)) (tOp kMul (tC (.int 2)) (tOp kMod (tVar 0) (tC (.int 2))))) (gName 1)) (tSeq (tAsg (tOp kDiv (tVar 0) (tC (.int 2))) (gName 2)) (tSeq (tFor (iList K (tLst (tCons (tC (.int 2)) (tCons (tC (.int 3)) (tCons (tC (.int 5)) (tCons (tC (.int 7)) (tCons (tC (.int 11)) (tCons (tC (.int 13)) tNil)))))))) (gName 3) (tSeq (tIfS (tTest (tOp rEq (tOp kMod (tVar 2) (tC (.int 2))) (tC (.int 1)))) (tAsg (tOp kMul (tVar 1) (tVar 3)) (gName 1)) tNext) (tAsg (tOp kDiv (tVar 2) (tC (.int 2))) (gName 2)))) (tRet (tVar 1)))))
def t_l_row (K : PySem.W.Frag) : TS := (tSeq (tAsg (tLst tNil) (gName 2)) (tSeq (tAsg (tVar 0) (gName 3)) (tSeq (tFor (iRng1 (tCons (tVar 1) tNil)) (gName 4) (tSeq (tAsg (tC (.int 1)) (gName 5)) (tSeq (tIfS (tTest (tOp rEq (tOp kMod (tOp kDiv (tVar 3) (tC (.int 128))) (tC (.int 4))) (tC (.int 0)))) (tAsg (tOp kAdd (tC (.int 1)) (tOp kMod (tOp kDiv (tVar 3) (tC (.int 512))) (tC (.int 12)))) (gName 5)) tNext) (tSeq (tDrop (tBM K "list" rAppend (tVar 2) (tCons (tOp kMul (tOp kMul (tCall sp_l_small [] E0 (tCons (tVar 3) tNil)) (tVar 5)) (tVar 5)) tNil))) (tAsg (tOp kDiv (tVar 3) (tC (.int 6144))) (gName 3)))))) (tRet (tVar 2)))))
theorem r_l_cell_at (K : PySem.W.Frag) : ∀ vs H Q E, sp_l_cell_at K vs H Q E → t_l_cell_at K { nx := fun _ H' => Q .non H', rt := Q } (start names_l_cell_at vs) H := by
  rintro vs H Q E ⟨a, ns, k, rfl, ha, k0, q⟩
  have lenE : Ev (tCB (rLenS K) (tCons (tVar 0) tNil)) (start names_l_cell_at [V.ref a, V.int k]) H (.int (ns.length : Int)) := by
    have := ev_len (K := K) (ta := tVar 0) (σ := start names_l_cell_at [V.ref a, V.int k]) (ev_var rfl) ha
    rwa [List.length_map] at this
  refine q_when (b := decide (k < (ns.length : Int))) (et_test (ev_op (ev_var rfl) lenE rv_I0)) (fun hb H1 e1 => ?_) (fun hb H1 e1 => ?_)
  · have c := of_decide_eq_true hb
    have kn : k.toNat < ns.length := by omega
    have hi : ns[k.toNat]? = some ns[k.toNat] := List.getElem?_eq_getElem kn
    refine s_ret (v := .int ns[k.toNat]) (ev_op (ev_var rfl) (ev_var rfl) (rv_ixL (ex_l e1 ha) (at_of (show k = ((k.toNat : Nat) : Int) by omega) (by rw [List.getElem?_map, hi]; rfl)))) fun H2 e2 => ?_
    exact q _ H2 (e1.trans e2)
  · refine s_ret (by walk_at "ev") fun H2 e2 => ?_
    exact q _ H2 (e1.trans e2)
theorem r_l_big (K : PySem.W.Frag) : ∀ vs H Q E, sp_l_big vs H Q E → t_l_big K { nx := fun _ H' => Q .non H', rt := Q } (start names_l_big vs) H := by
  rintro vs H Q E ⟨c, k, rfl, k0, k1, q⟩
  have cp : CPow 10 18 := ⟨by decide, by decide, by decide⟩
  have pw : ∀ {σ : L2.St} {H : Hp}, Ev (tOp kPow (tC (.int 10)) (tC (.int 18))) σ H (.int (10 ^ (18 : Int).toNat)) := ev_op ev_c ev_c (rv_I cp)
  refine q_when (b := decide ((10 : Int) ^ (18 : Int).toNat ≤ (c.natAbs : Int))) (et_test (ev_op (ev_abs (ev_var rfl)) pw rv_I0)) (fun hb H1 e1 => ?_) (fun hb H1 e1 => ?_)
  · refine s_ret (by walk_at "ev") fun H2 e2 => ?_
    exact q _ H2 (e1.trans e2)
  refine q_asg (by walk_at "ev") fun H2 e2 => ?_
  refine q_forR1 (n := 9) (by walk_at "ea") (by omega) (fun i σ' H' => ∃ (x : Int) (o3 o4 : Option V), σ' = [some (.int c), some (.int k), some (.int x), o3, o4] ∧ Ex H H') ?_ ?_ ?_
  · intro H3 e3
    exact ⟨0, none, none, rfl, (e1.trans e2).trans e3⟩
  · rintro i σ' H' hi ⟨x, o3, o4, rfl, ex⟩
    have i9 : (i : Int) ≤ 8 ∧ 0 ≤ (i : Int) := by omega
    have c1 : CMul 97 k := .inl ⟨by decide, by decide⟩
    have c2 : CMul 131 (i : Int) := .inl ⟨by decide, by decide⟩
    have c3 : CMul (i : Int) (i : Int) := .inl ⟨by omega, by omega⟩
    refine q_asg (by walk_at "ev") fun H3 e3 => ?_
    generalize (c.natAbs : Int) % 2147483647 + 97 * k + 131 * (i : Int) + 13 = y
    have ii : 0 ≤ (i : Int) * (i : Int) ∧ (i : Int) * (i : Int) ≤ 64 := by
      obtain ⟨h1, h2⟩ := i9
      constructor
      · exact Int.mul_nonneg h2 h2
      · exact Int.mul_le_mul h1 h1 h2 (by decide)
    have c4 : CMul y (16807 + (i : Int) * (i : Int) + k) := .inr ⟨by omega, by omega⟩
    refine q_asg (by walk_at "ev") fun H4 e4 => ?_
    generalize y * (16807 + (i : Int) * (i : Int) + k) % 2147483647 = z
    have c5 : CMul x 2147483659 := .inr ⟨by decide, by decide⟩
    have c6 : CMul z 48271 := .inr ⟨by decide, by decide⟩
    refine s_asg (by walk_at "ev") fun H5 e5 => ?_
    exact ⟨_, _, _, rfl, ((ex.trans e3).trans e4).trans e5⟩
  · rintro σ' H' ⟨x, o3, o4, rfl, ex⟩
    refine s_ret (by walk_at "ev") fun H2 e2 => ?_
    exact q _ H2 (ex.trans e2)
def pq (i : Nat) : Nat := ([1, 2, 6, 30, 210, 2310, 30030] : List Nat).getD i 0
theorem r_l_small (K : PySem.W.Frag) : ∀ vs H Q E, sp_l_small vs H Q E → t_l_small K { nx := fun _ H' => Q .non H', rt := Q } (start names_l_small vs) H := by
  rintro vs H Q E ⟨c, rfl, q⟩
  have c1 : CMul 2 (c % 2) := .inl ⟨by decide, by decide⟩
  refine q_asg (by walk_at "ev") fun H1 e1 => ?_
  refine q_asg (by walk_at "ev") fun H2 e2 => ?_
  refine q_forNLn (xs := P6.map V.int) (el_lst (vs := [V.int 2, V.int 3, V.int 5, V.int 7, V.int 11, V.int 13]) (by walk_at "ea") (by simp)) (fun a i σ' H' => ∃ (s b : Int) (o : Option V), σ' = [some (.int c), some (.int s), some (.int b), o] ∧ Ex H H' ∧ H' a = some (.lst (P6.map V.int)) ∧ s.natAbs ∣ pq i) ?_ ?_ ?_ ?_
  · intro a H3 na e3 ha
    refine ⟨_, _, none, rfl, (e1.trans e2).trans e3, ha, ?_⟩
    have : (1 - 2 * (c % 2)).natAbs = 1 := by omega
    rw [this]
    decide
  · rintro a i σ' H' _ ⟨_, _, _, _, _, ha, _⟩
    exact sq_of ha
  · rintro a i x σ' H' hx ⟨s, b, o, rfl, ex, ha, sd⟩
    have n6 : i < 6 := by
      have := (List.getElem?_eq_some_iff.mp hx).1
      simpa [P6] using this
    obtain ⟨p, hp, pm, hpv⟩ := six_at n6
    rw [hpv] at hx
    cases hx
    have pb : 2 ≤ p ∧ p ≤ 13 := by
      simp only [P6, List.mem_cons, List.not_mem_nil, or_false] at pm
      omega
    have st : pq (i + 1) = pq i * p.natAbs := by
      have aux : ∀ i, i < 6 → ∀ p ∈ P6, P6[i]? = some p → pq (i + 1) = pq i * p.natAbs := by decide
      exact aux i n6 p pm hp
    have cm : CMul s p := .inr ⟨by omega, by omega⟩
    refine q_when (by walk_at "et") (fun hb H3 e3 => ?_) (fun hb H3 e3 => ?_)
    · refine q_asg (by walk_at "ev") fun H4 e4 => ?_
      refine s_asg (by walk_at "ev") fun H5 e5 => ?_
      refine ⟨_, _, _, rfl, ((ex.trans e3).trans e4).trans e5, ((e3.trans e4).trans e5) _ _ ha, ?_⟩
      rw [Int.natAbs_mul, st]
      exact Nat.mul_dvd_mul_right sd _
    · refine s_asg (by walk_at "ev") fun H5 e5 => ?_
      refine ⟨_, _, _, rfl, (ex.trans e3).trans e5, (e3.trans e5) _ _ ha, ?_⟩
      rw [st]
      exact Nat.dvd_trans sd ⟨_, rfl⟩
  · rintro a σ' H' ⟨s, b, o, rfl, ex, ha, sd⟩
    refine s_ret (by walk_at "ev") fun H2 e2 => ?_
    exact q s H2 (ex.trans e2) sd
theorem ep_small {c : Int} {σ : L2.St} {H : Hp} {ta : TA} (h : EvA ta σ H [.int c]) : EvP (tCall sp_l_small [] E0 ta) σ H fun _ v _ => ∃ s, v = .int s ∧ D s :=
  ep_call h fun H1 e Q q E => ⟨c, rfl, fun s H2 e2 d => q _ H2 e2 ⟨s, rfl, d⟩⟩
theorem ep_opPV {σ : L2.St} {H : Hp} {ta tb : TE} {v : V} {r : R2} {P P' : V → Prop} (ha : EvP ta σ H fun _ v _ => P v) (hb : Ev tb σ H v) (hr : ∀ x H', P x → ∃ z, P' z ∧ RV r x v H' z) : EvP (tOp r ta tb) σ H fun _ v _ => P' v := fun H1 e Q q =>
  ha H1 e _ fun x H2 e2 p => hb H2 (e.trans e2) _ fun H3 e3 => by
    obtain ⟨z, pz, rz⟩ := hr x H3 p
    exact rz H3 (Ex.refl _) Q fun H4 e4 => q z H4 ((e2.trans e3).trans e4) pz
theorem s_appP {K : PySem.W.Frag} {D : Ends} {σ : L2.St} {H : Hp} {ta te : TE} {P : V → Prop} {l : Addr} {xs : List V} (hl : H l = some (.lst xs)) (ha : Ev ta σ H (.ref l)) (h : EvP te σ H fun _ v _ => P v) (hz : xs.length < 100000)
    (k : ∀ v H1, P v → Ex H H1 → D.nx σ (upd H1 l (.lst (xs ++ [v])))) :
    tDrop (tBM K "list" rAppend ta (tCons te tNil)) D σ H := ha H (Ex.refl H) _ fun H1 e1 =>
  ⟨Or.inl ⟨rfl, xs, sq_of (e1 l _ hl)⟩, h H1 e1 _ fun v H2 e2 p => ⟨l, xs, v, rfl, rfl, e2 l _ (e1 l _ hl), sz_lt hz, k v H2 p (e1.trans e2)⟩⟩
theorem q_appP {K : PySem.W.Frag} {D : Ends} {σ : L2.St} {H : Hp} {ta te : TE} {tz : TS} {P : V → Prop} {l : Addr} {xs : List V} (hl : H l = some (.lst xs)) (ha : Ev ta σ H (.ref l)) (h : EvP te σ H fun _ v _ => P v) (hz : xs.length < 100000)
    (k : ∀ v H1, P v → Ex H H1 → tz D σ (upd H1 l (.lst (xs ++ [v])))) :
    tSeq (tDrop (tBM K "list" rAppend ta (tCons te tNil))) tz D σ H := s_appP (D := { D with nx := tz D }) hl ha h hz k
theorem r_l_row (K : PySem.W.Frag) : ∀ vs H Q E, sp_l_row vs H Q E → t_l_row K { nx := fun _ H' => Q .non H', rt := Q } (start names_l_row vs) H := by
  rintro vs H Q E ⟨c, z, rfl, z1, z8, q⟩
  refine q_asgL (el_lst ea_nil (by simp)) fun l H1 nl e1 hl => ?_
  refine q_asg (by walk_at "ev") fun H2 e2 => ?_
  refine q_forR1 (n := z) (by walk_at "ea") (by omega) (fun i σ' H' => ∃ (r : List Int) (x : Int) (o4 o5 : Option V), σ' = [some (.int c), some (.int z), some (.ref l), some (.int x), o4, o5] ∧ Own H H' l ∧ H' l = some (.lst (r.map V.int)) ∧ r.length = i ∧ ∀ x ∈ r, El x) ?_ ?_ ?_
  · intro H3 e3
    exact ⟨[], c, none, none, rfl, ⟨nl, (e1.trans e2).trans e3⟩, (e2.trans e3) _ _ hl, rfl, fun x h => by cases h⟩
  · rintro i σ' H' hi ⟨r, x, o4, o5, rfl, ow, hl', lr, he⟩
    refine q_asg (by walk_at "ev") fun H3 e3 => ?_
    refine q_ifSet (by walk_at "et") (fun _ => by walk_at "ev") (fun _ => rfl) fun H4 e4 => ?_
    rw [v_ite]
    have tb : 1 ≤ (if decide (V.int (x / 128 % 4) = V.int 0) = true then 1 + x / 512 % 12 else 1) ∧ (if decide (V.int (x / 128 % 4) = V.int 0) = true then 1 + x / 512 % 12 else 1) ≤ 12 := by
      split <;> omega
    generalize (if decide (V.int (x / 128 % 4) = V.int 0) = true then 1 + x / 512 % 12 else 1) = t at *
    refine q_appP (P := fun v => ∃ y, v = .int y ∧ El y) ((e3.trans e4) _ _ hl') (ev_var rfl) (ep_opPV (P := fun v => ∃ s, v = .int (s * t) ∧ D s) (ep_opPV (ep_small (ea_cons (ev_var rfl) ea_nil)) (ev_var rfl) ?_) (ev_var rfl) ?_) (by rw [List.length_map]; omega) fun v H5 hv e5 => ?_
    · rintro y H5 ⟨s, rfl, d⟩
      exact ⟨_, ⟨s, rfl, d⟩, rv_I (.inr ⟨by omega, by omega⟩)⟩
    · rintro y H5 ⟨s, rfl, d⟩
      exact ⟨_, ⟨_, rfl, s, t, d, tb.1, tb.2, rfl⟩, rv_I (.inr ⟨by omega, by omega⟩)⟩
    · obtain ⟨y, rfl, hy⟩ := hv
      refine s_asg (by walk_at "ev") fun H6 e6 => ?_
      refine ⟨r ++ [y], _, _, _, rfl, ((((ow.on e3).on e4).on e5).put).on e6, ?_, by rw [List.length_append, lr]; rfl, ?_⟩
      · rw [List.map_append]
        exact e6 _ _ upd_same
      · intro x hx
        rcases List.mem_append.mp hx with h | h
        · exact he x h
        · rw [List.mem_singleton.mp h]; exact hy
  · rintro σ' H' ⟨r, x, o4, o5, rfl, ow, hl', lr, he⟩
    refine s_ret (by walk_at "ev") fun H2 e2 => ?_
    exact q l r H2 (ow.ex.trans e2) ow.new (e2 _ _ hl') (by omega) he

def sp_law (K : PySem.W.Frag) : Sp := fun vs H Q _ => ∃ (a : Addr) (ns : List Int), vs = [.ref a] ∧ SqL K H a (ns.map V.int) ∧ ns.length ≤ 63 ∧ ∀ H', Q (.bl true) H'
def t_law_body (K : PySem.W.Frag) : TS := (tSeq (tAsg (tCall sp_l_big [] E0 (tCons (tCall (sp_l_cell_at K) [] E0 (tCons (tVar 0) (tCons (tOp kAdd (tVar 1) (tC (.int 1))) tNil))) (tCons (tOp kAdd (tVar 1) (tC (.int 1))) tNil))) (gName 2)) (tSeq (tAsg (tCall sp_l_row [] E0 (tCons (tCall sp_l_big [] E0 (tCons (tCall (sp_l_cell_at K) [] E0 (tCons (tVar 0) (tCons (tVar 1) tNil))) (tCons (tVar 1) tNil))) (tCons (tOp kAdd (tC (.int 1)) (tOp kMod (tVar 2) (tC (.int 8)))) tNil))) (gName 3)) (tSeq (tAsg (tC (.int 1)) (gName 4)) (tSeq (tFor (iList K (tVar 3)) (gName 5) (tAsg (tCall sp_l_free_times [] E0 (tCons (tVar 4) (tCons (tCall sp_l_free [] E0 (tCons (tVar 5) tNil)) tNil))) (gName 4))) (tSeq (tAsg (tCB (rLenS K) (tCons (tLc (iList K (tVar 3)) (gName 5) (tTest (tOp kGt (tVar 5) (tC (.int 0)))) (tVar 5) [5]) tNil)) (gName 6)) (tSeq (tAsg (tCall sp_l_noes [] E0 (tCons (tVar 3) (tCons (tLst (tCons (tC (.int 0)) (tCons (tC (.int 2)) (tCons (tC (.int 3)) (tCons (tC (.int 5)) (tCons (tC (.int 7)) (tCons (tC (.int 11)) (tCons (tC (.int 13)) tNil)))))))) tNil))) (gName 7)) (tSeq (tAsg (tTup (tCons (tCB (rLenS K) (tCons (tVar 3) tNil)) (tCons (tVar 6) (tCons (tVar 4) (tCons (tVar 7) tNil))))) (gName 8)) (tSeq (tIfS (tOr (tNot (tB (tCall sp_can_be [] E0 (tCons (tVar 8) tNil)))) (tTest (tOp kNotN (tCall sp_parting [] E0 (tCons (tVar 3) (tCons (tCall sp_built [] E0 (tCons (tVar 8) tNil)) tNil))) (tC .non)))) (tRet (tC (.bl false))) tNext) (tSeq (tAsg (tOp (rIxL K) (tLst (tCons (tC (.int 0)) (tCons (tC (.int 2)) (tCons (tC (.int 3)) (tCons (tC (.int 5)) (tCons (tC (.int 7)) (tCons (tC (.int 11)) (tCons (tC (.int 13)) tNil)))))))) (tOp kMod (tOp kDiv (tVar 2) (tC (.int 8))) (tC (.int 7)))) (gName 9)) (tSeq (tAsg (tCB (rSorted K) (tCons (tOp rCat (tLc (iList K (tVar 7)) (gName 11) (tTest (tOp rNe (tVar 11) (tVar 9))) (tVar 11) [11]) (tOp rRep (tLst (tCons (tVar 9) tNil)) (tCB kInt1 (tCons (tOp (rIn K true) (tVar 9) (tVar 7)) tNil)))) tNil)) (gName 10)) (tSeq (tIfS (tOr (tB (tCall sp_can_be [] E0 (tCons (tTup (tCons (tCB (rLenS K) (tCons (tVar 3) tNil)) (tCons (tVar 6) (tCons (tVar 4) (tCons (tVar 10) tNil))))) tNil))) (tTest (tOp kNotN (tCall sp_built [] E0 (tCons (tTup (tCons (tCB (rLenS K) (tCons (tVar 3) tNil)) (tCons (tVar 6) (tCons (tVar 4) (tCons (tVar 10) tNil))))) tNil)) (tC .non)))) (tRet (tC (.bl false))) tNext) (tIfS (tAnd (tTest (tOp kGt (tVar 6) (tC (.int 0)))) (tTest (tOp kNotN (tCall sp_built [] E0 (tCons (tTup (tCons (tCB (rLenS K) (tCons (tVar 3) tNil)) (tCons (tOp kSub (tVar 6) (tC (.int 1))) (tCons (tVar 4) (tCons (tVar 7) tNil))))) tNil)) (tC .non)))) (tRet (tC (.bl false))) tNext))))))))))))
def t_law (K : PySem.W.Frag) : TS := (tSeq (tFor (iRng3 (tCons (tC (.int 0)) (tCons (tOp kAdd (tCB kMin2 (tCons (tC (.int 8)) (tCons (tCB (rLenS K) (tCons (tVar 0) tNil)) tNil))) (tC (.int 1))) (tCons (tC (.int 2)) tNil)))) (gName 1) (t_law_body K)) (tRet (tC (.bl true))))
/-! ### drawn rows -/
theorem sm_twelve {t : Int} (h1 : 1 ≤ t) (h2 : t ≤ 12) : Sm t ∧ t.natAbs ∣ 30030 ^ 3 := by
  have dec : ∀ m : Nat, m < 13 → 1 ≤ m → (∃ a b c : Nat, (a ∣ 30030 ∧ b ∣ 30030 ∧ c ∣ 30030) ∧ m = a * b * c) ∧ m ∣ 30030 ^ 3 := by
    intro m h1 h2
    have : m = 1 ∨ m = 2 ∨ m = 3 ∨ m = 4 ∨ m = 5 ∨ m = 6 ∨ m = 7 ∨ m = 8 ∨ m = 9 ∨ m = 10 ∨ m = 11 ∨ m = 12 := by omega
    rcases this with rfl | rfl | rfl | rfl | rfl | rfl | rfl | rfl | rfl | rfl | rfl | rfl
    · exact ⟨⟨1, 1, 1, by decide, by decide⟩, by decide⟩
    · exact ⟨⟨2, 1, 1, by decide, by decide⟩, by decide⟩
    · exact ⟨⟨3, 1, 1, by decide, by decide⟩, by decide⟩
    · exact ⟨⟨2, 2, 1, by decide, by decide⟩, by decide⟩
    · exact ⟨⟨5, 1, 1, by decide, by decide⟩, by decide⟩
    · exact ⟨⟨6, 1, 1, by decide, by decide⟩, by decide⟩
    · exact ⟨⟨7, 1, 1, by decide, by decide⟩, by decide⟩
    · exact ⟨⟨2, 2, 2, by decide, by decide⟩, by decide⟩
    · exact ⟨⟨3, 3, 1, by decide, by decide⟩, by decide⟩
    · exact ⟨⟨10, 1, 1, by decide, by decide⟩, by decide⟩
    · exact ⟨⟨11, 1, 1, by decide, by decide⟩, by decide⟩
    · exact ⟨⟨6, 2, 1, by decide, by decide⟩, by decide⟩
  obtain ⟨⟨a, b, c, ⟨ha, hb', hc⟩, e⟩, d⟩ := dec t.natAbs (by omega) (by omega)
  refine ⟨?_, d⟩
  have et : t = (a : Int) * (b : Int) * (c : Int) := by
    have h : t = (t.natAbs : Int) := by omega
    rw [h, e, Int.natCast_mul, Int.natCast_mul]
  rw [et]
  exact .mul (.mul (sm_nat ha) (sm_nat hb')) (sm_nat hc)
theorem El.sm {x : Int} (h : El x) : Sm x := by
  obtain ⟨s, t, d, t1, t2, rfl⟩ := h
  have := (sm_twelve t1 t2).1
  exact .mul (.mul d.sm this) this
theorem El.bd {x : Int} (h : El x) : x ≠ 0 ∧ x.natAbs < 1073741824 := by
  refine ⟨h.sm.ne0, ?_⟩
  obtain ⟨s, t, d, t1, t2, rfl⟩ := h
  have sl := d.le
  rw [Int.natAbs_mul, Int.natAbs_mul]
  have h1 : s.natAbs * t.natAbs ≤ 30030 * 12 := Nat.mul_le_mul sl (by omega)
  have h2 : s.natAbs * t.natAbs * t.natAbs ≤ 30030 * 12 * 12 := Nat.mul_le_mul h1 (by omega)
  omega
theorem El.pr {x : Int} (h : El x) {p : Nat} (pp : Pr p) (dv : p ∣ x.natAbs) : p ∈ SP := by
  obtain ⟨s, t, d, t1, t2, rfl⟩ := h
  have tt : ∀ {p : Nat}, Pr p → p ∣ t.natAbs → p ∈ SP := fun pp h => prs_of pp (pp.dvd_pow (Nat.dvd_trans h (sm_twelve t1 t2).2))
  rw [Int.natAbs_mul, Int.natAbs_mul] at dv
  rcases pp.euclid dv with h | h
  · rcases pp.euclid h with h | h
    · exact prs_of pp (Nat.dvd_trans h d)
    · exact tt pp h
  · exact tt pp h
theorem El.own {x : Int} (h : El x) : ∃ s t, D s ∧ t ≠ 0 ∧ x = s * (t * t) := by
  obtain ⟨s, t, d, t1, t2, rfl⟩ := h
  exact ⟨s, t, d, by omega, Int.mul_assoc _ _ _⟩
theorem row_ok {r : List Int} (h : ∀ x ∈ r, El x) (lo : 1 ≤ r.length) (hi : r.length ≤ 8) : RowOk r :=
  ⟨lo, hi, fun a ha => (h a ha).bd, 2, fun a ha p pp dv => by
    have := (h a ha).pr pp dv
    unfold SQ
    exact List.mem_append_left [2] this⟩
theorem row_big {r : List Int} (h : ∀ x ∈ r, El x) (p : Nat) (pp : Pr p) (lo : 13 < p) : nz p r = false :=
  nz_units pp (by omega) (fun b hb => (h b hb).bd.1) fun b hb dv => by
    have := (h b hb).pr pp (Int.ofNat_dvd_left.mp dv)
    simp only [SP, List.mem_cons, List.not_mem_nil, or_false] at this
    omega
theorem Good.ok {size signs n : Int} {f : Int → Bool} {r : List Int} (g : Good size signs n f r) (lo : 1 ≤ size) (hi : size ≤ 8) : RowOk r :=
  ⟨by have := g.len; omega, by have := g.len; omega, fun a ha => ⟨g.ne0 a ha, g.bd a ha⟩, g.pl⟩
theorem row_like {r s : List Int} {n t : Int} (h : ∀ x ∈ r, El x) (d : D n) (t0 : t ≠ 0) (e : prod r = n * (t * t)) (g : Good (r.length : Int) (posc r : Int) n (fun p => nz p r) s) : Like r s := by
  obtain ⟨z, z0, ez⟩ := g.sqn
  exact ⟨by have := g.len; omega, by have := g.pos; omega, ⟨n, t, z, t0, z0, d.ne0, e, ez⟩, fun p hp => (g.nzs p hp).symm, row_big h, g.big⟩
theorem wrong_odd {f : Int → Bool} (ev : xs f = false) {p : Int} (hp : p ∈ P7) {l : List Int} (hl : l.Perm ((P7.filter f).filter (fun q => !decide (q = p)) ++ (if p ∈ P7.filter f then [] else [p]))) : (l.length : Int) % 2 = 1 := by
  have e := xs_filter f
  rw [ev] at e
  have e2 := of_decide_eq_false e
  have nd : (P7.filter f).Nodup := List.Pairwise.filter _ (show P7.Nodup by decide)
  have hle := hl.length_eq
  rw [List.length_append] at hle
  have pl := nd
  by_cases c : p ∈ P7.filter f
  · rw [if_pos c] at hle
    have h1 : (P7.filter f).filter (fun q => !decide (q = p)) = (P7.filter f).erase p := by
      rw [nd.erase_eq_filter]
      apply List.filter_congr
      intro x _
      by_cases h : x = p
      · subst h; simp
      · simp [h]
    rw [h1, List.length_erase_of_mem c, List.length_nil] at hle
    have := List.length_pos_of_mem c
    omega
  · rw [if_neg c] at hle
    have h1 : (P7.filter f).filter (fun q => !decide (q = p)) = P7.filter f := List.filter_eq_self.mpr fun x hx => by
      have : x ≠ p := fun h => c (by rw [← h]; exact hx)
      simp [this]
    rw [h1, List.length_singleton] at hle
    omega
theorem wrong_in {f : Int → Bool} {p : Int} (hp : p ∈ P7) {l : List Int} (hl : l.Perm ((P7.filter f).filter (fun q => !decide (q = p)) ++ (if p ∈ P7.filter f then [] else [p]))) : l.length ≤ 8 ∧ ∀ q ∈ l, PlOk q := by
  have h1 := hl.length_eq
  have h2 := P7_len f
  have h3 := List.length_filter_le (fun q => !decide (q = p)) (P7.filter f)
  rw [List.length_append] at h1
  have h4 : (if p ∈ P7.filter f then [] else [p]).length ≤ 1 := by
    split
    · exact Nat.zero_le _
    · exact Nat.le_refl _
  refine ⟨by omega, fun q hq => ?_⟩
  rcases List.mem_append.mp (hl.mem_iff.mp hq) with h | h
  · exact P7_ok (List.mem_filter.mp (List.mem_filter.mp h).1).1
  · by_cases c : p ∈ P7.filter f
    · rw [if_pos c] at h
      cases h
    · rw [if_neg c] at h
      rw [List.mem_singleton.mp h]
      exact P7_ok hp
/-! ### calls with new arguments -/
section
variable {K : PySem.W.Frag} {σ : L2.St} {H : Hp} {ta tb te : TE} {sp : Sp} {x z w : V} {xs ys : List V}
theorem ep_callP2 {P : V → Prop} {R : Hp → V → Hp → Prop} (ha : EvP ta σ H fun _ v _ => P v) (hb : Ev tb σ H w) (hs : ∀ v H', P v → SpP sp ([v, w] ++ []) H' R) (hm : ∀ A B v C, Ex A B → R B v C → R A v C) : EvP (tCall sp [] E0 (tCons ta (tCons tb tNil))) σ H R := fun H1 e Q q =>
  ha H1 e _ fun v H2 e2 p => hb H2 (e.trans e2) _ fun H3 e3 => hs v H3 p H3 (Ex.refl _) Q (fun u H4 e4 r => q u H4 ((e2.trans e3).trans e4) (hm _ _ _ _ (e2.trans e3) r)) E0
theorem el_callVL (ha : Ev ta σ H x) (hb : EvL tb σ H xs) (hs : ∀ p H1, Ex H H1 → H1 p = some (.lst xs) → SpL sp ([x, .ref p] ++ []) H1 ys) : EvL (tCall sp [] E0 (tCons ta (tCons tb tNil))) σ H ys := fun H1 e Q q =>
  ha H1 e _ fun H2 e2 => hb H2 (e.trans e2) _ fun p H3 _ e3 hp => hs p H3 ((e.trans e2).trans e3) hp H3 (Ex.refl _) Q (fun s H4 ns e4 h4 => q s H4 (fresh_back (e2.trans e3) ns) ((e2.trans e3).trans e4) h4) E0
theorem ev_callU (h : EvU te σ H xs) (hs : ∀ p H1, Ex H H1 → H1 p = some (.tup xs) → SpV sp ([.ref p] ++ []) H1 z) : Ev (tCall sp [] E0 (tCons te tNil)) σ H z := fun H1 e Q q =>
  h H1 e _ fun p H2 _ e2 hp => hs p H2 (e.trans e2) hp H2 (Ex.refl _) Q (fun H3 e3 => q H3 (e2.trans e3)) E0
theorem ev_callVP {P : Hp → V → Hp → Prop} (ha : Ev ta σ H x) (hb : EvP tb σ H P) (hs : ∀ v H1 H2, Ex H H1 → Ex H1 H2 → P H1 v H2 → SpV sp ([x, v] ++ []) H2 z) : Ev (tCall sp [] E0 (tCons ta (tCons tb tNil))) σ H z := fun H1 e Q q =>
  ha H1 e _ fun H2 e2 => hb H2 (e.trans e2) _ fun v H3 e3 p => hs v H2 H3 (e.trans e2) e3 p H3 (Ex.refl _) Q (fun H4 e4 => q H4 ((e2.trans e3).trans e4)) E0
theorem ev_ixNew {i : Int} (ha : EvL ta σ H xs) (hb : Ev tb σ H (.int i)) (h : atI xs i = some z) : Ev (tOp (rIxL K) ta tb) σ H z := fun H1 e Q q =>
  ha H1 e _ fun p H2 _ e2 hp => hb H2 (e.trans e2) _ fun H3 e3 => rv_ixL (sq_of (e3 _ _ hp)) h H3 (Ex.refl _) Q fun H4 e4 => q H4 ((e2.trans e3).trans e4)
theorem el_rep {k : Int} (ha : EvL ta σ H xs) (hb : Ev tb σ H (.int k)) (b : -100 ≤ k ∧ k ≤ 100) (hz : xs.length * k.toNat ≤ 100000) : EvL (tOp rRep ta tb) σ H (List.replicate k.toNat xs).flatten := fun H1 e Q q =>
  ha H1 e _ fun p H2 np e2 hp => hb H2 (e.trans e2) _ fun H3 e3 => ⟨p, k, xs, rfl, rfl, e3 _ _ hp, by omega, by omega, sz_of hz, fun s ns => q s _ (fresh_back (e2.trans e3) ns) ((e2.trans e3).trans (Ex.new ns)) upd_same⟩
end
theorem spv_built_no {t m : Addr} {size signs n : Int} {ns : List Int} {H : Hp} (w : Wsh H t m size signs n ns) (ok : WOk size signs n ns) (c : canB size signs n ns = false) : SpV sp_built ([.ref t] ++ []) H .non :=
  fun H1 e Q q E => ⟨t, m, size, signs, n, ns, rfl, w.ex e, ok, .inl ⟨c, q⟩⟩
theorem spv_l_free {x s t : Int} {H : Hp} (d : D s) (t0 : t ≠ 0) (e : x = s * (t * t)) (xb : x.natAbs < 1073741824) : SpV sp_l_free ([.int x] ++ []) H (.int s) := fun H1 _ Q q E =>
  ⟨x, rfl, by rw [e]; exact Int.mul_ne_zero d.ne0 (Int.mul_ne_zero t0 t0), xb, fun g H2 e2 sg tg => by
    obtain ⟨t', t0', e'⟩ := tg
    have : g = s := sqf_uniq sg d.sqf t0' t0 (by rw [← e', ← e])
    subst this
    exact q H2 e2⟩
theorem spv_l_ft {a b : Int} {H : Hp} (a0 : a ≠ 0) (ab : a.natAbs < 1073741824) (bb : b.natAbs < 1073741824) : SpV sp_l_free_times ([.int a, .int b] ++ []) H (.int (ft a b)) := fun H1 _ Q q E => ⟨a, b, rfl, a0, ab, bb, q⟩
theorem can_wok {size signs n : Int} {f : Int → Bool} (c : Can size signs n f) : WOk size signs n (P7.filter f) := by
  have h1 := c.lo
  have h2 := c.hi
  have h3 := c.s0
  have h4 := c.s1
  have h5 := c.d.le
  have h6 := P7_len f
  exact ⟨by omega, by omega, ⟨c.d.ne0, by unfold BD; omega⟩, by omega, fun p hp => P7_ok (List.mem_filter.mp hp).1⟩

theorem ep_cell {K : PySem.W.Frag} {σ : L2.St} {H : Hp} {a : Addr} {ns : List Int} {ta : TA} {k : Int} (hs : SqL K H a (ns.map V.int)) (h : EvA ta σ H [.ref a, .int k]) (k0 : 0 ≤ k) : EvP (tCall (sp_l_cell_at K) [] E0 ta) σ H fun _ v _ => ∃ c : Int, v = .int c :=
  ep_call h fun H1 e Q q E => ⟨a, ns, k, rfl, ex_l e hs, k0, fun c H2 e2 => q _ H2 e2 ⟨c, rfl⟩⟩
theorem ep_big {K : PySem.W.Frag} {σ : L2.St} {H : Hp} {a : Addr} {ns : List Int} {ta : TA} {tk : TE} {k : Int} (hs : SqL K H a (ns.map V.int)) (h : EvA ta σ H [.ref a, .int k]) (hk : Ev tk σ H (.int k)) (k0 : 0 ≤ k) (k1 : k ≤ 100) :
    EvP (tCall sp_l_big [] E0 (tCons (tCall (sp_l_cell_at K) [] E0 ta) (tCons tk tNil))) σ H fun _ v _ => ∃ c : Int, v = .int c :=
  ep_callP2 (P := fun v => ∃ c : Int, v = .int c) (ep_cell hs h k0) hk (fun v H' hv => by
    obtain ⟨c, rfl⟩ := hv
    exact fun H1 _ Q q E => ⟨c, k, rfl, k0, k1, fun r H2 e2 => q _ H2 e2 ⟨r, rfl⟩⟩) (fun _ _ _ _ _ h => h)
def RowP (z : Int) : Hp → V → Hp → Prop := fun A v B => ∃ (p : Addr) (r : List Int), v = .ref p ∧ A p = none ∧ B p = some (.lst (r.map V.int)) ∧ (r.length : Int) = z ∧ ∀ x ∈ r, El x
theorem ep_row {σ : L2.St} {H : Hp} {ta tb : TE} {z : Int} (ha : EvP ta σ H fun _ v _ => ∃ c : Int, v = .int c) (hb : Ev tb σ H (.int z)) (z1 : 1 ≤ z) (z8 : z ≤ 8) : EvP (tCall sp_l_row [] E0 (tCons ta (tCons tb tNil))) σ H (RowP z) :=
  ep_callP2 ha hb (fun v H' hv => by
    obtain ⟨c, rfl⟩ := hv
    exact fun H1 _ Q q E => ⟨c, z, rfl, z1, z8, fun p r H2 e2 np hp hl he => q _ H2 e2 ⟨p, r, rfl, np, hp, hl, he⟩⟩) (by
    rintro A B v C e ⟨p, r, h1, h2, h3⟩
    exact ⟨p, r, h1, fresh_back e h2, h3⟩)
theorem law_round (K : PySem.W.Frag) {Z : Ends} {a : Addr} {ns : List Int} {k : Int} {H : Hp} {o2 o3 o4 o5 o6 o7 o8 o9 o10 o11 : Option V} (hs : SqL K H a (ns.map V.int)) (k0 : 0 ≤ k) (k8 : k ≤ 50)
    (next : ∀ (o2 o3 o4 o5 o6 o7 o8 o9 o10 o11 : Option V) (H2 : Hp), Ex H H2 → Z.nx [some (.ref a), some (.int k), o2, o3, o4, o5, o6, o7, o8, o9, o10, o11] H2) :
    t_law_body K Z [some (.ref a), some (.int k), o2, o3, o4, o5, o6, o7, o8, o9, o10, o11] H := by
  refine q_asgP (ep_big (k := k + 1) hs (ea_cons (ev_var rfl) (ea_cons (by walk_at "ev") ea_nil)) (by walk_at "ev") (by omega) (by omega)) fun v H1 e1 hv => ?_
  obtain ⟨other, rfl⟩ := hv
  refine q_asgP (ep_row (z := 1 + other % 8) (ep_big (k := k) (ex_l e1 hs) (ea_cons (ev_var rfl) (ea_cons (by walk_at "ev") ea_nil)) (by walk_at "ev") (by omega) (by omega)) (by walk_at "ev") (by omega) (by omega)) fun v H2 e2 hv => ?_
  obtain ⟨row, r, rfl, nr, hr, lr, he⟩ := hv
  have lo : 1 ≤ r.length := by omega
  have hi : r.length ≤ 8 := by omega
  have rok := row_ok he lo hi
  refine q_asg ev_c fun H3 e3 => ?_
  have x3 : Ex H H3 := (e1.trans e2).trans e3
  have hr3 := e3 _ _ hr
  refine q_forLn (ev_var rfl) (sq_of hr3) (fun i σ' H' => ∃ (n t : Int) (o5 : Option V), σ' = [some (.ref a), some (.int k), some (.int other), some (.ref row), some (.int n), o5, o6, o7, o8, o9, o10, o11] ∧ Ex H3 H' ∧ D n ∧ t ≠ 0 ∧ prod (r.take i) = n * (t * t)) ?_ ?_ ?_ ?_
  · intro H4 e4
    exact ⟨1, 1, o5, rfl, e4, by unfold D; decide, by decide, rfl⟩
  · rintro i σ' H' _ ⟨_, _, _, _, ex, _⟩
    exact sq_of (ex _ _ hr3)
  · rintro i x σ' H' hx ⟨n, t, o, rfl, ex, d, t0, en⟩
    obtain ⟨y, hy, rfl⟩ := ints_at hx
    have ey := he y (List.mem_of_getElem? hy)
    obtain ⟨s, u, ds, u0, es⟩ := ey.own
    have nl := d.le
    have sl := ds.le
    refine s_asg (ev_call (ea_cons (ev_var rfl) (ea_cons (ev_call (ea_cons (ev_var rfl) ea_nil) (spv_l_free ds u0 es ey.bd.2)) ea_nil)) (spv_l_ft d.ne0 (by omega) (by omega))) fun H4 e4 => ?_
    obtain ⟨_, z, z0, ez⟩ := free_step d.sqf ds.sqf t0 u0 en es
    exact ⟨ft n s, z, some (.int y), rfl, ex.trans e4, ft_D d ds, z0, by rw [prod_take hy]; exact ez⟩
  rintro σ' H4 ⟨n, t, o, rfl, e4, d, t0, en⟩
  rw [List.length_map, List.take_length] at en
  have nl := d.le
  have can := can_row (fun x hx => (he x hx).sm) lo hi d t0 en
  have cc := can.can
  have hr4 := e4 _ _ hr3
  have pos : Ev (tCB (rLenS K) (tCons (tLc (iList K (tVar 3)) (gName 5) (tTest (tOp kGt (tVar 5) (tC (.int 0)))) (tVar 5) [5]) tNil)) [some (.ref a), some (.int k), some (.int other), some (.ref row), some (.int n), o, o6, o7, o8, o9, o10, o11] H4 (.int (posc r : Int)) := by
    have := ev_lenN (K := K) (el_filt (K := K) (σ := [some (.ref a), some (.int k), some (.int other), some (.ref row), some (.int n), o, o6, o7, o8, o9, o10, o11]) (j := 5) (vs := [5]) (tl := tVar 3) (t := tTest (tOp kGt (tVar 5) (tC (.int 0)))) (fun x => decide (0 < x)) (ev_var rfl) (sq_of hr4) (by omega) (fun _ => rfl) (fun _ => rfl) (fun x H5 e5 hx => et_test (ev_op (ev_var rfl) ev_c rv_I0)))
    rwa [List.length_map] at this
  refine q_asg pos fun H5 e5 => ?_
  have hr5 := e5 _ _ hr4
  refine q_asgL (el_callVL (xs := P7.map V.int) (ys := (P7.filter fun p => nz p r).map V.int) (ev_var rfl) (el_lst (vs := [V.int 0, V.int 2, V.int 3, V.int 5, V.int 7, V.int 11, V.int 13]) (by walk_at "ea") (by simp)) (fun p H6 e6 hp =>
    fun H7 e7 Q q E => ⟨row, p, r, P7, rfl, e7 _ _ (e6 _ _ hr5), rok, e7 _ _ hp, by decide, fun x hx => P7_ok hx, q⟩)) fun noes H6 nn e6 hn => ?_
  have hr6 := e6 _ _ hr5
  have lenE : ∀ {σ : L2.St} {H2 : Hp} {i : Nat}, H2 row = some (.lst (r.map V.int)) → σ[i]? = some (some (V.ref row)) → Ev (tCB (rLenS K) (tCons (tVar i) tNil)) σ H2 (.int (r.length : Int)) := fun h hi => by
    have := ev_len (K := K) (ev_var hi) (sq_of h)
    rwa [List.length_map] at this
  refine q_asgU (eu_tup (ea_cons (lenE hr6 rfl) (ea_cons (ev_var rfl) (ea_cons (ev_var rfl) (ea_cons (ev_var rfl) ea_nil)))) (by simp)) fun wish H7 nw e7 hw => ?_
  have x7 : Ex H H7 := ((((x3.trans e4).trans e5).trans e6).trans e7)
  have W : Wsh H7 wish noes r.length (posc r) n (P7.filter fun p => nz p r) := ⟨hw, e7 _ _ hn⟩
  have ok := can_wok can
  have hr7 := e7 _ _ hr6
  refine q_when (b := (!true) || !decide (V.non = V.non)) (et_or (et_not (et_B (ev_call (ea_cons (ev_var rfl) ea_nil) (by rw [← cc]; exact spv_can W ok)))) fun _ => et_test (ev_op (ev_callVP (P := fun A v B => ∃ (s : Addr) (rs : List Int), v = .ref s ∧ B s = some (.lst (rs.map V.int)) ∧ Good (r.length : Int) (posc r : Int) n (fun p => nz p r) rs) (ev_var rfl)
      (ep_call (ea_cons (ev_var rfl) ea_nil) (fun H8 e8 Q q E => ⟨wish, noes, _, _, n, _, rfl, W.ex e8, ok, .inr ⟨_, rfl, can, fun s rs H9 e9 _ hs g => q _ H9 e9 ⟨s, rs, rfl, hs, g⟩⟩⟩) (by intro A B v C e h; exact h))
      (by
        rintro v H8 H9 e8 e9 ⟨s, rs, rfl, hs, g⟩
        exact fun H10 e10 Q q E => ⟨row, s, r, rs, rfl, e10 _ _ ((e8.trans e9) _ _ hr7), e10 _ _ hs, rok, g.ok (by omega) (by omega), row_like he d t0 en g, q⟩)) ev_c rv_notN))
    (fun hb => by simp at hb) (fun _ H8 e8 => ?_)
  have j0 : (0 : Int) ≤ other / 8 % 7 ∧ other / 8 % 7 < 7 := by omega
  have hj : (other / 8 % 7).toNat < P7.length := by
    show _ < 7
    omega
  obtain ⟨p, hp, pe⟩ : ∃ p ∈ P7, atI (P7.map V.int) (other / 8 % 7) = some (.int p) :=
    ⟨P7[(other / 8 % 7).toNat], List.getElem_mem hj, at_of (show other / 8 % 7 = (((other / 8 % 7).toNat : Nat) : Int) by omega) (by rw [List.getElem?_map, List.getElem?_eq_getElem hj]; rfl)⟩
  refine q_asg (ev_ixNew (xs := P7.map V.int) (el_lst (vs := [V.int 0, V.int 2, V.int 3, V.int 5, V.int 7, V.int 11, V.int 13]) (by walk_at "ea") (by simp)) (by walk_at "ev") pe) fun H9 e9 => ?_
  have hn9 := ((e7.trans e8).trans e9) _ _ hn
  have P7l := P7_len fun p => nz p r
  refine q_asgP (ep_sorted (ns := (P7.filter fun p => nz p r).filter (fun q => !decide (q = p)) ++ (if p ∈ P7.filter (fun p => nz p r) then [] else [p])) (by
    rw [List.map_append]
    refine el_catLL (el_filt (fun q => !decide (q = p)) (ev_var rfl) (sq_of hn9) (by omega) (fun _ => rfl) (fun _ => rfl) (fun x H10 e10 hx => ?_)) ?_ ?_
    · rw [← dv]
      exact et_test (ev_op (ev_var rfl) (ev_var rfl) (rv_ne rfl))
    · have e : ((if p ∈ P7.filter (fun p => nz p r) then [] else [p]).map V.int) = (List.replicate (if (!decide (p ∈ P7.filter (fun p => nz p r))) = true then (1 : Int) else 0).toNat [V.int p]).flatten := by
        by_cases c : p ∈ P7.filter (fun p => nz p r)
        · rw [if_pos c, decide_eq_true c]; rfl
        · rw [if_neg c, decide_eq_false c]; rfl
      rw [e]
      refine el_rep (el_lst (ea_cons (ev_var rfl) ea_nil) (by simp)) (ev_intb (ev_notInI (ev_var rfl) (ev_var rfl) hn9)) ?_ ?_
      · split <;> omega
      · split <;> simp
    · have h1 := List.length_filter_le (fun q => !decide (q = p)) (P7.filter fun p => nz p r)
      have h2 : (if p ∈ P7.filter (fun p => nz p r) then [] else [p]).length ≤ 1 := by
        split
        · exact Nat.zero_le _
        · exact Nat.le_refl _
      rw [List.length_map, List.length_map]
      omega) (by
    have h1 := List.length_filter_le (fun q => !decide (q = p)) (P7.filter fun p => nz p r)
    have h2 : (if p ∈ P7.filter (fun p => nz p r) then [] else [p]).length ≤ 1 := by
      split
      · exact Nat.zero_le _
      · exact Nat.le_refl _
    rw [List.length_append]
    omega)) fun v H10 e10 hv => ?_
  obtain ⟨wr, wl, rfl, nwr, hwr, perm⟩ := hv
  have odd' := wrong_odd can.even hp perm
  obtain ⟨wlen, wpl⟩ := wrong_in hp perm
  have wno : canB r.length (posc r) n wl = false := can_odd odd'
  have wok : WOk r.length (posc r) n wl := ⟨ok.s, ok.g, ok.n, by omega, wpl⟩
  have hr10 := ((e8.trans e9).trans e10) _ _ hr7
  have tup : ∀ {H' : Hp}, Ex H10 H' → EvU (tTup (tCons (tCB (rLenS K) (tCons (tVar 3) tNil)) (tCons (tVar 6) (tCons (tVar 4) (tCons (tVar 10) tNil))))) [some (.ref a), some (.int k), some (.int other), some (.ref row), some (.int n), o, some (.int (posc r : Int)), some (.ref noes), some (.ref wish), some (.int p), some (.ref wr), o11] H' [.int (r.length : Int), .int (posc r : Int), .int n, .ref wr] := fun e =>
    eu_tup (ea_cons (lenE (e _ _ hr10) rfl) (ea_cons (ev_var rfl) (ea_cons (ev_var rfl) (ea_cons (ev_var rfl) ea_nil)))) (by simp)
  refine q_when (b := false || !decide (V.non = V.non)) (et_or (et_B (ev_callU (tup (Ex.refl _)) (fun q H11 e11 hq => by
      rw [← wno]
      exact spv_can ⟨hq, e11 _ _ hwr⟩ wok))) fun _ => et_test (ev_op (ev_callU (tup (Ex.refl _)) (fun q H11 e11 hq => spv_built_no ⟨hq, e11 _ _ hwr⟩ wok wno)) ev_c rv_notN))
    (fun hb => by simp at hb) (fun _ H11 e11 => ?_)
  have hr11 := e11 _ _ hr10
  have hn11 := (e10.trans e11) _ _ hn9
  have sno : canB r.length ((posc r : Int) - 1) n (P7.filter fun p => nz p r) = false := can_sign can.sgn
  have sok : WOk r.length ((posc r : Int) - 1) n (P7.filter fun p => nz p r) := ⟨ok.s, by have := can.s1; have := can.s0; omega, ok.n, ok.l, ok.p⟩
  refine s_when (b := decide (0 < (posc r : Int)) && !decide (V.non = V.non)) (et_and (et_test (ev_op (ev_var rfl) ev_c rv_I0)) fun _ => et_test (ev_op (ev_callU (eu_tup (ea_cons (lenE hr11 rfl) (ea_cons (by walk_at "ev") (ea_cons (ev_var rfl) (ea_cons (ev_var rfl) ea_nil)))) (by simp)) (fun q H12 e12 hq => spv_built_no ⟨hq, e12 _ _ hn11⟩ sok sno)) ev_c rv_notN))
    (fun hb => by simp at hb) (fun _ H12 e12 => ?_)
  exact next _ _ _ _ _ _ _ _ _ _ H12 (((((x7.trans e8).trans e9).trans e10).trans e11).trans e12)
theorem rg_two {m : Int} (h0 : 0 ≤ m) (h1 : m ≤ 8) : ∃ n : Nat, RgC 0 (m + 1) 2 n ∧ n ≤ 6 := by
  have : ∀ m : Nat, m < 9 → RgC 0 ((m : Int) + 1) 2 (m / 2 + 1) := by
    intro m hm
    have h : m = 0 ∨ m = 1 ∨ m = 2 ∨ m = 3 ∨ m = 4 ∨ m = 5 ∨ m = 6 ∨ m = 7 ∨ m = 8 := by omega
    rcases h with rfl | rfl | rfl | rfl | rfl | rfl | rfl | rfl | rfl <;> exact ⟨by decide, by decide, by decide +kernel, by decide +kernel⟩
  refine ⟨m.toNat / 2 + 1, ?_, by omega⟩
  have e := this m.toNat (by omega)
  rwa [Int.toNat_of_nonneg h0] at e
theorem q_forR3 {D : Ends} {σ : L2.St} {H : Hp} {tu tz : TS} {ta : TA} {j n : Nat} {lo hi c : Int} (h : EvA ta σ H [.int lo, .int hi, .int c]) (hg : RgC lo hi c n) (Pv : Nat → L2.St → Hp → Prop) (h0 : ∀ H1, Ex H H1 → Pv 0 σ H1)
    (hs : ∀ (i : Nat) σ' H', i < n → Pv i σ' H' → tu { D with nx := Pv (i + 1), ct := Pv (i + 1), bk := tz D } (σ'.set j (some (.int (lo + (i : Nat) * c)))) H') (hd : ∀ σ' H', Pv n σ' H' → tz D σ' H') : tSeq (tFor (iRng3 ta) (gName j) tu) tz D σ H :=
  h H (Ex.refl H) _ fun H1 e => ⟨lo, hi, c, n, rfl, hg, for_rangeC (D := { D with nx := tz D }) Pv (h0 H1 e) hs hd⟩
theorem r_law (K : PySem.W.Frag) : ∀ vs H Q E, sp_law K vs H Q E → t_law K { nx := fun _ H' => Q .non H', rt := Q } (start names_law vs) H := by
  rintro vs H Q E ⟨a, ns, rfl, hs, hl, q⟩
  have mn : Ev (tCB kMin2 (tCons (tC (.int 8)) (tCons (tCB (rLenS K) (tCons (tVar 0) tNil)) tNil))) (start names_law [V.ref a]) H (.int (if (ns.length : Int) < 8 then (ns.length : Int) else 8)) := by
    have h := ev_len (K := K) (ta := tVar 0) (σ := start names_law [V.ref a]) (ev_var rfl) hs
    rw [List.length_map] at h
    exact ev_min ev_c h
  have mb : 0 ≤ (if (ns.length : Int) < 8 then (ns.length : Int) else 8) ∧ (if (ns.length : Int) < 8 then (ns.length : Int) else 8) ≤ 8 := by
    split <;> omega
  generalize (if (ns.length : Int) < 8 then (ns.length : Int) else 8) = m at *
  obtain ⟨n, hg, n6⟩ := rg_two mb.1 mb.2
  refine q_forR3 (tu := t_law_body K) (ea_cons ev_c (ea_cons (ev_op mn ev_c rv_I0) (ea_cons ev_c ea_nil))) hg (fun i σ' H' => ∃ (o1 o2 o3 o4 o5 o6 o7 o8 o9 o10 o11 : Option V), σ' = [some (.ref a), o1, o2, o3, o4, o5, o6, o7, o8, o9, o10, o11] ∧ Ex H H') ?_ ?_ ?_
  · intro H1 e1
    exact ⟨none, none, none, none, none, none, none, none, none, none, none, rfl, e1⟩
  · rintro i σ' H' hi ⟨o1, o2, o3, o4, o5, o6, o7, o8, o9, o10, o11, rfl, ex⟩
    exact law_round K (ex_l ex hs) (by omega) (by omega) fun p2 p3 p4 p5 p6 p7 p8 p9 p10 p11 H2 e2 => ⟨_, p2, p3, p4, p5, p6, p7, p8, p9, p10, p11, rfl, ex.trans e2⟩
  · rintro σ' H' ⟨o1, o2, o3, o4, o5, o6, o7, o8, o9, o10, o11, rfl, ex⟩
    exact s_ret ev_c fun H2 e2 => q H2
theorem d_common {P : Program} {w : World} {K : PySem.W.Frag} {mg : Str → Option Value} {base : Heap} (n_abs : mg "abs" = none) {f : Addr} {cdv : Value} {A : Around} {outer : List Env} {s : Shared} {H : Hp} {E : XK} (hr : Room 0 (A.deeper (envOfC "common" (defScope st_common) s.heap.objs.size f cdv))) :
    PSs (cxOf CX0 P w K mg base names_common "common" (defScope st_common) f cdv A outer s H E).nox (defBody st_common) (t_common K) := by
  have scN := sc_common.nd
  exact (pss_cons (ps_while PassesOwn.never (pt_cmpR op_ne (pv 1) pe_int (nomark _)) (pss_one (ps_par (i := 0) (j := 1) (by rfl) scN rfl rfl (by decide) rfl rfl (pa_cons (pv 1) (pa_cons (pe_op op_modN (pv 0) (pv 1)) pa_nil)) (by rfl)))) (pss_one (ps_ret (pe_callB call_abs (by rfl) n_abs (by decide +kernel) (pa_cons (pv 0) pa_nil)))))
theorem d_is_prime {P : Program} {w : World} {K : PySem.W.Frag} {mg : Str → Option Value} {base : Heap} {f : Addr} {cdv : Value} {A : Around} {outer : List Env} {s : Shared} {H : Hp} {E : XK} (hr : Room 0 (A.deeper (envOfC "is_prime" (defScope st_is_prime) s.heap.objs.size f cdv))) :
    PSs (cxOf CX0 P w K mg base names_is_prime "is_prime" (defScope st_is_prime) f cdv A outer s H E).nox (defBody st_is_prime) (t_is_prime K) := by
  have scN := sc_is_prime.nd
  exact (pss_cons (ps_if (pt_cmpR op_lt (pv 0) pe_int (nomark _)) (pss_one (ps_ret pe_bl)) pss_nil) (pss_cons (ps_set (i := 1) scN rfl (.inl rfl) pe_int) (pss_cons (ps_while PassesOwn.never (pt_cmpR op_le (pe_op op_mul (pv 1) (pv 1)) (pv 0) (nomark _)) (pss_cons (ps_if (pt_cmpR op_eq (pe_op op_mod (pv 0) (pv 1)) pe_int (nomark _)) (pss_one (ps_ret pe_bl)) pss_nil) (pss_one (ps_set (i := 1) scN rfl (.inl rfl) (pe_op op_add (pe_op op_add (pv 1) pe_int) (pe_op op_mod (pv 1) pe_int)))))) (pss_one (ps_ret pe_bl)))))
theorem d_tried {P : Program} {w : World} {K : PySem.W.Frag} {mg : Str → Option Value} {base : Heap} {k_TRIED : Tok} (g_TRIED : mg "TRIED" = some (.int 32768 k_TRIED)) {f : Addr} {cdv : Value} {A : Around} {outer : List Env} {s : Shared} {H : Hp} {E : XK} (hr : Room 0 (A.deeper (envOfC "tried" (defScope st_tried) s.heap.objs.size f cdv))) :
    PSs (cxOf CX0 P w K mg base names_tried "tried" (defScope st_tried) f cdv A outer s H E).nox (defBody st_tried) (t_tried K) := by
  have scN := sc_tried.nd
  exact (pss_cons (ps_set (i := 1) scN rfl (.inl rfl) (pe_lst pa_nil)) (pss_cons (ps_set (i := 2) scN rfl (.inl rfl) (pv 0)) (pss_cons (ps_set (i := 3) scN rfl (.inl rfl) pe_int) (pss_cons (ps_while PassesOwn.never (PW.pt (pw_and (pt_cmpR op_lt (pv 3) (pe_glob (by rfl) g_TRIED ⟨_, rfl⟩) (nomark _)) (pw_and1 (pt_cmpR op_le (pe_op op_mul (pv 3) (pv 3)) (pv 2) (nomark _))))) (pss_cons (ps_set (i := 4) scN rfl (.inl rfl) pe_int) (pss_cons (ps_while PassesOwn.never (pt_cmpR op_eq (pe_op op_mod (pv 2) (pv 3)) pe_int (nomark _)) (pss_cons (ps_set (i := 2) scN rfl (.inl rfl) (pe_op op_fdiv (pv 2) (pv 3))) (pss_one (ps_aug (i := 4) scN rfl (.inl rfl) pe_int ip_add)))) (pss_cons (ps_if (pt_cmpR op_gt (pv 4) pe_int (nomark _)) (pss_one (ps_expr (pe_bm PySem.F.plainAttrs_list PySem.F.slot_list_append PySem.F.type_list_append mt_append (pv 1) (pa_cons (pe_tup (pa_cons (pv 3) (pa_cons (pv 4) pa_nil))) pa_nil)))) pss_nil) (pss_one (ps_set (i := 3) scN rfl (.inl rfl) (pe_op op_add (pe_op op_add (pv 3) pe_int) (pe_op op_mod (pv 3) pe_int)))))))) (pss_cons (ps_if (pt_chain op_lt op_lt pe_int (pv 2) (pe_glob (by rfl) g_TRIED ⟨_, rfl⟩)) (pss_cons (ps_expr (pe_bm PySem.F.plainAttrs_list PySem.F.slot_list_append PySem.F.type_list_append mt_append (pv 1) (pa_cons (pe_tup (pa_cons (pv 2) (pa_cons pe_int pa_nil))) pa_nil))) (pss_one (ps_set (i := 2) scN rfl (.inl rfl) pe_int))) pss_nil) (pss_one (ps_ret (pe_tup (pa_cons (pv 1) (pa_cons (pv 2) pa_nil))))))))))
theorem d_parts {P : Program} {w : World} {K : PySem.W.Frag} {mg : Str → Option Value} {base : Heap} (c_tried : C8.Cal P w K mg base 1 "tried" sp_tried []) {f : Addr} {cdv : Value} {A : Around} {outer : List Env} {s : Shared} {H : Hp} {E : XK} (hr : Room 1 (A.deeper (envOfC "parts" (defScope st_parts) s.heap.objs.size f cdv))) :
    PSs (cxOf CX0 P w K mg base names_parts "parts" (defScope st_parts) f cdv A outer s H E).nox (defBody st_parts) (t_parts K) := by
  have scN := sc_parts.nd
  exact (pss_cons (ps_asg (C8.pe_c c_tried hr (by decide) (by rfl) (pa_cons (pv 0) pa_nil)) (pg_tup rfl (pgs_cons (pg_name (i := 1) scN rfl (.inl rfl)) (pgs_cons (pg_name (i := 2) scN rfl (.inl rfl)) pgs_nil)))) (pss_cons (ps_if (pt_cmpR op_gt (pv 2) pe_int (nomark _)) (pss_one (ps_expr (pe_bm PySem.F.plainAttrs_list PySem.F.slot_list_append PySem.F.type_list_append mt_append (pv 1) (pa_cons (pe_tup (pa_cons (pv 2) (pa_cons pe_int pa_nil))) pa_nil)))) pss_nil) (pss_one (ps_ret (pv 1)))))
theorem d_whole_root {P : Program} {w : World} {K : PySem.W.Frag} {mg : Str → Option Value} {base : Heap} {f : Addr} {cdv : Value} {A : Around} {outer : List Env} {s : Shared} {H : Hp} {E : XK} (hr : Room 0 (A.deeper (envOfC "whole_root" (defScope st_whole_root) s.heap.objs.size f cdv))) :
    PSs (cxOf CX0 P w K mg base names_whole_root "whole_root" (defScope st_whole_root) f cdv A outer s H E).nox (defBody st_whole_root) (t_whole_root K) := by
  have scN := sc_whole_root.nd
  exact (pss_cons (ps_set (i := 1) scN rfl (.inl rfl) pe_int) (pss_cons (ps_set (i := 2) scN rfl (.inl rfl) (pe_op op_shl pe_int (pe_op op_add (pe_op op_fdiv (pe_bits (pv 0)) pe_int) pe_int))) (pss_cons (ps_while PassesOwn.never (pt_cmpR op_gt (pe_op op_sub (pv 2) (pv 1)) pe_int (nomark _)) (pss_cons (ps_set (i := 3) scN rfl (.inl rfl) (pe_op op_fdiv (pe_op op_add (pv 1) (pv 2)) pe_int)) (pss_one (ps_if (pt_cmpR op_le (pe_op op_mul (pv 3) (pv 3)) (pv 0) (nomark _)) (pss_one (ps_set (i := 1) scN rfl (.inl rfl) (pv 3))) (pss_one (ps_set (i := 2) scN rfl (.inl rfl) (pv 3))))))) (pss_one (ps_ret (pv 1))))))
theorem d_is_square {P : Program} {w : World} {K : PySem.W.Frag} {mg : Str → Option Value} {base : Heap} (c_whole_root : C8.Cal P w K mg base 1 "whole_root" sp_whole_root []) {f : Addr} {cdv : Value} {A : Around} {outer : List Env} {s : Shared} {H : Hp} {E : XK} (hr : Room 1 (A.deeper (envOfC "is_square" (defScope st_is_square) s.heap.objs.size f cdv))) :
    PSs (cxOf CX0 P w K mg base names_is_square "is_square" (defScope st_is_square) f cdv A outer s H E).nox (defBody st_is_square) (t_is_square K) := by
  have scN := sc_is_square.nd
  exact (pss_one (ps_ret (pe_cmpR op_eq (pe_op op_mul (C8.pe_c c_whole_root hr (by decide) (by rfl) (pa_cons (pv 0) pa_nil)) (C8.pe_c c_whole_root hr (by decide) (by rfl) (pa_cons (pv 0) pa_nil))) (pv 0) (nomark _))))
theorem d_free_of {P : Program} {w : World} {K : PySem.W.Frag} {mg : Str → Option Value} {base : Heap} (c_tried : C8.Cal P w K mg base 1 "tried" sp_tried []) (c_is_square : C8.Cal P w K mg base 2 "is_square" sp_is_square []) (n_abs : mg "abs" = none) {k_MOST : Tok} (g_MOST : mg "MOST" = some (.int 1073741824 k_MOST)) {f : Addr} {cdv : Value} {A : Around} {outer : List Env} {s : Shared} {H : Hp} {E : XK} (hr : Room 2 (A.deeper (envOfC "free_of" (defScope st_free_of) s.heap.objs.size f cdv))) :
    PSs (cxOf CX0 P w K mg base names_free_of "free_of" (defScope st_free_of) f cdv A outer s H E).nox (defBody st_free_of) (t_free_of K) := by
  have scN := sc_free_of.nd
  exact (pss_cons (ps_asg (C8.pe_c c_tried hr (by decide) (by rfl) (pa_cons (pe_callB call_abs (by rfl) n_abs (by decide +kernel) (pa_cons (pv 0) pa_nil)) pa_nil)) (pg_tup rfl (pgs_cons (pg_name (i := 1) scN rfl (.inl rfl)) (pgs_cons (pg_name (i := 2) scN rfl (.inl rfl)) pgs_nil)))) (pss_cons (ps_if (pt_val (C8.pe_c c_is_square hr (by decide) (by rfl) (pa_cons (pv 2) pa_nil))) (pss_one (ps_set (i := 2) scN rfl (.inl rfl) pe_int)) pss_nil) (pss_cons (ps_if (pt_cmpR op_ge (pv 2) (pe_glob (by rfl) g_MOST ⟨_, rfl⟩) (nomark _)) (pss_one ps_never) pss_nil) (pss_cons (ps_for PassesOwn.never rfl (pi_list (pv 1)) (pg_tup rfl (pgs_cons (pg_name (i := 3) scN rfl (.inl rfl)) (pgs_cons (pg_name (i := 4) scN rfl (.inl rfl)) pgs_nil))) (pss_one (ps_if (pt_cmpR op_eq (pe_op op_mod (pv 4) pe_int) pe_int (nomark _)) (pss_one (ps_set (i := 2) scN rfl (.inl rfl) (pe_op op_mul (pv 2) (pv 3)))) pss_nil))) (pss_cons (ps_if (pt_cmpR op_lt (pv 0) pe_int (nomark _)) (pss_one (ps_ret (pe_op op_sub pe_int (pv 2)))) pss_nil) (pss_one (ps_ret (pv 2))))))))
theorem d_power_by {P : Program} {w : World} {K : PySem.W.Frag} {mg : Str → Option Value} {base : Heap} {f : Addr} {cdv : Value} {A : Around} {outer : List Env} {s : Shared} {H : Hp} {E : XK} (hr : Room 0 (A.deeper (envOfC "power_by" (defScope st_power_by) s.heap.objs.size f cdv))) :
    PSs (cxOf CX0 P w K mg base names_power_by "power_by" (defScope st_power_by) f cdv A outer s H E).nox (defBody st_power_by) (t_power_by K) := by
  have scN := sc_power_by.nd
  exact (pss_cons (ps_set (i := 3) scN rfl (.inl rfl) (pe_op op_mod pe_int (pv 2))) (pss_cons (ps_set (i := 4) scN rfl (.inl rfl) (pe_op op_mod (pv 0) (pv 2))) (pss_cons (ps_while PassesOwn.never (pt_cmpR op_gt (pv 1) pe_int (nomark _)) (pss_cons (ps_if (pt_cmpR op_eq (pe_op op_mod (pv 1) pe_int) pe_int (nomark _)) (pss_one (ps_set (i := 3) scN rfl (.inl rfl) (pe_op op_mod (pe_op op_mul (pv 3) (pv 4)) (pv 2)))) pss_nil) (pss_cons (ps_set (i := 4) scN rfl (.inl rfl) (pe_op op_mod (pe_op op_mul (pv 4) (pv 4)) (pv 2))) (pss_one (ps_set (i := 1) scN rfl (.inl rfl) (pe_op op_fdiv (pv 1) pe_int)))))) (pss_one (ps_ret (pv 3))))))
theorem d_square_by {P : Program} {w : World} {K : PySem.W.Frag} {mg : Str → Option Value} {base : Heap} (c_power_by : C8.Cal P w K mg base 1 "power_by" sp_power_by []) {f : Addr} {cdv : Value} {A : Around} {outer : List Env} {s : Shared} {H : Hp} {E : XK} (hr : Room 1 (A.deeper (envOfC "square_by" (defScope st_square_by) s.heap.objs.size f cdv))) :
    PSs (cxOf CX0 P w K mg base names_square_by "square_by" (defScope st_square_by) f cdv A outer s H E).nox (defBody st_square_by) (t_square_by K) := by
  have scN := sc_square_by.nd
  exact (pss_cons (ps_if (pt_cmpR op_eq (pe_op op_mod (pv 0) (pv 1)) pe_int (nomark _)) (pss_one (ps_ret pe_int)) pss_nil) (pss_cons (ps_if (PW.pt (pw_or (pt_cmpR op_eq (pv 1) pe_int (nomark _)) (pw_or1 (pt_cmpR op_eq (C8.pe_c c_power_by hr (by decide) (by rfl) (pa_cons (pv 0) (pa_cons (pe_op op_fdiv (pe_op op_sub (pv 1) pe_int) pe_int) (pa_cons (pv 1) pa_nil)))) pe_int (nomark _))))) (pss_one (ps_ret pe_int)) pss_nil) (pss_one (ps_ret (pe_un un_neg pe_int)))))
theorem d_split_at {P : Program} {w : World} {K : PySem.W.Frag} {mg : Str → Option Value} {base : Heap} {f : Addr} {cdv : Value} {A : Around} {outer : List Env} {s : Shared} {H : Hp} {E : XK} (hr : Room 0 (A.deeper (envOfC "split_at" (defScope st_split_at) s.heap.objs.size f cdv))) :
    PSs (cxOf CX0 P w K mg base names_split_at "split_at" (defScope st_split_at) f cdv A outer s H E).nox (defBody st_split_at) (t_split_at K) := by
  have scN := sc_split_at.nd
  exact (pss_cons (ps_set (i := 2) scN rfl (.inl rfl) pe_int) (pss_cons (ps_while PassesOwn.never (pt_cmpR op_eq (pe_op op_mod (pv 0) (pv 1)) pe_int (nomark _)) (pss_cons (ps_set (i := 0) scN rfl (.inl rfl) (pe_op op_fdiv (pv 0) (pv 1))) (pss_one (ps_aug (i := 2) scN rfl (.inl rfl) pe_int ip_add)))) (pss_one (ps_ret (pe_tup (pa_cons (pv 2) (pa_cons (pv 0) pa_nil)))))))
theorem d_turns_at_two {P : Program} {w : World} {K : PySem.W.Frag} {mg : Str → Option Value} {base : Heap} (c_split_at : C8.Cal P w K mg base 1 "split_at" sp_split_at []) {f : Addr} {cdv : Value} {A : Around} {outer : List Env} {s : Shared} {H : Hp} {E : XK} (hr : Room 1 (A.deeper (envOfC "turns_at_two" (defScope st_turns_at_two) s.heap.objs.size f cdv))) :
    PSs (cxOf CX0 P w K mg base names_turns_at_two "turns_at_two" (defScope st_turns_at_two) f cdv A outer s H E).nox (defBody st_turns_at_two) (t_turns_at_two K) := by
  have scN := sc_turns_at_two.nd
  exact (pss_cons (ps_asg (C8.pe_c c_split_at hr (by decide) (by rfl) (pa_cons (pv 0) (pa_cons pe_int pa_nil))) (pg_tup rfl (pgs_cons (pg_name (i := 2) scN rfl (.inl rfl)) (pgs_cons (pg_name (i := 3) scN rfl (.inl rfl)) pgs_nil)))) (pss_cons (ps_asg (C8.pe_c c_split_at hr (by decide) (by rfl) (pa_cons (pv 1) (pa_cons pe_int pa_nil))) (pg_tup rfl (pgs_cons (pg_name (i := 4) scN rfl (.inl rfl)) (pgs_cons (pg_name (i := 5) scN rfl (.inl rfl)) pgs_nil)))) (pss_cons (ps_set (i := 6) scN rfl (.inl rfl) (pe_op op_mul (pe_op op_fdiv (pe_op op_sub (pv 3) pe_int) pe_int) (pe_op op_fdiv (pe_op op_sub (pv 5) pe_int) pe_int))) (pss_cons (ps_aug (i := 6) scN rfl (.inl rfl) (pe_op op_mul (pv 2) (pe_op op_fdiv (pe_op op_sub (pe_op op_mul (pv 5) (pv 5)) pe_int) pe_int)) ip_add) (pss_cons (ps_aug (i := 6) scN rfl (.inl rfl) (pe_op op_mul (pv 4) (pe_op op_fdiv (pe_op op_sub (pe_op op_mul (pv 3) (pv 3)) pe_int) pe_int)) ip_add) (pss_one (ps_ret (pv 6))))))))
theorem d_turns_at_odd {P : Program} {w : World} {K : PySem.W.Frag} {mg : Str → Option Value} {base : Heap} (c_split_at : C8.Cal P w K mg base 1 "split_at" sp_split_at []) (c_square_by : C8.Cal P w K mg base 2 "square_by" sp_square_by []) {f : Addr} {cdv : Value} {A : Around} {outer : List Env} {s : Shared} {H : Hp} {E : XK} (hr : Room 2 (A.deeper (envOfC "turns_at_odd" (defScope st_turns_at_odd) s.heap.objs.size f cdv))) :
    PSs (cxOf CX0 P w K mg base names_turns_at_odd "turns_at_odd" (defScope st_turns_at_odd) f cdv A outer s H E).nox (defBody st_turns_at_odd) (t_turns_at_odd K) := by
  have scN := sc_turns_at_odd.nd
  exact (pss_cons (ps_asg (C8.pe_c c_split_at hr (by decide) (by rfl) (pa_cons (pv 0) (pa_cons (pv 2) pa_nil))) (pg_tup rfl (pgs_cons (pg_name (i := 3) scN rfl (.inl rfl)) (pgs_cons (pg_name (i := 4) scN rfl (.inl rfl)) pgs_nil)))) (pss_cons (ps_asg (C8.pe_c c_split_at hr (by decide) (by rfl) (pa_cons (pv 1) (pa_cons (pv 2) pa_nil))) (pg_tup rfl (pgs_cons (pg_name (i := 5) scN rfl (.inl rfl)) (pgs_cons (pg_name (i := 6) scN rfl (.inl rfl)) pgs_nil)))) (pss_cons (ps_set (i := 7) scN rfl (.inl rfl) (pe_op op_mul (pe_op op_mul (pv 3) (pv 5)) (pe_op op_fdiv (pe_op op_sub (pv 2) pe_int) pe_int))) (pss_cons (ps_if (pt_cmpR op_eq (C8.pe_c c_square_by hr (by decide) (by rfl) (pa_cons (pv 4) (pa_cons (pv 2) pa_nil))) (pe_un un_neg pe_int) (nomark _)) (pss_one (ps_aug (i := 7) scN rfl (.inl rfl) (pv 5) ip_add)) pss_nil) (pss_cons (ps_if (pt_cmpR op_eq (C8.pe_c c_square_by hr (by decide) (by rfl) (pa_cons (pv 6) (pa_cons (pv 2) pa_nil))) (pe_un un_neg pe_int) (nomark _)) (pss_one (ps_aug (i := 7) scN rfl (.inl rfl) (pv 3) ip_add)) pss_nil) (pss_one (ps_ret (pv 7))))))))
theorem d_says {P : Program} {w : World} {K : PySem.W.Frag} {mg : Str → Option Value} {base : Heap} (c_turns_at_two : C8.Cal P w K mg base 2 "turns_at_two" sp_turns_at_two []) (c_turns_at_odd : C8.Cal P w K mg base 3 "turns_at_odd" sp_turns_at_odd []) {f : Addr} {cdv : Value} {A : Around} {outer : List Env} {s : Shared} {H : Hp} {E : XK} (hr : Room 3 (A.deeper (envOfC "says" (defScope st_says) s.heap.objs.size f cdv))) :
    PSs (cxOf CX0 P w K mg base names_says "says" (defScope st_says) f cdv A outer s H E).nox (defBody st_says) (t_says K) := by
  have scN := sc_says.nd
  exact (pss_cons (ps_if (pt_cmpR op_eq (pv 2) pe_int (nomark _)) (pss_one (ps_ret (pe_or (pe_cmpR op_gt (pv 0) pe_int (nomark _)) (pe_one (pe_cmpR op_gt (pv 1) pe_int (nomark _)))))) pss_nil) (pss_cons (ps_if (pt_cmpR op_eq (pv 2) pe_int (nomark _)) (pss_one (ps_ret (pe_cmpR op_eq (pe_op op_mod (C8.pe_c c_turns_at_two hr (by decide) (by rfl) (pa_cons (pv 0) (pa_cons (pv 1) pa_nil))) pe_int) pe_int (nomark _)))) pss_nil) (pss_one (ps_ret (pe_cmpR op_eq (pe_op op_mod (C8.pe_c c_turns_at_odd hr (by decide) (by rfl) (pa_cons (pv 0) (pa_cons (pv 1) (pa_cons (pv 2) pa_nil)))) pe_int) pe_int (nomark _))))))
theorem d_places_of {P : Program} {w : World} {K : PySem.W.Frag} {mg : Str → Option Value} {base : Heap} (c_parts : C8.Cal P w K mg base 2 "parts" sp_parts []) (n_abs : mg "abs" = none) (n_sorted : mg "sorted" = none) {f : Addr} {cdv : Value} {A : Around} {outer : List Env} {s : Shared} {H : Hp} {E : XK} (hr : Room 2 (A.deeper (envOfC "places_of" (defScope st_places_of) s.heap.objs.size f cdv))) :
    PSs (cxOf CX0 P w K mg base names_places_of "places_of" (defScope st_places_of) f cdv A outer s H E).nox (defBody st_places_of) (t_places_of K) := by
  have scN := sc_places_of.nd
  exact (pss_cons (ps_set (i := 1) scN rfl (.inl rfl) (pe_disp (pps_cons pe_int pe_bl (pps_cons pe_int pe_bl pps_nil)) (by rfl) (by rfl) (fun z => by cases z) (by decide))) (pss_cons (ps_for PassesOwn.never rfl (pi_list (pv 0)) (pg_name (i := 2) scN rfl (.inl rfl)) (pss_one (ps_for PassesOwn.never rfl (pi_list (C8.pe_c c_parts hr (by decide) (by rfl) (pa_cons (pe_callB call_abs (by rfl) n_abs (by decide +kernel) (pa_cons (pv 2) pa_nil)) pa_nil))) (pg_tup rfl (pgs_cons (pg_name (i := 3) scN rfl (.inl rfl)) (pgs_cons (pg_name (i := 4) scN rfl (.inl rfl)) pgs_nil))) (pss_one (ps_dput (hu_of hr) (pv 1) (pv 3) pe_bl (by rfl)))))) (pss_one (ps_ret (pe_callB (call_sortedDI rfl) (by rfl) n_sorted (by decide +kernel) (pa_cons (pv 1) pa_nil))))))
theorem d_class_at {P : Program} {w : World} {K : PySem.W.Frag} {mg : Str → Option Value} {base : Heap} (c_split_at : C8.Cal P w K mg base 1 "split_at" sp_split_at []) (c_square_by : C8.Cal P w K mg base 2 "square_by" sp_square_by []) {f : Addr} {cdv : Value} {A : Around} {outer : List Env} {s : Shared} {H : Hp} {E : XK} (hr : Room 2 (A.deeper (envOfC "class_at" (defScope st_class_at) s.heap.objs.size f cdv))) :
    PSs (cxOf CX0 P w K mg base names_class_at "class_at" (defScope st_class_at) f cdv A outer s H E).nox (defBody st_class_at) (t_class_at K) := by
  have scN := sc_class_at.nd
  exact (pss_cons (ps_if (pt_cmpR op_eq (pv 1) pe_int (nomark _)) (pss_one (ps_ret (pe_ifExp (pt_cmpR op_gt (pv 0) pe_int (nomark _)) pe_int (pe_un un_neg pe_int)))) pss_nil) (pss_cons (ps_asg (C8.pe_c c_split_at hr (by decide) (by rfl) (pa_cons (pv 0) (pa_cons (pv 1) pa_nil))) (pg_tup rfl (pgs_cons (pg_name (i := 2) scN rfl (.inl rfl)) (pgs_cons (pg_name (i := 3) scN rfl (.inl rfl)) pgs_nil)))) (pss_cons (ps_if (pt_cmpR op_eq (pv 1) pe_int (nomark _)) (pss_one (ps_ret (pe_tup (pa_cons (pe_op op_mod (pv 2) pe_int) (pa_cons (pe_op op_mod (pv 3) pe_int) pa_nil))))) pss_nil) (pss_one (ps_ret (pe_tup (pa_cons (pe_op op_mod (pv 2) pe_int) (pa_cons (C8.pe_c c_square_by hr (by decide) (by rfl) (pa_cons (pv 3) (pa_cons (pv 1) pa_nil))) pa_nil))))))))
theorem d_is_square_at {P : Program} {w : World} {K : PySem.W.Frag} {mg : Str → Option Value} {base : Heap} (c_class_at : C8.Cal P w K mg base 3 "class_at" sp_class_at []) {f : Addr} {cdv : Value} {A : Around} {outer : List Env} {s : Shared} {H : Hp} {E : XK} (hr : Room 3 (A.deeper (envOfC "is_square_at" (defScope st_is_square_at) s.heap.objs.size f cdv))) :
    PSs (cxOf CX0 P w K mg base names_is_square_at "is_square_at" (defScope st_is_square_at) f cdv A outer s H E).nox (defBody st_is_square_at) (t_is_square_at K) := by
  have scN := sc_is_square_at.nd
  exact (pss_cons (ps_if (pt_cmpR op_eq (pv 1) pe_int (nomark _)) (pss_one (ps_ret (pe_cmpR op_gt (pv 0) pe_int (nomark _)))) pss_nil) (pss_one (ps_ret (pe_cmpR (op_eqD hr.units) (C8.pe_c c_class_at hr (by decide) (by rfl) (pa_cons (pv 0) (pa_cons (pv 1) pa_nil))) (pe_tup (pa_cons pe_int (pa_cons pe_int pa_nil))) (nomark _)))))
theorem d_is_row {P : Program} {w : World} {K : PySem.W.Frag} {mg : Str → Option Value} {base : Heap} (n_len : mg "len" = none) (n_int : mg "int" = none) (n_isinstance : mg "isinstance" = none) (n_bool : mg "bool" = none) (n_abs : mg "abs" = none) {k_LONGEST : Tok} (g_LONGEST : mg "LONGEST" = some (.int 8 k_LONGEST)) {k_MOST : Tok} (g_MOST : mg "MOST" = some (.int 1073741824 k_MOST)) {f : Addr} {cdv : Value} {A : Around} {outer : List Env} {s : Shared} {H : Hp} {E : XK} (hr : Room 0 (A.deeper (envOfC "is_row" (defScope st_is_row) s.heap.objs.size f cdv))) :
    PSs (cxOf CX0 P w K mg base names_is_row "is_row" (defScope st_is_row) f cdv A outer s H E).nox (defBody st_is_row) (t_is_row K) := by
  have scN := sc_is_row.nd
  exact (pss_cons (ps_if (PW.pt (pw_or (pt_cmpR op_lt (pe_callB call_len_seq (by rfl) n_len PySem.boot_len (pa_cons (pv 0) pa_nil)) pe_int (nomark _)) (pw_or1 (pt_cmpR op_gt (pe_callB call_len_seq (by rfl) n_len PySem.boot_len (pa_cons (pv 0) pa_nil)) (pe_glob (by rfl) g_LONGEST ⟨_, rfl⟩) (nomark _))))) (pss_one (ps_ret pe_bl)) pss_nil) (pss_cons (ps_for PassesOwn.never rfl (pi_list (pv 0)) (pg_name (i := 1) scN rfl (.inl rfl)) (pss_one (ps_if (PW.pt (pw_or (pt_not (pt_val (pe_callB call_isi (by rfl) n_isinstance (by decide +kernel) (pa_cons (pv 1) (pa_cons (pe_bltn (by rfl) n_int (by decide +kernel) rfl) pa_nil))))) (pw_or (pt_val (pe_callB call_isi (by rfl) n_isinstance (by decide +kernel) (pa_cons (pv 1) (pa_cons (pe_bltn (by rfl) n_bool (by decide +kernel) rfl) pa_nil)))) (pw_or (pt_cmpR op_eq (pv 1) pe_int (nomark _)) (pw_or1 (pt_cmpR op_ge (pe_callB call_abs (by rfl) n_abs (by decide +kernel) (pa_cons (pv 1) pa_nil)) (pe_glob (by rfl) g_MOST ⟨_, rfl⟩) (nomark _))))))) (pss_one (ps_ret pe_bl)) pss_nil))) (pss_one (ps_ret pe_bl))))
theorem d_must_be_row {P : Program} {w : World} {K : PySem.W.Frag} {mg : Str → Option Value} {base : Heap} (c_is_row : C8.Cal P w K mg base 1 "is_row" sp_is_row []) {f : Addr} {cdv : Value} {A : Around} {outer : List Env} {s : Shared} {H : Hp} {E : XK} (hr : Room 1 (A.deeper (envOfC "must_be_row" (defScope st_must_be_row) s.heap.objs.size f cdv))) :
    PSs (cxOf CX0 P w K mg base names_must_be_row "must_be_row" (defScope st_must_be_row) f cdv A outer s H E).nox (defBody st_must_be_row) (t_must_be_row K) := by
  have scN := sc_must_be_row.nd
  exact (pss_one (ps_if (pt_not (pt_val (C8.pe_c c_is_row hr (by decide) (by rfl) (pa_cons (pv 0) pa_nil)))) (pss_one ps_never) pss_nil))
theorem d_divisor {P : Program} {w : World} {K : PySem.W.Frag} {mg : Str → Option Value} {base : Heap} (n_abs : mg "abs" = none) {f : Addr} {cdv : Value} {A : Around} {outer : List Env} {s : Shared} {H : Hp} {E : XK} (hr : Room 0 (A.deeper (envOfC "divisor" (defScope st_divisor) s.heap.objs.size f cdv))) :
    PSs (cxOf CX0 P w K mg base names_divisor "divisor" (defScope st_divisor) f cdv A outer s H E).nox (defBody st_divisor) (t_divisor K) := by
  have scN := sc_divisor.nd
  exact (pss_cons (ps_while PassesOwn.never (pt_cmpR op_ne (pv 1) pe_int (nomark _)) (pss_cons (ps_set (i := 2) scN rfl (.inl rfl) (pe_op op_modN (pv 0) (pv 1))) (pss_cons (ps_set (i := 0) scN rfl (.inl rfl) (pv 1)) (pss_one (ps_set (i := 1) scN rfl (.inl rfl) (pv 2)))))) (pss_one (ps_ret (pe_callB call_abs (by rfl) n_abs (by decide +kernel) (pa_cons (pv 0) pa_nil)))))
theorem d_fpr {P : Program} {w : World} {K : PySem.W.Frag} {mg : Str → Option Value} {base : Heap} (c_free_of : C8.Cal P w K mg base 3 "free_of" sp_free_of []) (c_divisor : C8.Cal P w K mg base 1 "divisor" sp_divisor []) {f : Addr} {cdv : Value} {A : Around} {outer : List Env} {s : Shared} {H : Hp} {E : XK} (hr : Room 3 (A.deeper (envOfC "free_product" (defScope st_fpr) s.heap.objs.size f cdv))) :
    PSs (cxOf CX0 P w K mg base names_fpr "free_product" (defScope st_fpr) f cdv A outer s H E).nox (defBody st_fpr) (t_fpr K) := by
  have scN := sc_fpr.nd
  exact (pss_cons (ps_set (i := 1) scN rfl (.inl rfl) pe_int) (pss_cons (ps_for PassesOwn.never rfl (pi_list (pv 0)) (pg_name (i := 2) scN rfl (.inl rfl)) (pss_cons (ps_set (i := 3) scN rfl (.inl rfl) (C8.pe_c c_free_of hr (by decide) (by rfl) (pa_cons (pv 2) pa_nil))) (pss_cons (ps_set (i := 4) scN rfl (.inl rfl) (C8.pe_c c_divisor hr (by decide) (by rfl) (pa_cons (pv 1) (pa_cons (pv 3) pa_nil)))) (pss_one (ps_set (i := 1) scN rfl (.inl rfl) (pe_op op_mul (pe_op op_fdiv (pv 1) (pv 4)) (pe_op op_fdiv (pv 3) (pv 4)))))))) (pss_one (ps_ret (pv 1)))))
theorem d_signs_of {P : Program} {w : World} {K : PySem.W.Frag} {mg : Str → Option Value} {base : Heap} (c_must_be_row : C8.Cal P w K mg base 2 "must_be_row" sp_must_be_row []) (n_len : mg "len" = none) {f : Addr} {cdv : Value} {A : Around} {outer : List Env} {s : Shared} {H : Hp} {E : XK} (hr : Room 2 (A.deeper (envOfC "signs_of" (defScope st_signs_of) s.heap.objs.size f cdv))) :
    PSs (cxOf CX0 P w K mg base names_signs_of "signs_of" (defScope st_signs_of) f cdv A outer s H E).nox (defBody st_signs_of) (t_signs_of K) := by
  have scN := sc_signs_of.nd
  exact (pss_cons (ps_expr (C8.pe_c c_must_be_row hr (by decide) (by rfl) (pa_cons (pv 0) pa_nil))) (pss_one (ps_ret (pe_callB call_len_seq (by rfl) n_len PySem.boot_len (pa_cons (pe_lc (own := [("k", 1)]) (g := gName 1) (tt := (tTest (tOp kGt (tVar 1) (tC (.int 0))))) (by rfl) scN (pi_list (pv 0)) (blkOk_by (own := [("k", 1)]) (N := names_signs_of) (sc := defScope st_signs_of) (by decide +kernel)) (fun _ _ _ _ _ => pg_name (i := 1) scN rfl (Or.inl rfl)) (fun _ _ _ _ _ => (pts_one (pt_cmpR op_gt (pv 1) pe_int (nomark _)))) (fun _ _ _ _ _ => (pv 1))) pa_nil)))))
theorem d_is_odd_at {P : Program} {w : World} {K : PySem.W.Frag} {mg : Str → Option Value} {base : Heap} (c_says : C8.Cal P w K mg base 4 "says" sp_says []) (n_range : mg "range" = none) (n_len : mg "len" = none) {f : Addr} {cdv : Value} {A : Around} {outer : List Env} {s : Shared} {H : Hp} {E : XK} (hr : Room 4 (A.deeper (envOfC "is_odd_at" (defScope st_is_odd_at) s.heap.objs.size f cdv))) :
    PSs (cxOf CX0 P w K mg base names_is_odd_at "is_odd_at" (defScope st_is_odd_at) f cdv A outer s H E).nox (defBody st_is_odd_at) (t_is_odd_at K) := by
  have scN := sc_is_odd_at.nd
  exact (pss_cons (ps_set (i := 2) scN rfl (.inl rfl) pe_int) (pss_cons (ps_for PassesOwn.never rfl (pi_range1 (by rfl) n_range (pa_cons (pe_callB call_len_seq (by rfl) n_len PySem.boot_len (pa_cons (pv 0) pa_nil)) pa_nil)) (pg_name (i := 3) scN rfl (.inl rfl)) (pss_one (ps_for PassesOwn.never rfl (pi_range2 (by rfl) n_range (pa_cons (pe_op op_add (pv 3) pe_int) (pa_cons (pe_callB call_len_seq (by rfl) n_len PySem.boot_len (pa_cons (pv 0) pa_nil)) pa_nil))) (pg_name (i := 4) scN rfl (.inl rfl)) (pss_one (ps_if (pt_not (pt_val (C8.pe_c c_says hr (by decide) (by rfl) (pa_cons (pe_ix ix_list (pv 0) (pv 3) (fun _ _ => rfl)) (pa_cons (pe_ix ix_list (pv 0) (pv 4) (fun _ _ => rfl)) (pa_cons (pv 1) pa_nil)))))) (pss_one (ps_aug (i := 2) scN rfl (.inl rfl) pe_int ip_add)) pss_nil))))) (pss_one (ps_ret (pe_cmpR op_eq (pe_op op_mod (pv 2) pe_int) pe_int (nomark _))))))
theorem d_noes_of {P : Program} {w : World} {K : PySem.W.Frag} {mg : Str → Option Value} {base : Heap} (c_must_be_row : C8.Cal P w K mg base 2 "must_be_row" sp_must_be_row []) (c_places_of : C8.Cal P w K mg base 3 "places_of" sp_places_of []) (c_is_odd_at : C8.Cal P w K mg base 5 "is_odd_at" sp_is_odd_at []) {f : Addr} {cdv : Value} {A : Around} {outer : List Env} {s : Shared} {H : Hp} {E : XK} (hr : Room 5 (A.deeper (envOfC "noes_of" (defScope st_noes_of) s.heap.objs.size f cdv))) :
    PSs (cxOf CX0 P w K mg base names_noes_of "noes_of" (defScope st_noes_of) f cdv A outer s H E).nox (defBody st_noes_of) (t_noes_of K) := by
  have scN := sc_noes_of.nd
  exact (pss_cons (ps_expr (C8.pe_c c_must_be_row hr (by decide) (by rfl) (pa_cons (pv 0) pa_nil))) (pss_one (ps_ret (pe_lc (own := [("p", 1)]) (g := gName 1) (tt := (tB (tCall sp_is_odd_at [] E0 (tCons (tVar 0) (tCons (tVar 1) tNil))))) (by rfl) scN (pi_list (C8.pe_c c_places_of hr (by decide) (by rfl) (pa_cons (pv 0) pa_nil))) (blkOk_by (own := [("p", 1)]) (N := names_noes_of) (sc := defScope st_noes_of) (by decide +kernel)) (fun _ _ _ _ _ => pg_name (i := 1) scN rfl (Or.inl rfl)) (fun _ _ _ _ _ => (pts_one (pt_val (C8.pe_c c_is_odd_at hr (by decide) (by rfl) (pa_cons (pv 0) (pa_cons (pv 1) pa_nil)))))) (fun _ _ _ _ _ => (pv 1))))))
theorem d_fpt {P : Program} {w : World} {K : PySem.W.Frag} {mg : Str → Option Value} {base : Heap} (c_free_of : C8.Cal P w K mg base 3 "free_of" sp_free_of []) (c_common : C8.Cal P w K mg base 1 "common" sp_common []) {f : Addr} {cdv : Value} {A : Around} {outer : List Env} {s : Shared} {H : Hp} {E : XK} (hr : Room 3 (A.deeper (envOfC "free_product" (defScope st_fpt) s.heap.objs.size f cdv))) :
    PSs (cxOf CX0 P w K mg base names_fpt "free_product" (defScope st_fpt) f cdv A outer s H E).nox (defBody st_fpt) (t_fpt K) := by
  have scN := sc_fpt.nd
  exact (pss_cons (ps_set (i := 2) scN rfl (.inl rfl) (C8.pe_c c_free_of hr (by decide) (by rfl) (pa_cons (pv 0) pa_nil))) (pss_cons (ps_set (i := 3) scN rfl (.inl rfl) (C8.pe_c c_free_of hr (by decide) (by rfl) (pa_cons (pv 1) pa_nil))) (pss_cons (ps_set (i := 4) scN rfl (.inl rfl) (C8.pe_c c_common hr (by decide) (by rfl) (pa_cons (pv 2) (pa_cons (pv 3) pa_nil)))) (pss_one (ps_ret (pe_op op_fdiv (pe_op op_fdiv (pe_op op_mul (pv 2) (pv 3)) (pv 4)) (pv 4)))))))
theorem d_known_part {P : Program} {w : World} {K : PySem.W.Frag} {mg : Str → Option Value} {base : Heap} (n_zip : mg "zip" = none) {aS : Addr} (g_SMALL : mg "SMALL" = some (.ref aS)) {f : Addr} {cdv : Value} {A : Around} {outer : List Env} {s : Shared} {H : Hp} {E : XK} (hr : Room 0 (A.deeper (envOfC "known_part" (defScope st_known_part) s.heap.objs.size f cdv))) :
    PSs (cxOf CX0 P w K mg base names_known_part "known_part" (defScope st_known_part) f cdv A outer s H E).nox (defBody st_known_part) (t_known_part K aS) := by
  have scN := sc_known_part.nd
  exact (pss_cons (ps_set (i := 1) scN rfl (.inl rfl) (pe_ix ix_list (pv 0) pe_int (fun _ _ => rfl))) (pss_cons (ps_for PassesOwn.never rfl (pi_zipM (by rfl) n_zip (pa_cons (pe_glob (by rfl) g_SMALL rfl) (pa_cons (pe_slice sl_list (pv 0) (po_some pe_int) po_none) pa_nil))) (pg_tup rfl (pgs_cons (pg_name (i := 2) scN rfl (.inl rfl)) (pgs_cons (pg_name (i := 3) scN rfl (.inl rfl)) pgs_nil))) (pss_one (ps_if (pt_cmpR op_eq (pe_ix ix_tup (pv 3) pe_int (fun _ _ => rfl)) pe_int (nomark _)) (pss_one (ps_set (i := 1) scN rfl (.inl rfl) (pe_op op_mul (pv 1) (pv 2)))) pss_nil))) (pss_one (ps_ret (pv 1)))))
theorem d_left_of {P : Program} {w : World} {K : PySem.W.Frag} {mg : Str → Option Value} {base : Heap} {f : Addr} {cdv : Value} {A : Around} {outer : List Env} {s : Shared} {H : Hp} {E : XK} (hr : Room 0 (A.deeper (envOfC "left_of" (defScope st_left_of) s.heap.objs.size f cdv))) :
    PSs (cxOf CX0 P w K mg base names_left_of "left_of" (defScope st_left_of) f cdv A outer s H E).nox (defBody st_left_of) (t_left_of K) := by
  have scN := sc_left_of.nd
  exact (pss_cons (ps_if (pt_cmpR op_eq (pe_op op_mod (pv 0) (pv 1)) pe_int (nomark _)) (pss_one (ps_ret (pe_op op_fdiv (pv 0) (pv 1)))) pss_nil) (pss_one (ps_ret (pv 0))))
theorem d_wanted {P : Program} {w : World} {K : PySem.W.Frag} {mg : Str → Option Value} {base : Heap} (c_left_of : C8.Cal P w K mg base 1 "left_of" sp_left_of []) (c_square_by : C8.Cal P w K mg base 2 "square_by" sp_square_by []) (n_zip : mg "zip" = none) {aO : Addr} (g_ODD : mg "ODD" = some (.ref aO)) {f : Addr} {cdv : Value} {A : Around} {outer : List Env} {s : Shared} {H : Hp} {E : XK} (hr : Room 2 (A.deeper (envOfC "wanted" (defScope st_wanted) s.heap.objs.size f cdv))) :
    PSs (cxOf CX0 P w K mg base names_wanted "wanted" (defScope st_wanted) f cdv A outer s H E).nox (defBody st_wanted) (t_wanted K aO) := by
  have scN := sc_wanted.nd
  exact (pss_cons (ps_set (i := 2) scN rfl (.inl rfl) (pe_op op_mod (pe_op op_mul (pe_ix ix_tup (pe_ix ix_list (pv 1) pe_int (fun _ _ => rfl)) pe_int (fun _ _ => rfl)) (C8.pe_c c_left_of hr (by decide) (by rfl) (pa_cons (pv 0) (pa_cons pe_int pa_nil)))) pe_int)) (pss_cons (ps_set (i := 3) scN rfl (.inl rfl) (pe_lst pa_nil)) (pss_cons (ps_for PassesOwn.never rfl (pi_zipM (by rfl) n_zip (pa_cons (pe_glob (by rfl) g_ODD rfl) (pa_cons (pe_slice sl_list (pv 1) (po_some pe_int) po_none) pa_nil))) (pg_tup rfl (pgs_cons (pg_name (i := 4) scN rfl (.inl rfl)) (pgs_cons (pg_name (i := 5) scN rfl (.inl rfl)) pgs_nil))) (pss_one (ps_expr (pe_bm PySem.F.plainAttrs_list PySem.F.slot_list_append PySem.F.type_list_append mt_append (pv 3) (pa_cons (pe_op op_mul (pe_ix ix_tup (pv 5) pe_int (fun _ _ => rfl)) (C8.pe_c c_square_by hr (by decide) (by rfl) (pa_cons (C8.pe_c c_left_of hr (by decide) (by rfl) (pa_cons (pv 0) (pa_cons (pv 4) pa_nil))) (pa_cons (pv 4) pa_nil)))) pa_nil))))) (pss_one (ps_ret (pe_tup (pa_cons (pv 2) (pa_cons (pv 3) pa_nil))))))))
theorem d_fits {P : Program} {w : World} {K : PySem.W.Frag} {mg : Str → Option Value} {base : Heap} (c_square_by : C8.Cal P w K mg base 2 "square_by" sp_square_by []) (n_zip : mg "zip" = none) {aO : Addr} (g_ODD : mg "ODD" = some (.ref aO)) {f : Addr} {cdv : Value} {A : Around} {outer : List Env} {s : Shared} {H : Hp} {E : XK} (hr : Room 2 (A.deeper (envOfC "fits" (defScope st_fits) s.heap.objs.size f cdv))) :
    PSs (cxOf CX0 P w K mg base names_fits "fits" (defScope st_fits) f cdv A outer s H E).nox (defBody st_fits) (t_fits K aO) := by
  have scN := sc_fits.nd
  exact (pss_cons (ps_if (pt_cmpR op_ne (pe_op op_mod (pv 0) pe_int) (pe_ix ix_tup (pv 1) pe_int (fun _ _ => rfl)) (nomark _)) (pss_one (ps_ret pe_bl)) pss_nil) (pss_cons (ps_for PassesOwn.never rfl (pi_zipM (by rfl) n_zip (pa_cons (pe_glob (by rfl) g_ODD rfl) (pa_cons (pe_ix ix_tup (pv 1) pe_int (fun _ _ => rfl)) pa_nil))) (pg_tup rfl (pgs_cons (pg_name (i := 2) scN rfl (.inl rfl)) (pgs_cons (pg_name (i := 3) scN rfl (.inl rfl)) pgs_nil))) (pss_one (ps_if (pt_cmpR op_ne (C8.pe_c c_square_by hr (by decide) (by rfl) (pa_cons (pv 0) (pa_cons (pv 2) pa_nil))) (pv 3) (nomark _)) (pss_one (ps_ret pe_bl)) pss_nil))) (pss_one (ps_ret pe_bl))))
theorem d_number_with_also {P : Program} {w : World} {K : PySem.W.Frag} {mg : Str → Option Value} {base : Heap} (c_known_part : C8.Cal P w K mg base 1 "known_part" sp_known_part []) (c_wanted : C8.Cal P w K mg base 3 "wanted" sp_wanted []) (c_fits : C8.Cal P w K mg base 3 "fits" sp_fits []) (c_is_prime : C8.Cal P w K mg base 1 "is_prime" sp_is_prime []) (c_square_by : C8.Cal P w K mg base 2 "square_by" sp_square_by []) {f : Addr} {cdv : Value} {A : Around} {outer : List Env} {s : Shared} {H : Hp} {E : XK} (hr : Room 3 (A.deeper (envOfC "number_with_also" (defScope st_number_with_also) s.heap.objs.size f cdv))) :
    PSs (cxOf CX0 P w K mg base names_number_with_also "number_with_also" (defScope st_number_with_also) f cdv A outer s H E).nox (defBody st_number_with_also) (t_number_with_also K) := by
  have scN := sc_number_with_also.nd
  exact (pss_cons (ps_set (i := 3) scN rfl (.inl rfl) (C8.pe_c c_known_part hr (by decide) (by rfl) (pa_cons (pv 0) pa_nil))) (pss_cons (ps_set (i := 4) scN rfl (.inl rfl) (C8.pe_c c_wanted hr (by decide) (by rfl) (pa_cons (pv 3) (pa_cons (pv 0) pa_nil)))) (pss_cons (ps_set (i := 5) scN rfl (.inl rfl) pe_int) (pss_one (ps_while PassesOwn.never (pt_val pe_bl) (pss_cons (ps_if (PW.pt (pw_and (pt_cmpR op_ne (pv 5) (pv 1) (nomark _)) (pw_and (pt_val (C8.pe_c c_fits hr (by decide) (by rfl) (pa_cons (pv 5) (pa_cons (pv 4) pa_nil)))) (pw_and1 (PW.pt (pw_or (pt_cmpR op_eq (pv 5) pe_int (nomark _)) (pw_or1 (pt_val (C8.pe_c c_is_prime hr (by decide) (by rfl) (pa_cons (pv 5) pa_nil)))))))))) (pss_one (ps_if (PW.pt (pw_or (pt_cmpR op_eq (pv 2) pe_int (nomark _)) (pw_or1 (pt_cmpR op_eq (C8.pe_c c_square_by hr (by decide) (by rfl) (pa_cons (pe_op op_mul (pv 3) (pv 5)) (pa_cons (pv 1) pa_nil))) (pv 2) (nomark _))))) (pss_one (ps_ret (pe_op op_mul (pv 3) (pv 5)))) pss_nil)) pss_nil) (pss_cons (ps_if (pt_cmpR op_eq (pv 5) pe_int (nomark _)) (pss_one (ps_set (i := 5) scN rfl (.inl rfl) pe_int)) pss_nil) (pss_one (ps_aug (i := 5) scN rfl (.inl rfl) pe_int ip_add)))))))))
theorem d_number_with {P : Program} {w : World} {K : PySem.W.Frag} {mg : Str → Option Value} {base : Heap} (c_number_with_also : C8.Cal P w K mg base 4 "number_with_also" sp_number_with_also []) {f : Addr} {cdv : Value} {A : Around} {outer : List Env} {s : Shared} {H : Hp} {E : XK} (hr : Room 4 (A.deeper (envOfC "number_with" (defScope st_number_with) s.heap.objs.size f cdv))) :
    PSs (cxOf CX0 P w K mg base names_number_with "number_with" (defScope st_number_with) f cdv A outer s H E).nox (defBody st_number_with) (t_number_with K) := by
  have scN := sc_number_with.nd
  exact (pss_one (ps_ret (C8.pe_c c_number_with_also hr (by decide) (by rfl) (pa_cons (pv 0) (pa_cons pe_int (pa_cons pe_int pa_nil))))))
theorem d_kinds_at {P : Program} {w : World} {K : PySem.W.Frag} {mg : Str → Option Value} {base : Heap} {aN : Addr} (g_NONE_BY : mg "NONE_BY" = some (.ref aN)) {f : Addr} {cdv : Value} {A : Around} {outer : List Env} {s : Shared} {H : Hp} {E : XK} (hr : Room 0 (A.deeper (envOfC "kinds_at" (defScope st_kinds_at) s.heap.objs.size f cdv))) :
    PSs (cxOf CX0 P w K mg base names_kinds_at "kinds_at" (defScope st_kinds_at) f cdv A outer s H E).nox (defBody st_kinds_at) (t_kinds_at K aN) := by
  have scN := sc_kinds_at.nd
  exact (pss_cons (ps_if (pt_cmpR op_eq (pv 0) pe_int (nomark _)) (pss_one (ps_ret (pe_lst (pa_cons pe_int (pa_cons (pe_un un_neg pe_int) pa_nil))))) pss_nil) (pss_cons (ps_if (pt_cmpR op_eq (pv 0) pe_int (nomark _)) (pss_one (ps_ret (pe_lst (pa_cons pe_int (pa_cons pe_int (pa_cons pe_int (pa_cons pe_int (pa_cons pe_int (pa_cons pe_int (pa_cons pe_int (pa_cons pe_int pa_nil))))))))))) pss_nil) (pss_one (ps_ret (pe_lst (pa_cons pe_int (pa_cons (pe_ix ix_kdictI (pe_glob (by rfl) g_NONE_BY rfl) (pv 0) (fun _ _ => rfl)) (pa_cons (pv 0) (pa_cons (pe_op op_mul (pv 0) (pe_ix ix_kdictI (pe_glob (by rfl) g_NONE_BY rfl) (pv 0) (fun _ _ => rfl))) pa_nil)))))))))
theorem d_can_be {P : Program} {w : World} {K : PySem.W.Frag} {mg : Str → Option Value} {base : Heap} (c_is_square_at : C8.Cal P w K mg base 4 "is_square_at" sp_is_square_at []) (n_len : mg "len" = none) {f : Addr} {cdv : Value} {A : Around} {outer : List Env} {s : Shared} {H : Hp} {E : XK} (hr : Room 4 (A.deeper (envOfC "can_be" (defScope st_can_be) s.heap.objs.size f cdv))) :
    PSs (cxOf CX0 P w K mg base names_can_be "can_be" (defScope st_can_be) f cdv A outer s H E).nox (defBody st_can_be) (t_can_be K) := by
  have scN := sc_can_be.nd
  exact (pss_cons (ps_asg (pv 0) (pg_tup rfl (pgs_cons (pg_name (i := 1) scN rfl (.inl rfl)) (pgs_cons (pg_name (i := 2) scN rfl (.inl rfl)) (pgs_cons (pg_name (i := 3) scN rfl (.inr rfl)) (pgs_cons (pg_name (i := 4) scN rfl (.inl rfl)) pgs_nil)))))) (pss_cons (ps_set (i := 5) scN rfl (.inl rfl) (pe_op op_sub (pv 1) (pv 2))) (pss_cons (ps_if (PW.pt (pw_or (pt_cmpR op_ne (pe_cmpR op_lt (pv 3) pe_int (nomark _)) (pe_cmpR op_eq (pe_op op_mod (pv 5) pe_int) pe_int (nomark _)) (nomark _)) (pw_or1 (pt_cmpR op_eq (pe_op op_mod (pe_callB call_len_seq (by rfl) n_len PySem.boot_len (pa_cons (pv 4) pa_nil)) pe_int) pe_int (nomark _))))) (pss_one (ps_ret pe_bl)) pss_nil) (pss_cons (ps_if (pt_cmpR op_ne (pe_cmpR op_in_seq pe_int (pv 4) (by rfl)) (pe_cmpR op_eq (pe_op op_mod (pe_op op_fdiv (pe_op op_mul (pv 5) (pe_op op_sub (pv 5) pe_int)) pe_int) pe_int) pe_int (nomark _)) (nomark _)) (pss_one (ps_ret pe_bl)) pss_nil) (pss_cons (ps_if (pt_cmpR op_eq (pv 1) pe_int (nomark _)) (pss_one (ps_ret (pe_cmpR op_eq (pe_callB call_len_seq (by rfl) n_len PySem.boot_len (pa_cons (pv 4) pa_nil)) pe_int (nomark _)))) pss_nil) (pss_cons (ps_if (pt_cmpR op_eq (pv 1) pe_int (nomark _)) (pss_one (ps_ret (pe_cmpR op_eq (pe_callB call_len_seq (by rfl) n_len PySem.boot_len (pa_cons (pe_lc (own := [("p", 6)]) (g := gName 6) (tt := (tB (tCall sp_is_square_at [] E0 (tCons (tOp kSub (tC (.int 0)) (tVar 3)) (tCons (tVar 6) tNil))))) (by rfl) scN (pi_list (pv 4)) (blkOk_by (own := [("p", 6)]) (N := names_can_be) (sc := defScope st_can_be) (by decide +kernel)) (fun _ _ _ _ _ => pg_name (i := 6) scN rfl (Or.inl rfl)) (fun _ _ _ _ _ => (pts_one (pt_val (C8.pe_c c_is_square_at hr (by decide) (by rfl) (pa_cons (pe_op op_sub pe_int (pv 3)) (pa_cons (pv 6) pa_nil)))))) (fun _ _ _ _ _ => (pv 6))) pa_nil)) pe_int (nomark _)))) pss_nil) (pss_one (ps_ret pe_bl))))))))
theorem d_first_number {P : Program} {w : World} {K : PySem.W.Frag} {mg : Str → Option Value} {base : Heap} (n_abs : mg "abs" = none) {k_ALL : Tok} (g_ALL : mg "ALL" = some (.int 30030 k_ALL)) {f : Addr} {cdv : Value} {A : Around} {outer : List Env} {s : Shared} {H : Hp} {E : XK} (hr : Room 0 (A.deeper (envOfC "first_number" (defScope st_first_number) s.heap.objs.size f cdv))) :
    PSs (cxOf CX0 P w K mg base names_first_number "first_number" (defScope st_first_number) f cdv A outer s H E).nox (defBody st_first_number) (t_first_number K) := by
  have scN := sc_first_number.nd
  exact (pss_cons (ps_set (i := 3) scN rfl (.inl rfl) pe_int) (pss_cons (ps_if (pt_cmpR op_eq (pv 0) pe_int (nomark _)) (pss_one (ps_set (i := 3) scN rfl (.inl rfl) (pe_op op_fdiv (pe_glob (by rfl) g_ALL ⟨_, rfl⟩) (pe_callB call_abs (by rfl) n_abs (by decide +kernel) (pa_cons (pv 2) pa_nil))))) pss_nil) (pss_cons (ps_if (pt_cmpR op_eq (pv 1) pe_int (nomark _)) (pss_one (ps_ret (pe_op op_sub pe_int (pv 3)))) pss_nil) (pss_one (ps_ret (pv 3))))))
theorem d_wish_behind {P : Program} {w : World} {K : PySem.W.Frag} {mg : Str → Option Value} {base : Heap} (c_fpt : C8.Cal P w K mg base 4 "free_product_three" sp_fpt []) (c_says : C8.Cal P w K mg base 4 "says" sp_says []) (n_int : mg "int" = none) {aS : Addr} (g_SMALL : mg "SMALL" = some (.ref aS)) {f : Addr} {cdv : Value} {A : Around} {outer : List Env} {s : Shared} {H : Hp} {E : XK} (hr : Room 4 (A.deeper (envOfC "wish_behind" (defScope st_wish_behind) s.heap.objs.size f cdv))) :
    PSs (cxOf CX0 P w K mg base names_wish_behind "wish_behind" (defScope st_wish_behind) f cdv A outer s H E).nox (defBody st_wish_behind) (t_wish_behind K aS) := by
  have scN := sc_wish_behind.nd
  exact (pss_cons (ps_asg (pv 0) (pg_tup rfl (pgs_cons (pg_name (i := 2) scN rfl (.inl rfl)) (pgs_cons (pg_name (i := 3) scN rfl (.inl rfl)) (pgs_cons (pg_name (i := 4) scN rfl (.inl rfl)) (pgs_cons (pg_name (i := 5) scN rfl (.inr rfl)) pgs_nil)))))) (pss_cons (ps_set (i := 6) scN rfl (.inr rfl) (C8.pe_c c_fpt hr (by decide) (by rfl) (pa_cons (pv 1) (pa_cons (pv 4) pa_nil)))) (pss_cons (ps_setLc (i := 7) (own := [("p", 8)]) (g := gName 8) (tt := (tTest (tOp rNe (tOp (rIn K false) (tVar 8) (tVar 5)) (tNotV (tCall sp_says [] E0 (tCons (tVar 1) (tCons (tVar 6) (tCons (tVar 8) tNil)))))))) (by rfl) scN rfl rfl (sw_true rfl rfl rfl (by decide +kernel)) (pi_tup (pe_op op_catT (pe_tup (pa_cons pe_int pa_nil)) (pe_glob (by rfl) g_SMALL rfl))) (blkOk_by (own := [("p", 8)]) (N := names_wish_behind) (sc := defScope st_wish_behind) (by decide +kernel)) (fun _ _ _ _ _ => pg_name (i := 8) scN rfl (Or.inl rfl)) (fun _ _ _ _ _ => (pts_one (pt_cmpR op_ne (pe_cmpR op_in_seq (pv 8) (pv 5) (by rfl)) (pe_not (C8.pe_c c_says hr (by decide) (by rfl) (pa_cons (pv 1) (pa_cons (pv 6) (pa_cons (pv 8) pa_nil))))) (nomark _)))) (fun _ _ _ _ _ => (pv 8))) (pss_one (ps_ret (pe_tup (pa_cons (pe_op op_sub (pv 2) pe_int) (pa_cons (pe_op op_sub (pv 3) (pe_callTy call_int1 (by rfl) n_int (by decide +kernel) (pa_cons (pe_cmpR op_gt (pv 1) pe_int (nomark _)) pa_nil))) (pa_cons (pv 6) (pa_cons (pv 7) pa_nil))))))))))
theorem d_two_with {P : Program} {w : World} {K : PySem.W.Frag} {mg : Str → Option Value} {base : Heap} (c_kinds_at : C8.Cal P w K mg base 1 "kinds_at" sp_kinds_at []) (c_says : C8.Cal P w K mg base 4 "says" sp_says []) (c_class_at : C8.Cal P w K mg base 3 "class_at" sp_class_at []) (c_number_with : C8.Cal P w K mg base 5 "number_with" sp_number_with []) (c_fpt : C8.Cal P w K mg base 4 "free_product_three" sp_fpt []) {aS : Addr} (g_SMALL : mg "SMALL" = some (.ref aS)) {f : Addr} {cdv : Value} {A : Around} {outer : List Env} {s : Shared} {H : Hp} {E : XK} (hr : Room 5 (A.deeper (envOfC "two_with" (defScope st_two_with) s.heap.objs.size f cdv))) :
    PSs (cxOf CX0 P w K mg base names_two_with "two_with" (defScope st_two_with) f cdv A outer s H E).nox (defBody st_two_with) (t_two_with K aS) := by
  have scN := sc_two_with.nd
  exact (pss_cons (ps_set (i := 3) scN rfl (.inl rfl) (pe_lst (pa_cons pe_int pa_nil))) (pss_cons (ps_if (pt_cmpR op_eq (pv 0) pe_int (nomark _)) (pss_one (ps_set (i := 3) scN rfl (.inl rfl) (pe_lst (pa_cons (pe_un un_neg pe_int) pa_nil)))) pss_nil) (pss_cons (ps_for PassesOwn.never rfl (pi_tup (pe_glob (by rfl) g_SMALL rfl)) (pg_name (i := 4) scN rfl (.inr rfl)) (pss_cons (ps_setLc (i := 5) (own := [("t", 6)]) (g := gName 6) (tt := (tTest (tOp rEq (tCall sp_says [] E0 (tCons (tVar 6) (tCons (tOp kSub (tC (.int 0)) (tVar 1)) (tCons (tVar 4) tNil)))) (tOp (rIn K true) (tVar 4) (tVar 2))))) (by rfl) scN rfl rfl (sw_true rfl rfl rfl (by decide +kernel)) (pi_list (C8.pe_c c_kinds_at hr (by decide) (by rfl) (pa_cons (pv 4) pa_nil))) (blkOk_by (own := [("t", 6)]) (N := names_two_with) (sc := defScope st_two_with) (by decide +kernel)) (fun _ _ _ _ _ => pg_name (i := 6) scN rfl (Or.inl rfl)) (fun _ _ _ _ _ => (pts_one (pt_cmpR op_eq (C8.pe_c c_says hr (by decide) (by rfl) (pa_cons (pv 6) (pa_cons (pe_op op_sub pe_int (pv 1)) (pa_cons (pv 4) pa_nil)))) (pe_cmpR op_notIn_seq (pv 4) (pv 2) (by rfl)) (nomark _)))) (fun _ _ _ _ _ => (pv 6))) (pss_one (ps_expr (pe_bm PySem.F.plainAttrs_list PySem.F.slot_list_append PySem.F.type_list_append mt_append (pv 3) (pa_cons (C8.pe_c c_class_at hr (by decide) (by rfl) (pa_cons (pe_ix ix_list (pv 5) pe_int (fun _ _ => rfl)) (pa_cons (pv 4) pa_nil))) pa_nil)))))) (pss_cons (ps_set (i := 7) scN rfl (.inl rfl) (C8.pe_c c_number_with hr (by decide) (by rfl) (pa_cons (pv 3) pa_nil))) (pss_one (ps_ret (pe_lst (pa_cons (pv 7) (pa_cons (C8.pe_c c_fpt hr (by decide) (by rfl) (pa_cons (pv 7) (pa_cons (pv 1) pa_nil))) pa_nil)))))))))
theorem d_built {P : Program} {w : World} {K : PySem.W.Frag} {mg : Str → Option Value} {base : Heap} (c_can_be : C8.Cal P w K mg base 5 "can_be" sp_can_be []) (c_first_number : C8.Cal P w K mg base 1 "first_number" sp_first_number []) (c_wish_behind : C8.Cal P w K mg base 5 "wish_behind" sp_wish_behind []) (c_two_with : C8.Cal P w K mg base 6 "two_with" sp_two_with []) {f : Addr} {cdv : Value} {A : Around} {outer : List Env} {s : Shared} {H : Hp} {E : XK} (hr : Room 6 (A.deeper (envOfC "built" (defScope st_built) s.heap.objs.size f cdv))) :
    PSs (cxOf CX0 P w K mg base names_built "built" (defScope st_built) f cdv A outer s H E).nox (defBody st_built) (t_built K) := by
  have scN := sc_built.nd
  exact (pss_cons (ps_if (pt_not (pt_val (C8.pe_c c_can_be hr (by decide) (by rfl) (pa_cons (pv 0) pa_nil)))) (pss_one (ps_ret pe_non)) pss_nil) (pss_cons (ps_set (i := 1) scN rfl (.inl rfl) (pe_lst pa_nil)) (pss_cons (ps_while PassesOwn.never (pt_cmpR op_gt (pe_ix ix_tup (pv 0) pe_int (fun _ _ => rfl)) pe_int (nomark _)) (pss_cons (ps_set (i := 2) scN rfl (.inl rfl) (C8.pe_c c_first_number hr (by decide) (by rfl) (pa_cons (pe_ix ix_tup (pv 0) pe_int (fun _ _ => rfl)) (pa_cons (pe_ix ix_tup (pv 0) pe_int (fun _ _ => rfl)) (pa_cons (pe_ix ix_tup (pv 0) pe_int (fun _ _ => rfl)) pa_nil))))) (pss_cons (ps_expr (pe_bm PySem.F.plainAttrs_list PySem.F.slot_list_append PySem.F.type_list_append mt_append (pv 1) (pa_cons (pv 2) pa_nil))) (pss_one (ps_set (i := 0) scN rfl (.inl rfl) (C8.pe_c c_wish_behind hr (by decide) (by rfl) (pa_cons (pv 0) (pa_cons (pv 2) pa_nil)))))))) (pss_cons (ps_if (pt_cmpR op_eq (pe_ix ix_tup (pv 0) pe_int (fun _ _ => rfl)) pe_int (nomark _)) (pss_one (ps_ret (pe_op op_cat (pv 1) (pe_lst (pa_cons (pe_ix ix_tup (pv 0) pe_int (fun _ _ => rfl)) pa_nil))))) pss_nil) (pss_one (ps_ret (pe_op op_cat (pv 1) (C8.pe_c c_two_with hr (by decide) (by rfl) (pa_cons (pe_ix ix_tup (pv 0) pe_int (fun _ _ => rfl)) (pa_cons (pe_ix ix_tup (pv 0) pe_int (fun _ _ => rfl)) (pa_cons (pe_ix ix_tup (pv 0) pe_int (fun _ _ => rfl)) pa_nil)))))))))))
theorem d_parting {P : Program} {w : World} {K : PySem.W.Frag} {mg : Str → Option Value} {base : Heap} (c_noes_of : C8.Cal P w K mg base 6 "noes_of" sp_noes_of []) (c_signs_of : C8.Cal P w K mg base 3 "signs_of" sp_signs_of []) (c_fpr : C8.Cal P w K mg base 4 "free_product_rows" sp_fpr []) (n_len : mg "len" = none) (n_sorted : mg "sorted" = none) {f : Addr} {cdv : Value} {A : Around} {outer : List Env} {s : Shared} {H : Hp} {E : XK} (hr : Room 6 (A.deeper (envOfC "parting" (defScope st_parting) s.heap.objs.size f cdv))) :
    PSs (cxOf CX0 P w K mg base names_parting "parting" (defScope st_parting) f cdv A outer s H E).nox (defBody st_parting) (t_parting K) := by
  have scN := sc_parting.nd
  exact (pss_cons (ps_set (i := 2) scN rfl (.inr rfl) (C8.pe_c c_noes_of hr (by decide) (by rfl) (pa_cons (pv 0) pa_nil))) (pss_cons (ps_set (i := 3) scN rfl (.inr rfl) (C8.pe_c c_noes_of hr (by decide) (by rfl) (pa_cons (pv 1) pa_nil))) (pss_cons (ps_if (pt_cmpR op_ne (pe_callB call_len_seq (by rfl) n_len PySem.boot_len (pa_cons (pv 0) pa_nil)) (pe_callB call_len_seq (by rfl) n_len PySem.boot_len (pa_cons (pv 1) pa_nil)) (nomark _)) (pss_one (ps_ret (pe_tup (pa_cons pe_str pa_nil)))) pss_nil) (pss_cons (ps_if (pt_cmpR op_ne (C8.pe_c c_signs_of hr (by decide) (by rfl) (pa_cons (pv 0) pa_nil)) (C8.pe_c c_signs_of hr (by decide) (by rfl) (pa_cons (pv 1) pa_nil)) (nomark _)) (pss_one (ps_ret (pe_tup (pa_cons pe_str pa_nil)))) pss_nil) (pss_cons (ps_if (pt_cmpR op_ne (C8.pe_c c_fpr hr (by decide) (by rfl) (pa_cons (pv 0) pa_nil)) (C8.pe_c c_fpr hr (by decide) (by rfl) (pa_cons (pv 1) pa_nil)) (nomark _)) (pss_one (ps_ret (pe_tup (pa_cons pe_str pa_nil)))) pss_nil) (pss_cons (ps_set (i := 4) scN rfl (.inl rfl) (pe_callB cr_sorted (by rfl) n_sorted (by decide +kernel) (pa_cons (pe_op op_cat (pe_lc (own := [("p", 5)]) (g := gName 5) (tt := (tTest (tOp (rIn K true) (tVar 5) (tVar 3)))) (by rfl) scN (pi_list (pv 2)) (blkOk_by (own := [("p", 5)]) (N := names_parting) (sc := defScope st_parting) (by decide +kernel)) (fun _ _ _ _ _ => pg_name (i := 5) scN rfl (Or.inl rfl)) (fun _ _ _ _ _ => (pts_one (pt_cmpR op_notIn_seq (pv 5) (pv 3) (by rfl)))) (fun _ _ _ _ _ => (pv 5))) (pe_lc (own := [("p", 5)]) (g := gName 5) (tt := (tTest (tOp (rIn K true) (tVar 5) (tVar 2)))) (by rfl) scN (pi_list (pv 3)) (blkOk_by (own := [("p", 5)]) (N := names_parting) (sc := defScope st_parting) (by decide +kernel)) (fun _ _ _ _ _ => pg_name (i := 5) scN rfl (Or.inl rfl)) (fun _ _ _ _ _ => (pts_one (pt_cmpR op_notIn_seq (pv 5) (pv 2) (by rfl)))) (fun _ _ _ _ _ => (pv 5)))) pa_nil))) (pss_cons (ps_if (pt_cmpR op_gt (pe_callB call_len_seq (by rfl) n_len PySem.boot_len (pa_cons (pv 4) pa_nil)) pe_int (nomark _)) (pss_one (ps_ret (pe_tup (pa_cons pe_str (pa_cons (pe_ix ix_list (pv 4) pe_int (fun _ _ => rfl)) pa_nil))))) pss_nil) (pss_one (ps_ret pe_non)))))))))
theorem d_l_cell_at {P : Program} {w : World} {K : PySem.W.Frag} {mg : Str → Option Value} {base : Heap} (n_len : mg "len" = none) {f : Addr} {cdv : Value} {A : Around} {outer : List Env} {s : Shared} {H : Hp} {E : XK} (hr : Room 0 (A.deeper (envOfC "_law_cell_at" (defScope st_l_cell_at) s.heap.objs.size f cdv))) :
    PSs (cxOf CX0 P w K mg base names_l_cell_at "_law_cell_at" (defScope st_l_cell_at) f cdv A outer s H E).nox (defBody st_l_cell_at) (t_l_cell_at K) := by
  have scN := sc_l_cell_at.nd
  exact (pss_cons (ps_if (pt_cmpR op_lt (pv 1) (pe_callB call_len_seq (by rfl) n_len PySem.boot_len (pa_cons (pv 0) pa_nil)) (nomark _)) (pss_one (ps_ret (pe_ix ix_list (pv 0) (pv 1) (fun _ _ => rfl)))) pss_nil) (pss_one (ps_ret pe_int)))
theorem d_l_big {P : Program} {w : World} {K : PySem.W.Frag} {mg : Str → Option Value} {base : Heap} (n_abs : mg "abs" = none) (n_range : mg "range" = none) {f : Addr} {cdv : Value} {A : Around} {outer : List Env} {s : Shared} {H : Hp} {E : XK} (hr : Room 0 (A.deeper (envOfC "_law_big" (defScope st_l_big) s.heap.objs.size f cdv))) :
    PSs (cxOf CX0 P w K mg base names_l_big "_law_big" (defScope st_l_big) f cdv A outer s H E).nox (defBody st_l_big) (t_l_big K) := by
  have scN := sc_l_big.nd
  exact (pss_cons (ps_if (pt_cmpR op_ge (pe_callB call_abs (by rfl) n_abs (by decide +kernel) (pa_cons (pv 0) pa_nil)) (pe_op op_pow pe_int pe_int) (nomark _)) (pss_one (ps_ret (pv 0))) pss_nil) (pss_cons (ps_set (i := 2) scN rfl (.inl rfl) pe_int) (pss_cons (ps_for PassesOwn.never rfl (pi_range1 (by rfl) n_range (pa_cons pe_int pa_nil)) (pg_name (i := 3) scN rfl (.inl rfl)) (pss_cons (ps_set (i := 4) scN rfl (.inl rfl) (pe_op op_add (pe_op op_add (pe_op op_add (pe_op op_mod (pe_callB call_abs (by rfl) n_abs (by decide +kernel) (pa_cons (pv 0) pa_nil)) pe_int) (pe_op op_mul pe_int (pv 1))) (pe_op op_mul pe_int (pv 3))) pe_int)) (pss_cons (ps_set (i := 4) scN rfl (.inl rfl) (pe_op op_mod (pe_op op_mul (pv 4) (pe_op op_add (pe_op op_add pe_int (pe_op op_mul (pv 3) (pv 3))) (pv 1))) pe_int)) (pss_one (ps_set (i := 2) scN rfl (.inl rfl) (pe_op op_add (pe_op op_mul (pv 2) pe_int) (pe_op op_mod (pe_op op_mul (pv 4) pe_int) pe_int))))))) (pss_one (ps_ret (pv 2))))))
theorem d_l_small {P : Program} {w : World} {K : PySem.W.Frag} {mg : Str → Option Value} {base : Heap} {f : Addr} {cdv : Value} {A : Around} {outer : List Env} {s : Shared} {H : Hp} {E : XK} (hr : Room 0 (A.deeper (envOfC "_law_small" (defScope st_l_small) s.heap.objs.size f cdv))) :
    PSs (cxOf CX0 P w K mg base names_l_small "_law_small" (defScope st_l_small) f cdv A outer s H E).nox (defBody st_l_small) (t_l_small K) := by
  have scN := sc_l_small.nd
  exact (pss_cons (ps_set (i := 1) scN rfl (.inl rfl) (pe_op op_sub pe_int (pe_op op_mul pe_int (pe_op op_mod (pv 0) pe_int)))) (pss_cons (ps_set (i := 2) scN rfl (.inl rfl) (pe_op op_fdiv (pv 0) pe_int)) (pss_cons (ps_for PassesOwn.never rfl (pi_list (pe_lst (pa_cons pe_int (pa_cons pe_int (pa_cons pe_int (pa_cons pe_int (pa_cons pe_int (pa_cons pe_int pa_nil)))))))) (pg_name (i := 3) scN rfl (.inl rfl)) (pss_cons (ps_if (pt_cmpR op_eq (pe_op op_mod (pv 2) pe_int) pe_int (nomark _)) (pss_one (ps_set (i := 1) scN rfl (.inl rfl) (pe_op op_mul (pv 1) (pv 3)))) pss_nil) (pss_one (ps_set (i := 2) scN rfl (.inl rfl) (pe_op op_fdiv (pv 2) pe_int))))) (pss_one (ps_ret (pv 1))))))
theorem d_l_row {P : Program} {w : World} {K : PySem.W.Frag} {mg : Str → Option Value} {base : Heap} (c_l_small : C8.Cal P w K mg base 1 "_law_small" sp_l_small []) (n_range : mg "range" = none) {f : Addr} {cdv : Value} {A : Around} {outer : List Env} {s : Shared} {H : Hp} {E : XK} (hr : Room 1 (A.deeper (envOfC "_law_row" (defScope st_l_row) s.heap.objs.size f cdv))) :
    PSs (cxOf CX0 P w K mg base names_l_row "_law_row" (defScope st_l_row) f cdv A outer s H E).nox (defBody st_l_row) (t_l_row K) := by
  have scN := sc_l_row.nd
  exact (pss_cons (ps_set (i := 2) scN rfl (.inl rfl) (pe_lst pa_nil)) (pss_cons (ps_set (i := 3) scN rfl (.inl rfl) (pv 0)) (pss_cons (ps_for PassesOwn.never rfl (pi_range1 (by rfl) n_range (pa_cons (pv 1) pa_nil)) (pg_name (i := 4) scN rfl (.inl rfl)) (pss_cons (ps_set (i := 5) scN rfl (.inl rfl) pe_int) (pss_cons (ps_if (pt_cmpR op_eq (pe_op op_mod (pe_op op_fdiv (pv 3) pe_int) pe_int) pe_int (nomark _)) (pss_one (ps_set (i := 5) scN rfl (.inl rfl) (pe_op op_add pe_int (pe_op op_mod (pe_op op_fdiv (pv 3) pe_int) pe_int)))) pss_nil) (pss_cons (ps_expr (pe_bm PySem.F.plainAttrs_list PySem.F.slot_list_append PySem.F.type_list_append mt_append (pv 2) (pa_cons (pe_op op_mul (pe_op op_mul (C8.pe_c c_l_small hr (by decide) (by rfl) (pa_cons (pv 3) pa_nil)) (pv 5)) (pv 5)) pa_nil))) (pss_one (ps_set (i := 3) scN rfl (.inl rfl) (pe_op op_fdiv (pv 3) pe_int))))))) (pss_one (ps_ret (pv 2))))))
theorem d_l_common {P : Program} {w : World} {K : PySem.W.Frag} {mg : Str → Option Value} {base : Heap} (n_abs : mg "abs" = none) {f : Addr} {cdv : Value} {A : Around} {outer : List Env} {s : Shared} {H : Hp} {E : XK} (hr : Room 0 (A.deeper (envOfC "_law_common" (defScope st_l_common) s.heap.objs.size f cdv))) :
    PSs (cxOf CX0 P w K mg base names_l_common "_law_common" (defScope st_l_common) f cdv A outer s H E).nox (defBody st_l_common) (t_l_common K) := by
  have scN := sc_l_common.nd
  exact (pss_cons (ps_while PassesOwn.never (pt_cmpR op_ne (pv 1) pe_int (nomark _)) (pss_cons (ps_set (i := 2) scN rfl (.inl rfl) (pe_op op_modN (pv 0) (pv 1))) (pss_cons (ps_set (i := 0) scN rfl (.inl rfl) (pv 1)) (pss_one (ps_set (i := 1) scN rfl (.inl rfl) (pv 2)))))) (pss_one (ps_ret (pe_callB call_abs (by rfl) n_abs (by decide +kernel) (pa_cons (pv 0) pa_nil)))))
theorem d_l_root {P : Program} {w : World} {K : PySem.W.Frag} {mg : Str → Option Value} {base : Heap} {f : Addr} {cdv : Value} {A : Around} {outer : List Env} {s : Shared} {H : Hp} {E : XK} (hr : Room 0 (A.deeper (envOfC "_law_root" (defScope st_l_root) s.heap.objs.size f cdv))) :
    PSs (cxOf CX0 P w K mg base names_l_root "_law_root" (defScope st_l_root) f cdv A outer s H E).nox (defBody st_l_root) (t_l_root K) := by
  have scN := sc_l_root.nd
  exact (pss_cons (ps_set (i := 1) scN rfl (.inl rfl) (pv 0)) (pss_cons (ps_while PassesOwn.never (pt_cmpR op_gt (pe_op op_mul (pv 1) (pv 1)) (pv 0) (nomark _)) (pss_one (ps_set (i := 1) scN rfl (.inl rfl) (pe_op op_fdiv (pe_op op_add (pv 1) (pe_op op_fdiv (pv 0) (pv 1))) pe_int)))) (pss_one (ps_ret (pv 1)))))
theorem d_l_free {P : Program} {w : World} {K : PySem.W.Frag} {mg : Str → Option Value} {base : Heap} (c_l_root : C8.Cal P w K mg base 1 "_law_root" sp_l_root []) (n_abs : mg "abs" = none) {f : Addr} {cdv : Value} {A : Around} {outer : List Env} {s : Shared} {H : Hp} {E : XK} (hr : Room 1 (A.deeper (envOfC "_law_free" (defScope st_l_free) s.heap.objs.size f cdv))) :
    PSs (cxOf CX0 P w K mg base names_l_free "_law_free" (defScope st_l_free) f cdv A outer s H E).nox (defBody st_l_free) (t_l_free K) := by
  have scN := sc_l_free.nd
  exact (pss_cons (ps_set (i := 1) scN rfl (.inl rfl) (pe_callB call_abs (by rfl) n_abs (by decide +kernel) (pa_cons (pv 0) pa_nil))) (pss_cons (ps_set (i := 2) scN rfl (.inl rfl) pe_int) (pss_cons (ps_set (i := 3) scN rfl (.inl rfl) pe_int) (pss_cons (ps_while PassesOwn.never (pt_cmpR op_le (pe_op op_mul (pe_op op_mul (pv 3) (pv 3)) (pv 3)) (pv 1) (nomark _)) (pss_cons (ps_set (i := 4) scN rfl (.inl rfl) pe_int) (pss_cons (ps_while PassesOwn.never (pt_cmpR op_eq (pe_op op_mod (pv 1) (pv 3)) pe_int (nomark _)) (pss_cons (ps_set (i := 1) scN rfl (.inl rfl) (pe_op op_fdiv (pv 1) (pv 3))) (pss_one (ps_set (i := 4) scN rfl (.inl rfl) (pe_op op_add (pv 4) pe_int))))) (pss_cons (ps_if (pt_cmpR op_eq (pe_op op_mod (pv 4) pe_int) pe_int (nomark _)) (pss_one (ps_set (i := 2) scN rfl (.inl rfl) (pe_op op_mul (pv 2) (pv 3)))) pss_nil) (pss_one (ps_set (i := 3) scN rfl (.inl rfl) (pe_op op_add (pv 3) pe_int))))))) (pss_cons (ps_if (pt_cmpR op_ne (pe_op op_mul (C8.pe_c c_l_root hr (by decide) (by rfl) (pa_cons (pv 1) pa_nil)) (C8.pe_c c_l_root hr (by decide) (by rfl) (pa_cons (pv 1) pa_nil))) (pv 1) (nomark _)) (pss_one (ps_set (i := 2) scN rfl (.inl rfl) (pe_op op_mul (pv 2) (pv 1)))) pss_nil) (pss_cons (ps_if (pt_cmpR op_lt (pv 0) pe_int (nomark _)) (pss_one (ps_ret (pe_op op_sub pe_int (pv 2)))) pss_nil) (pss_one (ps_ret (pv 2)))))))))
theorem d_l_free_times {P : Program} {w : World} {K : PySem.W.Frag} {mg : Str → Option Value} {base : Heap} (c_l_common : C8.Cal P w K mg base 1 "_law_common" sp_l_common []) {f : Addr} {cdv : Value} {A : Around} {outer : List Env} {s : Shared} {H : Hp} {E : XK} (hr : Room 1 (A.deeper (envOfC "_law_free_times" (defScope st_l_free_times) s.heap.objs.size f cdv))) :
    PSs (cxOf CX0 P w K mg base names_l_free_times "_law_free_times" (defScope st_l_free_times) f cdv A outer s H E).nox (defBody st_l_free_times) (t_l_free_times K) := by
  have scN := sc_l_free_times.nd
  exact (pss_cons (ps_set (i := 2) scN rfl (.inl rfl) (C8.pe_c c_l_common hr (by decide) (by rfl) (pa_cons (pv 0) (pa_cons (pv 1) pa_nil)))) (pss_one (ps_ret (pe_op op_mul (pe_op op_fdiv (pv 0) (pv 2)) (pe_op op_fdiv (pv 1) (pv 2))))))
theorem d_l_power {P : Program} {w : World} {K : PySem.W.Frag} {mg : Str → Option Value} {base : Heap} {f : Addr} {cdv : Value} {A : Around} {outer : List Env} {s : Shared} {H : Hp} {E : XK} (hr : Room 0 (A.deeper (envOfC "_law_power" (defScope st_l_power) s.heap.objs.size f cdv))) :
    PSs (cxOf CX0 P w K mg base names_l_power "_law_power" (defScope st_l_power) f cdv A outer s H E).nox (defBody st_l_power) (t_l_power K) := by
  have scN := sc_l_power.nd
  exact (pss_cons (ps_set (i := 3) scN rfl (.inl rfl) pe_int) (pss_cons (ps_set (i := 0) scN rfl (.inl rfl) (pe_op op_mod (pv 0) (pv 2))) (pss_cons (ps_while PassesOwn.never (pt_cmpR op_gt (pv 1) pe_int (nomark _)) (pss_cons (ps_if (pt_cmpR op_eq (pe_op op_mod (pv 1) pe_int) pe_int (nomark _)) (pss_one (ps_set (i := 3) scN rfl (.inl rfl) (pe_op op_mod (pe_op op_mul (pv 3) (pv 0)) (pv 2)))) pss_nil) (pss_cons (ps_set (i := 0) scN rfl (.inl rfl) (pe_op op_mod (pe_op op_mul (pv 0) (pv 0)) (pv 2))) (pss_one (ps_set (i := 1) scN rfl (.inl rfl) (pe_op op_fdiv (pv 1) pe_int)))))) (pss_one (ps_ret (pv 3))))))
theorem d_l_split {P : Program} {w : World} {K : PySem.W.Frag} {mg : Str → Option Value} {base : Heap} {f : Addr} {cdv : Value} {A : Around} {outer : List Env} {s : Shared} {H : Hp} {E : XK} (hr : Room 0 (A.deeper (envOfC "_law_split" (defScope st_l_split) s.heap.objs.size f cdv))) :
    PSs (cxOf CX0 P w K mg base names_l_split "_law_split" (defScope st_l_split) f cdv A outer s H E).nox (defBody st_l_split) (t_l_split K) := by
  have scN := sc_l_split.nd
  exact (pss_cons (ps_set (i := 2) scN rfl (.inl rfl) pe_int) (pss_cons (ps_while PassesOwn.never (pt_cmpR op_eq (pe_op op_mod (pv 0) (pv 1)) pe_int (nomark _)) (pss_cons (ps_set (i := 0) scN rfl (.inl rfl) (pe_op op_fdiv (pv 0) (pv 1))) (pss_one (ps_set (i := 2) scN rfl (.inl rfl) (pe_op op_add (pv 2) pe_int))))) (pss_one (ps_ret (pe_tup (pa_cons (pv 2) (pa_cons (pv 0) pa_nil)))))))
theorem d_l_says {P : Program} {w : World} {K : PySem.W.Frag} {mg : Str → Option Value} {base : Heap} (c_l_split : C8.Cal P w K mg base 1 "_law_split" sp_l_split []) (c_l_power : C8.Cal P w K mg base 1 "_law_power" sp_l_power []) {f : Addr} {cdv : Value} {A : Around} {outer : List Env} {s : Shared} {H : Hp} {E : XK} (hr : Room 1 (A.deeper (envOfC "_law_says" (defScope st_l_says) s.heap.objs.size f cdv))) :
    PSs (cxOf CX0 P w K mg base names_l_says "_law_says" (defScope st_l_says) f cdv A outer s H E).nox (defBody st_l_says) (t_l_says K) := by
  have scN := sc_l_says.nd
  exact (pss_cons (ps_if (pt_cmpR op_eq (pv 2) pe_int (nomark _)) (pss_one (ps_ret (pe_or (pe_cmpR op_gt (pv 0) pe_int (nomark _)) (pe_one (pe_cmpR op_gt (pv 1) pe_int (nomark _)))))) pss_nil) (pss_cons (ps_asg (C8.pe_c c_l_split hr (by decide) (by rfl) (pa_cons (pv 0) (pa_cons (pv 2) pa_nil))) (pg_tup rfl (pgs_cons (pg_name (i := 3) scN rfl (.inl rfl)) (pgs_cons (pg_name (i := 4) scN rfl (.inl rfl)) pgs_nil)))) (pss_cons (ps_asg (C8.pe_c c_l_split hr (by decide) (by rfl) (pa_cons (pv 1) (pa_cons (pv 2) pa_nil))) (pg_tup rfl (pgs_cons (pg_name (i := 5) scN rfl (.inl rfl)) (pgs_cons (pg_name (i := 6) scN rfl (.inl rfl)) pgs_nil)))) (pss_cons (ps_if (pt_cmpR op_eq (pv 2) pe_int (nomark _)) (pss_cons (ps_set (i := 7) scN rfl (.inl rfl) (pe_op op_mul (pe_op op_fdiv (pe_op op_sub (pv 4) pe_int) pe_int) (pe_op op_fdiv (pe_op op_sub (pv 6) pe_int) pe_int))) (pss_cons (ps_set (i := 7) scN rfl (.inl rfl) (pe_op op_add (pv 7) (pe_op op_mul (pv 3) (pe_op op_fdiv (pe_op op_sub (pe_op op_mul (pv 6) (pv 6)) pe_int) pe_int)))) (pss_cons (ps_set (i := 7) scN rfl (.inl rfl) (pe_op op_add (pv 7) (pe_op op_mul (pv 5) (pe_op op_fdiv (pe_op op_sub (pe_op op_mul (pv 4) (pv 4)) pe_int) pe_int)))) (pss_one (ps_ret (pe_cmpR op_eq (pe_op op_mod (pv 7) pe_int) pe_int (nomark _))))))) pss_nil) (pss_cons (ps_set (i := 7) scN rfl (.inl rfl) (pe_op op_mul (pe_op op_mul (pv 3) (pv 5)) (pe_op op_fdiv (pe_op op_sub (pv 2) pe_int) pe_int))) (pss_cons (ps_if (pt_cmpR op_ne (C8.pe_c c_l_power hr (by decide) (by rfl) (pa_cons (pv 4) (pa_cons (pe_op op_fdiv (pe_op op_sub (pv 2) pe_int) pe_int) (pa_cons (pv 2) pa_nil)))) pe_int (nomark _)) (pss_one (ps_set (i := 7) scN rfl (.inl rfl) (pe_op op_add (pv 7) (pv 5)))) pss_nil) (pss_cons (ps_if (pt_cmpR op_ne (C8.pe_c c_l_power hr (by decide) (by rfl) (pa_cons (pv 6) (pa_cons (pe_op op_fdiv (pe_op op_sub (pv 2) pe_int) pe_int) (pa_cons (pv 2) pa_nil)))) pe_int (nomark _)) (pss_one (ps_set (i := 7) scN rfl (.inl rfl) (pe_op op_add (pv 7) (pv 3)))) pss_nil) (pss_one (ps_ret (pe_cmpR op_eq (pe_op op_mod (pv 7) pe_int) pe_int (nomark _)))))))))))
theorem d_l_noes {P : Program} {w : World} {K : PySem.W.Frag} {mg : Str → Option Value} {base : Heap} (c_l_says : C8.Cal P w K mg base 2 "_law_says" sp_l_says []) (n_range : mg "range" = none) (n_len : mg "len" = none) {f : Addr} {cdv : Value} {A : Around} {outer : List Env} {s : Shared} {H : Hp} {E : XK} (hr : Room 2 (A.deeper (envOfC "_law_noes" (defScope st_l_noes) s.heap.objs.size f cdv))) :
    PSs (cxOf CX0 P w K mg base names_l_noes "_law_noes" (defScope st_l_noes) f cdv A outer s H E).nox (defBody st_l_noes) (t_l_noes K) := by
  have scN := sc_l_noes.nd
  exact (pss_cons (ps_set (i := 2) scN rfl (.inl rfl) (pe_lst pa_nil)) (pss_cons (ps_for PassesOwn.never rfl (pi_list (pv 1)) (pg_name (i := 3) scN rfl (.inl rfl)) (pss_cons (ps_set (i := 4) scN rfl (.inl rfl) pe_int) (pss_cons (ps_for PassesOwn.never rfl (pi_range1 (by rfl) n_range (pa_cons (pe_callB call_len_seq (by rfl) n_len PySem.boot_len (pa_cons (pv 0) pa_nil)) pa_nil)) (pg_name (i := 5) scN rfl (.inl rfl)) (pss_one (ps_for PassesOwn.never rfl (pi_range2 (by rfl) n_range (pa_cons (pe_op op_add (pv 5) pe_int) (pa_cons (pe_callB call_len_seq (by rfl) n_len PySem.boot_len (pa_cons (pv 0) pa_nil)) pa_nil))) (pg_name (i := 6) scN rfl (.inl rfl)) (pss_one (ps_if (pt_not (pt_val (C8.pe_c c_l_says hr (by decide) (by rfl) (pa_cons (pe_ix ix_list (pv 0) (pv 5) (fun _ _ => rfl)) (pa_cons (pe_ix ix_list (pv 0) (pv 6) (fun _ _ => rfl)) (pa_cons (pv 3) pa_nil)))))) (pss_one (ps_set (i := 4) scN rfl (.inl rfl) (pe_op op_add (pv 4) pe_int))) pss_nil))))) (pss_one (ps_if (pt_cmpR op_eq (pe_op op_mod (pv 4) pe_int) pe_int (nomark _)) (pss_one (ps_expr (pe_bm PySem.F.plainAttrs_list PySem.F.slot_list_append PySem.F.type_list_append mt_append (pv 2) (pa_cons (pv 3) pa_nil)))) pss_nil))))) (pss_one (ps_ret (pv 2)))))
theorem d_law {P : Program} {w : World} {K : PySem.W.Frag} {mg : Str → Option Value} {base : Heap} (c_l_cell_at : C8.Cal P w K mg base 1 "_law_cell_at" (sp_l_cell_at K) []) (c_l_big : C8.Cal P w K mg base 1 "_law_big" sp_l_big []) (c_l_row : C8.Cal P w K mg base 2 "_law_row" sp_l_row []) (c_l_free : C8.Cal P w K mg base 2 "_law_free" sp_l_free []) (c_l_free_times : C8.Cal P w K mg base 2 "_law_free_times" sp_l_free_times []) (c_l_noes : C8.Cal P w K mg base 3 "_law_noes" sp_l_noes []) (c_can_be : C8.Cal P w K mg base 5 "can_be" sp_can_be []) (c_built : C8.Cal P w K mg base 7 "built" sp_built []) (c_parting : C8.Cal P w K mg base 7 "parting" sp_parting []) (n_range : mg "range" = none) (n_len : mg "len" = none) (n_min : mg "min" = none) (n_int : mg "int" = none) (n_sorted : mg "sorted" = none) {f : Addr} {cdv : Value} {A : Around} {outer : List Env} {s : Shared} {H : Hp} {E : XK} (hr : Room 7 (A.deeper (envOfC "law" (defScope st_law) s.heap.objs.size f cdv))) :
    PSs (cxOf CX0 P w K mg base names_law "law" (defScope st_law) f cdv A outer s H E).nox (defBody st_law) (t_law K) := by
  have scN := sc_law.nd
  exact (pss_cons (ps_for PassesOwn.never rfl (pi_range3 (by rfl) n_range (pa_cons pe_int (pa_cons (pe_op op_add (pe_callB (call_min2 rfl) (by rfl) n_min (by decide +kernel) (pa_cons pe_int (pa_cons (pe_callB call_len_seq (by rfl) n_len PySem.boot_len (pa_cons (pv 0) pa_nil)) pa_nil))) pe_int) (pa_cons pe_int pa_nil)))) (pg_name (i := 1) scN rfl (.inl rfl)) (pss_cons (ps_set (i := 2) scN rfl (.inl rfl) (C8.pe_c c_l_big hr (by decide) (by rfl) (pa_cons (C8.pe_c c_l_cell_at hr (by decide) (by rfl) (pa_cons (pv 0) (pa_cons (pe_op op_add (pv 1) pe_int) pa_nil))) (pa_cons (pe_op op_add (pv 1) pe_int) pa_nil)))) (pss_cons (ps_set (i := 3) scN rfl (.inl rfl) (C8.pe_c c_l_row hr (by decide) (by rfl) (pa_cons (C8.pe_c c_l_big hr (by decide) (by rfl) (pa_cons (C8.pe_c c_l_cell_at hr (by decide) (by rfl) (pa_cons (pv 0) (pa_cons (pv 1) pa_nil))) (pa_cons (pv 1) pa_nil))) (pa_cons (pe_op op_add pe_int (pe_op op_mod (pv 2) pe_int)) pa_nil)))) (pss_cons (ps_set (i := 4) scN rfl (.inl rfl) pe_int) (pss_cons (ps_for PassesOwn.never rfl (pi_list (pv 3)) (pg_name (i := 5) scN rfl (.inl rfl)) (pss_one (ps_set (i := 4) scN rfl (.inl rfl) (C8.pe_c c_l_free_times hr (by decide) (by rfl) (pa_cons (pv 4) (pa_cons (C8.pe_c c_l_free hr (by decide) (by rfl) (pa_cons (pv 5) pa_nil)) pa_nil)))))) (pss_cons (ps_set (i := 6) scN rfl (.inl rfl) (pe_callB call_len_seq (by rfl) n_len PySem.boot_len (pa_cons (pe_lc (own := [("_law_part", 5)]) (g := gName 5) (tt := (tTest (tOp kGt (tVar 5) (tC (.int 0))))) (by rfl) scN (pi_list (pv 3)) (blkOk_by (own := [("_law_part", 5)]) (N := names_law) (sc := defScope st_law) (by decide +kernel)) (fun _ _ _ _ _ => pg_name (i := 5) scN rfl (Or.inl rfl)) (fun _ _ _ _ _ => (pts_one (pt_cmpR op_gt (pv 5) pe_int (nomark _)))) (fun _ _ _ _ _ => (pv 5))) pa_nil))) (pss_cons (ps_set (i := 7) scN rfl (.inl rfl) (C8.pe_c c_l_noes hr (by decide) (by rfl) (pa_cons (pv 3) (pa_cons (pe_lst (pa_cons pe_int (pa_cons pe_int (pa_cons pe_int (pa_cons pe_int (pa_cons pe_int (pa_cons pe_int (pa_cons pe_int pa_nil)))))))) pa_nil)))) (pss_cons (ps_set (i := 8) scN rfl (.inl rfl) (pe_tup (pa_cons (pe_callB call_len_seq (by rfl) n_len PySem.boot_len (pa_cons (pv 3) pa_nil)) (pa_cons (pv 6) (pa_cons (pv 4) (pa_cons (pv 7) pa_nil)))))) (pss_cons (ps_if (PW.pt (pw_or (pt_not (pt_val (C8.pe_c c_can_be hr (by decide) (by rfl) (pa_cons (pv 8) pa_nil)))) (pw_or1 (pt_cmpR op_notN (C8.pe_c c_parting hr (by decide) (by rfl) (pa_cons (pv 3) (pa_cons (C8.pe_c c_built hr (by decide) (by rfl) (pa_cons (pv 8) pa_nil)) pa_nil))) pe_non (nomark _))))) (pss_one (ps_ret pe_bl)) pss_nil) (pss_cons (ps_set (i := 9) scN rfl (.inr rfl) (pe_ix ix_list (pe_lst (pa_cons pe_int (pa_cons pe_int (pa_cons pe_int (pa_cons pe_int (pa_cons pe_int (pa_cons pe_int (pa_cons pe_int pa_nil)))))))) (pe_op op_mod (pe_op op_fdiv (pv 2) pe_int) pe_int) (fun _ _ => rfl))) (pss_cons (ps_set (i := 10) scN rfl (.inl rfl) (pe_callB cr_sorted (by rfl) n_sorted (by decide +kernel) (pa_cons (pe_op op_cat (pe_lc (own := [("_law_q", 11)]) (g := gName 11) (tt := (tTest (tOp rNe (tVar 11) (tVar 9)))) (by rfl) scN (pi_list (pv 7)) (blkOk_by (own := [("_law_q", 11)]) (N := names_law) (sc := defScope st_law) (by decide +kernel)) (fun _ _ _ _ _ => pg_name (i := 11) scN rfl (Or.inl rfl)) (fun _ _ _ _ _ => (pts_one (pt_cmpR op_ne (pv 11) (pv 9) (nomark _)))) (fun _ _ _ _ _ => (pv 11))) (pe_op op_rep (pe_lst (pa_cons (pv 9) pa_nil)) (pe_callTy call_int1 (by rfl) n_int (by decide +kernel) (pa_cons (pe_cmpR op_notIn_seq (pv 9) (pv 7) (by rfl)) pa_nil)))) pa_nil))) (pss_cons (ps_if (PW.pt (pw_or (pt_val (C8.pe_c c_can_be hr (by decide) (by rfl) (pa_cons (pe_tup (pa_cons (pe_callB call_len_seq (by rfl) n_len PySem.boot_len (pa_cons (pv 3) pa_nil)) (pa_cons (pv 6) (pa_cons (pv 4) (pa_cons (pv 10) pa_nil))))) pa_nil))) (pw_or1 (pt_cmpR op_notN (C8.pe_c c_built hr (by decide) (by rfl) (pa_cons (pe_tup (pa_cons (pe_callB call_len_seq (by rfl) n_len PySem.boot_len (pa_cons (pv 3) pa_nil)) (pa_cons (pv 6) (pa_cons (pv 4) (pa_cons (pv 10) pa_nil))))) pa_nil)) pe_non (nomark _))))) (pss_one (ps_ret pe_bl)) pss_nil) (pss_one (ps_if (PW.pt (pw_and (pt_cmpR op_gt (pv 6) pe_int (nomark _)) (pw_and1 (pt_cmpR op_notN (C8.pe_c c_built hr (by decide) (by rfl) (pa_cons (pe_tup (pa_cons (pe_callB call_len_seq (by rfl) n_len PySem.boot_len (pa_cons (pv 3) pa_nil)) (pa_cons (pe_op op_sub (pv 6) pe_int) (pa_cons (pv 4) (pa_cons (pv 7) pa_nil))))) pa_nil)) pe_non (nomark _))))) (pss_one (ps_ret pe_bl)) pss_nil)))))))))))))) (pss_one (ps_ret pe_bl)))
/-! ### the defs of the top, joined -/
def DefIn (K : PySem.W.Frag) (mg : Str → Option Value) (cx x qual : Str) (st : Stmt) : Prop := ∃ f fd, Fun K x qual st f fd ∧ mg cx = some (.ref f)
theorem in_mk {K : PySem.W.Frag} {h : Heap} {mg : Str → Option Value} {cx x qual : Str} {st : Stmt} (X : K.In h) (G : h.Ns mainGlobals mg) {f : Addr} {oc : Value} {od an : Option Addr} {osl : Array (Option Value)} {kV doc pm cdv ct : Value}
    (a : PySem.W.nsIn K mainGlobals cx = some (some (.ref f))) (l : K.lookup f = some ⟨oc, od, .func (PySem.W.fnOf x qual (defArgs st) (defBody st) (defScope st) .none kV doc pm an cdv ct), osl⟩)
    (c : PySem.W.codeIn K cdv qual = true) (k : PySem.W.keepIn K (.ref f) = true) : DefIn K mg cx x qual st := ⟨_, _, fun_mk l c k, PySem.W.mg_of X G a⟩
theorem six_mk {K : PySem.W.Frag} {a : Addr} {od : Option Addr} {t1 t2 t3 t4 t5 t6 : Tok} {n : Nat} {sl : Array (Option Value)}
    (l : K.lookup a = some ⟨.type "tuple", od, .seq #[.int 2 t1, .int 3 t2, .int 5 t3, .int 7 t4, .int 11 t5, .int 13 t6] n, sl⟩) : WTup K a P6 := fun H =>
  .inr ⟨_, _, n, l, rfl, rfl, (by show 6 ≤ sizeLine; decide), .cons ⟨_, rfl⟩ (.cons ⟨_, rfl⟩ (.cons ⟨_, rfl⟩ (.cons ⟨_, rfl⟩ (.cons ⟨_, rfl⟩ (.cons ⟨_, rfl⟩ .nil)))))⟩
theorem five_mk {K : PySem.W.Frag} {a : Addr} {od : Option Addr} {t2 t3 t4 t5 t6 : Tok} {n : Nat} {sl : Array (Option Value)}
    (l : K.lookup a = some ⟨.type "tuple", od, .seq #[.int 3 t2, .int 5 t3, .int 7 t4, .int 11 t5, .int 13 t6] n, sl⟩) : WTup K a P5 := fun H =>
  .inr ⟨_, _, n, l, rfl, rfl, (by show 5 ≤ sizeLine; decide), .cons ⟨_, rfl⟩ (.cons ⟨_, rfl⟩ (.cons ⟨_, rfl⟩ (.cons ⟨_, rfl⟩ (.cons ⟨_, rfl⟩ .nil))))⟩
theorem none_mk {K : PySem.W.Frag} {a : Addr} {n : Nat} {t1 t2 t3 t4 t5 u1 u2 u3 u4 u5 : Tok}
    (l : K.lookup a = some ⟨.type "dict", none, .dict #[⟨3, .int 3 t1, .int 2 u1⟩, ⟨5, .int 5 t2, .int 2 u2⟩, ⟨7, .int 7 t3, .int 3 u3⟩, ⟨11, .int 11 t4, .int 2 u4⟩, ⟨13, .int 13 t5, .int 2 u5⟩] n, #[]⟩) : NoneBy K a := ⟨n, t1, t2, t3, t4, t5, u1, u2, u3, u4, u5, l⟩
theorem law_binds {K : PySem.W.Frag} {f : Addr} {fd : FuncData} (F : Fun K "law" "law" st_law f fd) (s : Shared) (v : Value) : BindsTo s fd ⟨[v], []⟩ [("_law_script", v)] := by
  obtain ⟨oc, od, kV, doc, pm, an, cdv, ct, osl, rfl, _, _⟩ := F.ex
  exact .of_eq rfl
theorem all_mk {P : Program} {w : World} {K : PySem.W.Frag} {mg : Str → Option Value} {fa : Addr} {fd : FuncData} (FL : Fun K "law" "law" st_law fa fd)
    (i_common : DefIn K mg "common" "common" "common" st_common)
    (i_is_prime : DefIn K mg "is_prime" "is_prime" "is_prime" st_is_prime)
    (i_tried : DefIn K mg "tried" "tried" "tried" st_tried)
    (i_whole_root : DefIn K mg "whole_root" "whole_root" "whole_root" st_whole_root)
    (i_power_by : DefIn K mg "power_by" "power_by" "power_by" st_power_by)
    (i_split_at : DefIn K mg "split_at" "split_at" "split_at" st_split_at)
    (i_is_row : DefIn K mg "is_row" "is_row" "is_row" st_is_row)
    (i_divisor : DefIn K mg "divisor" "divisor" "divisor" st_divisor)
    (i_known_part : DefIn K mg "known_part" "known_part" "known_part" st_known_part)
    (i_left_of : DefIn K mg "left_of" "left_of" "left_of" st_left_of)
    (i_kinds_at : DefIn K mg "kinds_at" "kinds_at" "kinds_at" st_kinds_at)
    (i_first_number : DefIn K mg "first_number" "first_number" "first_number" st_first_number)
    (i_l_cell_at : DefIn K mg "_law_cell_at" "_law_cell_at" "_law_cell_at" st_l_cell_at)
    (i_l_big : DefIn K mg "_law_big" "_law_big" "_law_big" st_l_big)
    (i_l_small : DefIn K mg "_law_small" "_law_small" "_law_small" st_l_small)
    (i_l_common : DefIn K mg "_law_common" "_law_common" "_law_common" st_l_common)
    (i_l_root : DefIn K mg "_law_root" "_law_root" "_law_root" st_l_root)
    (i_l_power : DefIn K mg "_law_power" "_law_power" "_law_power" st_l_power)
    (i_l_split : DefIn K mg "_law_split" "_law_split" "_law_split" st_l_split)
    (i_parts : DefIn K mg "parts" "parts" "parts" st_parts)
    (i_is_square : DefIn K mg "is_square" "is_square" "is_square" st_is_square)
    (i_square_by : DefIn K mg "square_by" "square_by" "square_by" st_square_by)
    (i_turns_at_two : DefIn K mg "turns_at_two" "turns_at_two" "turns_at_two" st_turns_at_two)
    (i_must_be_row : DefIn K mg "must_be_row" "must_be_row" "must_be_row" st_must_be_row)
    (i_l_row : DefIn K mg "_law_row" "_law_row" "_law_row" st_l_row)
    (i_l_free : DefIn K mg "_law_free" "_law_free" "_law_free" st_l_free)
    (i_l_free_times : DefIn K mg "_law_free_times" "_law_free_times" "_law_free_times" st_l_free_times)
    (i_l_says : DefIn K mg "_law_says" "_law_says" "_law_says" st_l_says)
    (i_free_of : DefIn K mg "free_of" "free_of" "free_of" st_free_of)
    (i_turns_at_odd : DefIn K mg "turns_at_odd" "turns_at_odd" "turns_at_odd" st_turns_at_odd)
    (i_places_of : DefIn K mg "places_of" "places_of" "places_of" st_places_of)
    (i_class_at : DefIn K mg "class_at" "class_at" "class_at" st_class_at)
    (i_signs_of : DefIn K mg "signs_of" "signs_of" "signs_of" st_signs_of)
    (i_wanted : DefIn K mg "wanted" "wanted" "wanted" st_wanted)
    (i_fits : DefIn K mg "fits" "fits" "fits" st_fits)
    (i_l_noes : DefIn K mg "_law_noes" "_law_noes" "_law_noes" st_l_noes)
    (i_says : DefIn K mg "says" "says" "says" st_says)
    (i_is_square_at : DefIn K mg "is_square_at" "is_square_at" "is_square_at" st_is_square_at)
    (i_fpr : DefIn K mg "free_product_rows" "free_product" "free_product" st_fpr)
    (i_fpt : DefIn K mg "free_product_three" "free_product" "free_product" st_fpt)
    (i_number_with_also : DefIn K mg "number_with_also" "number_with_also" "number_with_also" st_number_with_also)
    (i_is_odd_at : DefIn K mg "is_odd_at" "is_odd_at" "is_odd_at" st_is_odd_at)
    (i_number_with : DefIn K mg "number_with" "number_with" "number_with" st_number_with)
    (i_can_be : DefIn K mg "can_be" "can_be" "can_be" st_can_be)
    (i_wish_behind : DefIn K mg "wish_behind" "wish_behind" "wish_behind" st_wish_behind)
    (i_noes_of : DefIn K mg "noes_of" "noes_of" "noes_of" st_noes_of)
    (i_two_with : DefIn K mg "two_with" "two_with" "two_with" st_two_with)
    (i_built : DefIn K mg "built" "built" "built" st_built)
    (i_parting : DefIn K mg "parting" "parting" "parting" st_parting)
    (n_abs : mg "abs" = none)
    (n_bool : mg "bool" = none)
    (n_int : mg "int" = none)
    (n_isinstance : mg "isinstance" = none)
    (n_len : mg "len" = none)
    (n_min : mg "min" = none)
    (n_range : mg "range" = none)
    (n_sorted : mg "sorted" = none)
    (n_zip : mg "zip" = none)
    {k_TRIED : Tok} (g_TRIED : mg "TRIED" = some (.int 32768 k_TRIED))
    {k_MOST : Tok} (g_MOST : mg "MOST" = some (.int 1073741824 k_MOST))
    {k_LONGEST : Tok} (g_LONGEST : mg "LONGEST" = some (.int 8 k_LONGEST))
    {k_ALL : Tok} (g_ALL : mg "ALL" = some (.int 30030 k_ALL))
    {aS : Addr} (g_SMALL : mg "SMALL" = some (.ref aS))
    {aO : Addr} (g_ODD : mg "ODD" = some (.ref aO))
    {aN : Addr} (g_NONE_BY : mg "NONE_BY" = some (.ref aN))
    (hS : WTup K aS P6) (hO : WTup K aO P5) (hN : NoneBy K aN) :
    ∀ base : Heap, FnOk P w K mg base CX0 8 fa fd ["_law_script"] (sp_law K) := by
  intro base
  obtain ⟨_, _, F_common, m_common⟩ := i_common
  have c_common : C8.Cal P w K mg base 1 "common" sp_common [] := cal_of F_common m_common sc_common (by rintro vs H Q E ⟨_, _, rfl, _⟩; rfl) (fun _ _ _ _ _ _ us hl => match us, hl with | [_, _], _ => rfl) (fun cdv A outer s H E hr => d_common n_abs hr) (r_common K)
  obtain ⟨_, _, F_is_prime, m_is_prime⟩ := i_is_prime
  have c_is_prime : C8.Cal P w K mg base 1 "is_prime" sp_is_prime [] := cal_of F_is_prime m_is_prime sc_is_prime (by rintro vs H Q E ⟨_, rfl, _⟩; rfl) (fun _ _ _ _ _ _ us hl => match us, hl with | [_], _ => rfl) (fun cdv A outer s H E hr => d_is_prime  hr) (r_is_prime K)
  obtain ⟨_, _, F_tried, m_tried⟩ := i_tried
  have c_tried : C8.Cal P w K mg base 1 "tried" sp_tried [] := cal_of F_tried m_tried sc_tried (by rintro vs H Q E ⟨_, rfl, _⟩; rfl) (fun _ _ _ _ _ _ us hl => match us, hl with | [_], _ => rfl) (fun cdv A outer s H E hr => d_tried g_TRIED hr) (r_tried K)
  obtain ⟨_, _, F_whole_root, m_whole_root⟩ := i_whole_root
  have c_whole_root : C8.Cal P w K mg base 1 "whole_root" sp_whole_root [] := cal_of F_whole_root m_whole_root sc_whole_root (by rintro vs H Q E ⟨_, rfl, _⟩; rfl) (fun _ _ _ _ _ _ us hl => match us, hl with | [_], _ => rfl) (fun cdv A outer s H E hr => d_whole_root  hr) (r_whole_root K)
  obtain ⟨_, _, F_power_by, m_power_by⟩ := i_power_by
  have c_power_by : C8.Cal P w K mg base 1 "power_by" sp_power_by [] := cal_of F_power_by m_power_by sc_power_by (by rintro vs H Q E ⟨_, _, _, rfl, _⟩; rfl) (fun _ _ _ _ _ _ us hl => match us, hl with | [_, _, _], _ => rfl) (fun cdv A outer s H E hr => d_power_by  hr) (r_power_by K)
  obtain ⟨_, _, F_split_at, m_split_at⟩ := i_split_at
  have c_split_at : C8.Cal P w K mg base 1 "split_at" sp_split_at [] := cal_of F_split_at m_split_at sc_split_at (by rintro vs H Q E ⟨_, _, rfl, _⟩; rfl) (fun _ _ _ _ _ _ us hl => match us, hl with | [_, _], _ => rfl) (fun cdv A outer s H E hr => d_split_at  hr) (r_split_at K)
  obtain ⟨_, _, F_is_row, m_is_row⟩ := i_is_row
  have c_is_row : C8.Cal P w K mg base 1 "is_row" sp_is_row [] := cal_of F_is_row m_is_row sc_is_row (by rintro vs H Q E ⟨_, _, rfl, _⟩; rfl) (fun _ _ _ _ _ _ us hl => match us, hl with | [_], _ => rfl) (fun cdv A outer s H E hr => d_is_row n_len n_int n_isinstance n_bool n_abs g_LONGEST g_MOST hr) (r_is_row K)
  obtain ⟨_, _, F_divisor, m_divisor⟩ := i_divisor
  have c_divisor : C8.Cal P w K mg base 1 "divisor" sp_divisor [] := cal_of F_divisor m_divisor sc_divisor (by rintro vs H Q E ⟨_, _, rfl, _⟩; rfl) (fun _ _ _ _ _ _ us hl => match us, hl with | [_, _], _ => rfl) (fun cdv A outer s H E hr => d_divisor n_abs hr) (r_divisor K)
  obtain ⟨_, _, F_known_part, m_known_part⟩ := i_known_part
  have c_known_part : C8.Cal P w K mg base 1 "known_part" sp_known_part [] := cal_of F_known_part m_known_part sc_known_part (by rintro vs H Q E ⟨_, _, _, rfl, _⟩; rfl) (fun _ _ _ _ _ _ us hl => match us, hl with | [_], _ => rfl) (fun cdv A outer s H E hr => d_known_part n_zip g_SMALL hr) (r_known_part K aS hS)
  obtain ⟨_, _, F_left_of, m_left_of⟩ := i_left_of
  have c_left_of : C8.Cal P w K mg base 1 "left_of" sp_left_of [] := cal_of F_left_of m_left_of sc_left_of (by rintro vs H Q E ⟨_, _, rfl, _⟩; rfl) (fun _ _ _ _ _ _ us hl => match us, hl with | [_, _], _ => rfl) (fun cdv A outer s H E hr => d_left_of  hr) (r_left_of K)
  obtain ⟨_, _, F_kinds_at, m_kinds_at⟩ := i_kinds_at
  have c_kinds_at : C8.Cal P w K mg base 1 "kinds_at" sp_kinds_at [] := cal_of F_kinds_at m_kinds_at sc_kinds_at (by rintro vs H Q E ⟨_, rfl, _⟩; rfl) (fun _ _ _ _ _ _ us hl => match us, hl with | [_], _ => rfl) (fun cdv A outer s H E hr => d_kinds_at g_NONE_BY hr) (r_kinds_at K aN hN)
  obtain ⟨_, _, F_first_number, m_first_number⟩ := i_first_number
  have c_first_number : C8.Cal P w K mg base 1 "first_number" sp_first_number [] := cal_of F_first_number m_first_number sc_first_number (by rintro vs H Q E ⟨_, _, _, rfl, _⟩; rfl) (fun _ _ _ _ _ _ us hl => match us, hl with | [_, _, _], _ => rfl) (fun cdv A outer s H E hr => d_first_number n_abs g_ALL hr) (r_first_number K)
  obtain ⟨_, _, F_l_cell_at, m_l_cell_at⟩ := i_l_cell_at
  have c_l_cell_at : C8.Cal P w K mg base 1 "_law_cell_at" (sp_l_cell_at K) [] := cal_of F_l_cell_at m_l_cell_at sc_l_cell_at (by rintro vs H Q E ⟨_, _, _, rfl, _⟩; rfl) (fun _ _ _ _ _ _ us hl => match us, hl with | [_, _], _ => rfl) (fun cdv A outer s H E hr => d_l_cell_at n_len hr) (r_l_cell_at K)
  obtain ⟨_, _, F_l_big, m_l_big⟩ := i_l_big
  have c_l_big : C8.Cal P w K mg base 1 "_law_big" sp_l_big [] := cal_of F_l_big m_l_big sc_l_big (by rintro vs H Q E ⟨_, _, rfl, _⟩; rfl) (fun _ _ _ _ _ _ us hl => match us, hl with | [_, _], _ => rfl) (fun cdv A outer s H E hr => d_l_big n_abs n_range hr) (r_l_big K)
  obtain ⟨_, _, F_l_small, m_l_small⟩ := i_l_small
  have c_l_small : C8.Cal P w K mg base 1 "_law_small" sp_l_small [] := cal_of F_l_small m_l_small sc_l_small (by rintro vs H Q E ⟨_, rfl, _⟩; rfl) (fun _ _ _ _ _ _ us hl => match us, hl with | [_], _ => rfl) (fun cdv A outer s H E hr => d_l_small  hr) (r_l_small K)
  obtain ⟨_, _, F_l_common, m_l_common⟩ := i_l_common
  have c_l_common : C8.Cal P w K mg base 1 "_law_common" sp_l_common [] := cal_of F_l_common m_l_common sc_l_common (by rintro vs H Q E ⟨_, _, rfl, _⟩; rfl) (fun _ _ _ _ _ _ us hl => match us, hl with | [_, _], _ => rfl) (fun cdv A outer s H E hr => d_l_common n_abs hr) (r_l_common K)
  obtain ⟨_, _, F_l_root, m_l_root⟩ := i_l_root
  have c_l_root : C8.Cal P w K mg base 1 "_law_root" sp_l_root [] := cal_of F_l_root m_l_root sc_l_root (by rintro vs H Q E ⟨_, rfl, _⟩; rfl) (fun _ _ _ _ _ _ us hl => match us, hl with | [_], _ => rfl) (fun cdv A outer s H E hr => d_l_root  hr) (r_l_root K)
  obtain ⟨_, _, F_l_power, m_l_power⟩ := i_l_power
  have c_l_power : C8.Cal P w K mg base 1 "_law_power" sp_l_power [] := cal_of F_l_power m_l_power sc_l_power (by rintro vs H Q E ⟨_, _, _, rfl, _⟩; rfl) (fun _ _ _ _ _ _ us hl => match us, hl with | [_, _, _], _ => rfl) (fun cdv A outer s H E hr => d_l_power  hr) (r_l_power K)
  obtain ⟨_, _, F_l_split, m_l_split⟩ := i_l_split
  have c_l_split : C8.Cal P w K mg base 1 "_law_split" sp_l_split [] := cal_of F_l_split m_l_split sc_l_split (by rintro vs H Q E ⟨_, _, rfl, _⟩; rfl) (fun _ _ _ _ _ _ us hl => match us, hl with | [_, _], _ => rfl) (fun cdv A outer s H E hr => d_l_split  hr) (r_l_split K)
  obtain ⟨_, _, F_parts, m_parts⟩ := i_parts
  have c_parts : C8.Cal P w K mg base 2 "parts" sp_parts [] := cal_of F_parts m_parts sc_parts (by rintro vs H Q E ⟨_, rfl, _⟩; rfl) (fun _ _ _ _ _ _ us hl => match us, hl with | [_], _ => rfl) (fun cdv A outer s H E hr => d_parts c_tried hr) (r_parts K)
  obtain ⟨_, _, F_is_square, m_is_square⟩ := i_is_square
  have c_is_square : C8.Cal P w K mg base 2 "is_square" sp_is_square [] := cal_of F_is_square m_is_square sc_is_square (by rintro vs H Q E ⟨_, rfl, _⟩; rfl) (fun _ _ _ _ _ _ us hl => match us, hl with | [_], _ => rfl) (fun cdv A outer s H E hr => d_is_square c_whole_root hr) (r_is_square K)
  obtain ⟨_, _, F_square_by, m_square_by⟩ := i_square_by
  have c_square_by : C8.Cal P w K mg base 2 "square_by" sp_square_by [] := cal_of F_square_by m_square_by sc_square_by (by rintro vs H Q E ⟨_, _, rfl, _⟩; rfl) (fun _ _ _ _ _ _ us hl => match us, hl with | [_, _], _ => rfl) (fun cdv A outer s H E hr => d_square_by c_power_by hr) (r_square_by K)
  obtain ⟨_, _, F_turns_at_two, m_turns_at_two⟩ := i_turns_at_two
  have c_turns_at_two : C8.Cal P w K mg base 2 "turns_at_two" sp_turns_at_two [] := cal_of F_turns_at_two m_turns_at_two sc_turns_at_two (by rintro vs H Q E ⟨_, _, rfl, _⟩; rfl) (fun _ _ _ _ _ _ us hl => match us, hl with | [_, _], _ => rfl) (fun cdv A outer s H E hr => d_turns_at_two c_split_at hr) (r_turns_at_two K)
  obtain ⟨_, _, F_must_be_row, m_must_be_row⟩ := i_must_be_row
  have c_must_be_row : C8.Cal P w K mg base 2 "must_be_row" sp_must_be_row [] := cal_of F_must_be_row m_must_be_row sc_must_be_row (by rintro vs H Q E ⟨_, _, rfl, _⟩; rfl) (fun _ _ _ _ _ _ us hl => match us, hl with | [_], _ => rfl) (fun cdv A outer s H E hr => d_must_be_row c_is_row hr) (r_must_be_row K)
  obtain ⟨_, _, F_l_row, m_l_row⟩ := i_l_row
  have c_l_row : C8.Cal P w K mg base 2 "_law_row" sp_l_row [] := cal_of F_l_row m_l_row sc_l_row (by rintro vs H Q E ⟨_, _, rfl, _⟩; rfl) (fun _ _ _ _ _ _ us hl => match us, hl with | [_, _], _ => rfl) (fun cdv A outer s H E hr => d_l_row c_l_small n_range hr) (r_l_row K)
  obtain ⟨_, _, F_l_free, m_l_free⟩ := i_l_free
  have c_l_free : C8.Cal P w K mg base 2 "_law_free" sp_l_free [] := cal_of F_l_free m_l_free sc_l_free (by rintro vs H Q E ⟨_, rfl, _⟩; rfl) (fun _ _ _ _ _ _ us hl => match us, hl with | [_], _ => rfl) (fun cdv A outer s H E hr => d_l_free c_l_root n_abs hr) (r_l_free K)
  obtain ⟨_, _, F_l_free_times, m_l_free_times⟩ := i_l_free_times
  have c_l_free_times : C8.Cal P w K mg base 2 "_law_free_times" sp_l_free_times [] := cal_of F_l_free_times m_l_free_times sc_l_free_times (by rintro vs H Q E ⟨_, _, rfl, _⟩; rfl) (fun _ _ _ _ _ _ us hl => match us, hl with | [_, _], _ => rfl) (fun cdv A outer s H E hr => d_l_free_times c_l_common hr) (r_l_free_times K)
  obtain ⟨_, _, F_l_says, m_l_says⟩ := i_l_says
  have c_l_says : C8.Cal P w K mg base 2 "_law_says" sp_l_says [] := cal_of F_l_says m_l_says sc_l_says (by rintro vs H Q E ⟨_, _, _, rfl, _⟩; rfl) (fun _ _ _ _ _ _ us hl => match us, hl with | [_, _, _], _ => rfl) (fun cdv A outer s H E hr => d_l_says c_l_split c_l_power hr) (r_l_says K)
  obtain ⟨_, _, F_free_of, m_free_of⟩ := i_free_of
  have c_free_of : C8.Cal P w K mg base 3 "free_of" sp_free_of [] := cal_of F_free_of m_free_of sc_free_of (by rintro vs H Q E ⟨_, rfl, _⟩; rfl) (fun _ _ _ _ _ _ us hl => match us, hl with | [_], _ => rfl) (fun cdv A outer s H E hr => d_free_of c_tried c_is_square n_abs g_MOST hr) (r_free_of K)
  obtain ⟨_, _, F_turns_at_odd, m_turns_at_odd⟩ := i_turns_at_odd
  have c_turns_at_odd : C8.Cal P w K mg base 3 "turns_at_odd" sp_turns_at_odd [] := cal_of F_turns_at_odd m_turns_at_odd sc_turns_at_odd (by rintro vs H Q E ⟨_, _, _, rfl, _⟩; rfl) (fun _ _ _ _ _ _ us hl => match us, hl with | [_, _, _], _ => rfl) (fun cdv A outer s H E hr => d_turns_at_odd c_split_at c_square_by hr) (r_turns_at_odd K)
  obtain ⟨_, _, F_places_of, m_places_of⟩ := i_places_of
  have c_places_of : C8.Cal P w K mg base 3 "places_of" sp_places_of [] := cal_of F_places_of m_places_of sc_places_of (by rintro vs H Q E ⟨_, _, rfl, _⟩; rfl) (fun _ _ _ _ _ _ us hl => match us, hl with | [_], _ => rfl) (fun cdv A outer s H E hr => d_places_of c_parts n_abs n_sorted hr) (r_places_of K)
  obtain ⟨_, _, F_class_at, m_class_at⟩ := i_class_at
  have c_class_at : C8.Cal P w K mg base 3 "class_at" sp_class_at [] := cal_of F_class_at m_class_at sc_class_at (by rintro vs H Q E ⟨_, _, rfl, _⟩; rfl) (fun _ _ _ _ _ _ us hl => match us, hl with | [_, _], _ => rfl) (fun cdv A outer s H E hr => d_class_at c_split_at c_square_by hr) (r_class_at K)
  obtain ⟨_, _, F_signs_of, m_signs_of⟩ := i_signs_of
  have c_signs_of : C8.Cal P w K mg base 3 "signs_of" sp_signs_of [] := cal_of F_signs_of m_signs_of sc_signs_of (by rintro vs H Q E ⟨_, _, rfl, _⟩; rfl) (fun _ _ _ _ _ _ us hl => match us, hl with | [_], _ => rfl) (fun cdv A outer s H E hr => d_signs_of c_must_be_row n_len hr) (r_signs_of K)
  obtain ⟨_, _, F_wanted, m_wanted⟩ := i_wanted
  have c_wanted : C8.Cal P w K mg base 3 "wanted" sp_wanted [] := cal_of F_wanted m_wanted sc_wanted (by rintro vs H Q E ⟨_, _, _, rfl, _⟩; rfl) (fun _ _ _ _ _ _ us hl => match us, hl with | [_, _], _ => rfl) (fun cdv A outer s H E hr => d_wanted c_left_of c_square_by n_zip g_ODD hr) (r_wanted K aO hO)
  obtain ⟨_, _, F_fits, m_fits⟩ := i_fits
  have c_fits : C8.Cal P w K mg base 3 "fits" sp_fits [] := cal_of F_fits m_fits sc_fits (by rintro vs H Q E ⟨_, _, _, _, _, rfl, _⟩; rfl) (fun _ _ _ _ _ _ us hl => match us, hl with | [_, _], _ => rfl) (fun cdv A outer s H E hr => d_fits c_square_by n_zip g_ODD hr) (r_fits K aO hO)
  obtain ⟨_, _, F_l_noes, m_l_noes⟩ := i_l_noes
  have c_l_noes : C8.Cal P w K mg base 3 "_law_noes" sp_l_noes [] := cal_of F_l_noes m_l_noes sc_l_noes (by rintro vs H Q E ⟨_, _, _, _, rfl, _⟩; rfl) (fun _ _ _ _ _ _ us hl => match us, hl with | [_, _], _ => rfl) (fun cdv A outer s H E hr => d_l_noes c_l_says n_range n_len hr) (r_l_noes K)
  obtain ⟨_, _, F_says, m_says⟩ := i_says
  have c_says : C8.Cal P w K mg base 4 "says" sp_says [] := cal_of F_says m_says sc_says (by rintro vs H Q E ⟨_, _, _, rfl, _⟩; rfl) (fun _ _ _ _ _ _ us hl => match us, hl with | [_, _, _], _ => rfl) (fun cdv A outer s H E hr => d_says c_turns_at_two c_turns_at_odd hr) (r_says K)
  obtain ⟨_, _, F_is_square_at, m_is_square_at⟩ := i_is_square_at
  have c_is_square_at : C8.Cal P w K mg base 4 "is_square_at" sp_is_square_at [] := cal_of F_is_square_at m_is_square_at sc_is_square_at (by rintro vs H Q E ⟨_, _, rfl, _⟩; rfl) (fun _ _ _ _ _ _ us hl => match us, hl with | [_, _], _ => rfl) (fun cdv A outer s H E hr => d_is_square_at c_class_at hr) (r_is_square_at K)
  obtain ⟨_, _, F_fpr, m_fpr⟩ := i_fpr
  have c_fpr : C8.Cal P w K mg base 4 "free_product_rows" sp_fpr [] := cal_of F_fpr m_fpr sc_fpr (by rintro vs H Q E ⟨_, _, rfl, _⟩; rfl) (fun _ _ _ _ _ _ us hl => match us, hl with | [_], _ => rfl) (fun cdv A outer s H E hr => d_fpr c_free_of c_divisor hr) (r_fpr K)
  obtain ⟨_, _, F_fpt, m_fpt⟩ := i_fpt
  have c_fpt : C8.Cal P w K mg base 4 "free_product_three" sp_fpt [] := cal_of F_fpt m_fpt sc_fpt (by rintro vs H Q E ⟨_, _, rfl, _⟩; rfl) (fun _ _ _ _ _ _ us hl => match us, hl with | [_, _], _ => rfl) (fun cdv A outer s H E hr => d_fpt c_free_of c_common hr) (r_fpt K)
  obtain ⟨_, _, F_number_with_also, m_number_with_also⟩ := i_number_with_also
  have c_number_with_also : C8.Cal P w K mg base 4 "number_with_also" sp_number_with_also [] := cal_of F_number_with_also m_number_with_also sc_number_with_also (by rintro vs H Q E ⟨_, _, _, rfl, _⟩; rfl) (fun _ _ _ _ _ _ us hl => match us, hl with | [_, _, _], _ => rfl) (fun cdv A outer s H E hr => d_number_with_also c_known_part c_wanted c_fits c_is_prime c_square_by hr) (r_number_with_also K)
  obtain ⟨_, _, F_is_odd_at, m_is_odd_at⟩ := i_is_odd_at
  have c_is_odd_at : C8.Cal P w K mg base 5 "is_odd_at" sp_is_odd_at [] := cal_of F_is_odd_at m_is_odd_at sc_is_odd_at (by rintro vs H Q E ⟨_, _, _, rfl, _⟩; rfl) (fun _ _ _ _ _ _ us hl => match us, hl with | [_, _], _ => rfl) (fun cdv A outer s H E hr => d_is_odd_at c_says n_range n_len hr) (r_is_odd_at K)
  obtain ⟨_, _, F_number_with, m_number_with⟩ := i_number_with
  have c_number_with : C8.Cal P w K mg base 5 "number_with" sp_number_with [] := cal_of F_number_with m_number_with sc_number_with (by rintro vs H Q E ⟨_, _, _, rfl, _⟩; rfl) (fun _ _ _ _ _ _ us hl => match us, hl with | [_], _ => rfl) (fun cdv A outer s H E hr => d_number_with c_number_with_also hr) (r_number_with K)
  obtain ⟨_, _, F_can_be, m_can_be⟩ := i_can_be
  have c_can_be : C8.Cal P w K mg base 5 "can_be" sp_can_be [] := cal_of F_can_be m_can_be sc_can_be (by rintro vs H Q E ⟨_, _, _, _, _, _, rfl, _⟩; rfl) (fun _ _ _ _ _ _ us hl => match us, hl with | [_], _ => rfl) (fun cdv A outer s H E hr => d_can_be c_is_square_at n_len hr) (r_can_be K)
  obtain ⟨_, _, F_wish_behind, m_wish_behind⟩ := i_wish_behind
  have c_wish_behind : C8.Cal P w K mg base 5 "wish_behind" sp_wish_behind [] := cal_of F_wish_behind m_wish_behind sc_wish_behind (by rintro vs H Q E ⟨_, _, _, _, _, _, _, rfl, _⟩; rfl) (fun _ _ _ _ _ _ us hl => match us, hl with | [_, _], _ => rfl) (fun cdv A outer s H E hr => d_wish_behind c_fpt c_says n_int g_SMALL hr) (r_wish_behind K aS hS)
  obtain ⟨_, _, F_noes_of, m_noes_of⟩ := i_noes_of
  have c_noes_of : C8.Cal P w K mg base 6 "noes_of" sp_noes_of [] := cal_of F_noes_of m_noes_of sc_noes_of (by rintro vs H Q E ⟨_, _, rfl, _⟩; rfl) (fun _ _ _ _ _ _ us hl => match us, hl with | [_], _ => rfl) (fun cdv A outer s H E hr => d_noes_of c_must_be_row c_places_of c_is_odd_at hr) (r_noes_of K)
  obtain ⟨_, _, F_two_with, m_two_with⟩ := i_two_with
  have c_two_with : C8.Cal P w K mg base 6 "two_with" sp_two_with [] := cal_of F_two_with m_two_with sc_two_with (by rintro vs H Q E ⟨_, _, _, _, rfl, _⟩; rfl) (fun _ _ _ _ _ _ us hl => match us, hl with | [_, _, _], _ => rfl) (fun cdv A outer s H E hr => d_two_with c_kinds_at c_says c_class_at c_number_with c_fpt g_SMALL hr) (r_two_with K aS hS)
  obtain ⟨_, _, F_built, m_built⟩ := i_built
  have c_built : C8.Cal P w K mg base 7 "built" sp_built [] := cal_of F_built m_built sc_built (by rintro vs H Q E ⟨_, _, _, _, _, _, rfl, _⟩; rfl) (fun _ _ _ _ _ _ us hl => match us, hl with | [_], _ => rfl) (fun cdv A outer s H E hr => d_built c_can_be c_first_number c_wish_behind c_two_with hr) (r_built K)
  obtain ⟨_, _, F_parting, m_parting⟩ := i_parting
  have c_parting : C8.Cal P w K mg base 7 "parting" sp_parting [] := cal_of F_parting m_parting sc_parting (by rintro vs H Q E ⟨_, _, _, _, rfl, _⟩; rfl) (fun _ _ _ _ _ _ us hl => match us, hl with | [_, _], _ => rfl) (fun cdv A outer s H E hr => d_parting c_noes_of c_signs_of c_fpr n_len n_sorted hr) (r_parting K)
  exact FL.ok sc_law (by rintro vs H Q E ⟨_, _, rfl, _⟩; rfl) fun cdv A outer s H vs Q E hr h => ⟨_, d_law c_l_cell_at c_l_big c_l_row c_l_free c_l_free_times c_l_noes c_can_be c_built c_parting n_range n_len n_min n_int n_sorted hr, r_law K vs H Q E h⟩
end K64
set_option maxHeartbeats 0
open PySem PySem.W PyProof.Rows
theorem PySem.Challenge.cw_everyplace_k64_whole_every_row_can_be_holds : PySem.Challenge.rw_everyplace_k64_whole_every_row_can_be.Holds := by
  w_on; o_law; k_head; (case hw => w_witness2)
  k_fill
  refine L2.walk_of (l := PySem.Challenge.rw_everyplace_k64_whole_every_row_can_be) (n := 63) (k := 8) (x := "_law_script") (CX := fun _ => L2.CX0) (sp := fun w => K64.sp_law _) rfl (by decide) rfl ⟨rfl, by decide, by decide⟩ (fun w h Y => PySem.W.kIn_of Y) ?F (fun _ _ a ns hl _ hS => ⟨a, ns, rfl, hS, hl, fun _ => rfl⟩) (fun _ _ _ _ _ h => h)
  case F =>
    intro w mg fa h KX G hmg
    have i_common := K64.in_mk (cx := "common") (x := "common") (qual := "common") (st := K64.st_common) KX G (by k_is) (by k_is) (by k_is) (by k_is)
    have i_is_prime := K64.in_mk (cx := "is_prime") (x := "is_prime") (qual := "is_prime") (st := K64.st_is_prime) KX G (by k_is) (by k_is) (by k_is) (by k_is)
    have i_tried := K64.in_mk (cx := "tried") (x := "tried") (qual := "tried") (st := K64.st_tried) KX G (by k_is) (by k_is) (by k_is) (by k_is)
    have i_whole_root := K64.in_mk (cx := "whole_root") (x := "whole_root") (qual := "whole_root") (st := K64.st_whole_root) KX G (by k_is) (by k_is) (by k_is) (by k_is)
    have i_power_by := K64.in_mk (cx := "power_by") (x := "power_by") (qual := "power_by") (st := K64.st_power_by) KX G (by k_is) (by k_is) (by k_is) (by k_is)
    have i_split_at := K64.in_mk (cx := "split_at") (x := "split_at") (qual := "split_at") (st := K64.st_split_at) KX G (by k_is) (by k_is) (by k_is) (by k_is)
    have i_is_row := K64.in_mk (cx := "is_row") (x := "is_row") (qual := "is_row") (st := K64.st_is_row) KX G (by k_is) (by k_is) (by k_is) (by k_is)
    have i_divisor := K64.in_mk (cx := "divisor") (x := "divisor") (qual := "divisor") (st := K64.st_divisor) KX G (by k_is) (by k_is) (by k_is) (by k_is)
    have i_known_part := K64.in_mk (cx := "known_part") (x := "known_part") (qual := "known_part") (st := K64.st_known_part) KX G (by k_is) (by k_is) (by k_is) (by k_is)
    have i_left_of := K64.in_mk (cx := "left_of") (x := "left_of") (qual := "left_of") (st := K64.st_left_of) KX G (by k_is) (by k_is) (by k_is) (by k_is)
    have i_kinds_at := K64.in_mk (cx := "kinds_at") (x := "kinds_at") (qual := "kinds_at") (st := K64.st_kinds_at) KX G (by k_is) (by k_is) (by k_is) (by k_is)
    have i_first_number := K64.in_mk (cx := "first_number") (x := "first_number") (qual := "first_number") (st := K64.st_first_number) KX G (by k_is) (by k_is) (by k_is) (by k_is)
    have i_l_cell_at := K64.in_mk (cx := "_law_cell_at") (x := "_law_cell_at") (qual := "_law_cell_at") (st := K64.st_l_cell_at) KX G (by k_is) (by k_is) (by k_is) (by k_is)
    have i_l_big := K64.in_mk (cx := "_law_big") (x := "_law_big") (qual := "_law_big") (st := K64.st_l_big) KX G (by k_is) (by k_is) (by k_is) (by k_is)
    have i_l_small := K64.in_mk (cx := "_law_small") (x := "_law_small") (qual := "_law_small") (st := K64.st_l_small) KX G (by k_is) (by k_is) (by k_is) (by k_is)
    have i_l_common := K64.in_mk (cx := "_law_common") (x := "_law_common") (qual := "_law_common") (st := K64.st_l_common) KX G (by k_is) (by k_is) (by k_is) (by k_is)
    have i_l_root := K64.in_mk (cx := "_law_root") (x := "_law_root") (qual := "_law_root") (st := K64.st_l_root) KX G (by k_is) (by k_is) (by k_is) (by k_is)
    have i_l_power := K64.in_mk (cx := "_law_power") (x := "_law_power") (qual := "_law_power") (st := K64.st_l_power) KX G (by k_is) (by k_is) (by k_is) (by k_is)
    have i_l_split := K64.in_mk (cx := "_law_split") (x := "_law_split") (qual := "_law_split") (st := K64.st_l_split) KX G (by k_is) (by k_is) (by k_is) (by k_is)
    have i_parts := K64.in_mk (cx := "parts") (x := "parts") (qual := "parts") (st := K64.st_parts) KX G (by k_is) (by k_is) (by k_is) (by k_is)
    have i_is_square := K64.in_mk (cx := "is_square") (x := "is_square") (qual := "is_square") (st := K64.st_is_square) KX G (by k_is) (by k_is) (by k_is) (by k_is)
    have i_square_by := K64.in_mk (cx := "square_by") (x := "square_by") (qual := "square_by") (st := K64.st_square_by) KX G (by k_is) (by k_is) (by k_is) (by k_is)
    have i_turns_at_two := K64.in_mk (cx := "turns_at_two") (x := "turns_at_two") (qual := "turns_at_two") (st := K64.st_turns_at_two) KX G (by k_is) (by k_is) (by k_is) (by k_is)
    have i_must_be_row := K64.in_mk (cx := "must_be_row") (x := "must_be_row") (qual := "must_be_row") (st := K64.st_must_be_row) KX G (by k_is) (by k_is) (by k_is) (by k_is)
    have i_l_row := K64.in_mk (cx := "_law_row") (x := "_law_row") (qual := "_law_row") (st := K64.st_l_row) KX G (by k_is) (by k_is) (by k_is) (by k_is)
    have i_l_free := K64.in_mk (cx := "_law_free") (x := "_law_free") (qual := "_law_free") (st := K64.st_l_free) KX G (by k_is) (by k_is) (by k_is) (by k_is)
    have i_l_free_times := K64.in_mk (cx := "_law_free_times") (x := "_law_free_times") (qual := "_law_free_times") (st := K64.st_l_free_times) KX G (by k_is) (by k_is) (by k_is) (by k_is)
    have i_l_says := K64.in_mk (cx := "_law_says") (x := "_law_says") (qual := "_law_says") (st := K64.st_l_says) KX G (by k_is) (by k_is) (by k_is) (by k_is)
    have i_free_of := K64.in_mk (cx := "free_of") (x := "free_of") (qual := "free_of") (st := K64.st_free_of) KX G (by k_is) (by k_is) (by k_is) (by k_is)
    have i_turns_at_odd := K64.in_mk (cx := "turns_at_odd") (x := "turns_at_odd") (qual := "turns_at_odd") (st := K64.st_turns_at_odd) KX G (by k_is) (by k_is) (by k_is) (by k_is)
    have i_places_of := K64.in_mk (cx := "places_of") (x := "places_of") (qual := "places_of") (st := K64.st_places_of) KX G (by k_is) (by k_is) (by k_is) (by k_is)
    have i_class_at := K64.in_mk (cx := "class_at") (x := "class_at") (qual := "class_at") (st := K64.st_class_at) KX G (by k_is) (by k_is) (by k_is) (by k_is)
    have i_signs_of := K64.in_mk (cx := "signs_of") (x := "signs_of") (qual := "signs_of") (st := K64.st_signs_of) KX G (by k_is) (by k_is) (by k_is) (by k_is)
    have i_wanted := K64.in_mk (cx := "wanted") (x := "wanted") (qual := "wanted") (st := K64.st_wanted) KX G (by k_is) (by k_is) (by k_is) (by k_is)
    have i_fits := K64.in_mk (cx := "fits") (x := "fits") (qual := "fits") (st := K64.st_fits) KX G (by k_is) (by k_is) (by k_is) (by k_is)
    have i_l_noes := K64.in_mk (cx := "_law_noes") (x := "_law_noes") (qual := "_law_noes") (st := K64.st_l_noes) KX G (by k_is) (by k_is) (by k_is) (by k_is)
    have i_says := K64.in_mk (cx := "says") (x := "says") (qual := "says") (st := K64.st_says) KX G (by k_is) (by k_is) (by k_is) (by k_is)
    have i_is_square_at := K64.in_mk (cx := "is_square_at") (x := "is_square_at") (qual := "is_square_at") (st := K64.st_is_square_at) KX G (by k_is) (by k_is) (by k_is) (by k_is)
    have i_fpr := K64.in_mk (cx := "free_product_rows") (x := "free_product") (qual := "free_product") (st := K64.st_fpr) KX G (by k_is) (by k_is) (by k_is) (by k_is)
    have i_fpt := K64.in_mk (cx := "free_product_three") (x := "free_product") (qual := "free_product") (st := K64.st_fpt) KX G (by k_is) (by k_is) (by k_is) (by k_is)
    have i_number_with_also := K64.in_mk (cx := "number_with_also") (x := "number_with_also") (qual := "number_with_also") (st := K64.st_number_with_also) KX G (by k_is) (by k_is) (by k_is) (by k_is)
    have i_is_odd_at := K64.in_mk (cx := "is_odd_at") (x := "is_odd_at") (qual := "is_odd_at") (st := K64.st_is_odd_at) KX G (by k_is) (by k_is) (by k_is) (by k_is)
    have i_number_with := K64.in_mk (cx := "number_with") (x := "number_with") (qual := "number_with") (st := K64.st_number_with) KX G (by k_is) (by k_is) (by k_is) (by k_is)
    have i_can_be := K64.in_mk (cx := "can_be") (x := "can_be") (qual := "can_be") (st := K64.st_can_be) KX G (by k_is) (by k_is) (by k_is) (by k_is)
    have i_wish_behind := K64.in_mk (cx := "wish_behind") (x := "wish_behind") (qual := "wish_behind") (st := K64.st_wish_behind) KX G (by k_is) (by k_is) (by k_is) (by k_is)
    have i_noes_of := K64.in_mk (cx := "noes_of") (x := "noes_of") (qual := "noes_of") (st := K64.st_noes_of) KX G (by k_is) (by k_is) (by k_is) (by k_is)
    have i_two_with := K64.in_mk (cx := "two_with") (x := "two_with") (qual := "two_with") (st := K64.st_two_with) KX G (by k_is) (by k_is) (by k_is) (by k_is)
    have i_built := K64.in_mk (cx := "built") (x := "built") (qual := "built") (st := K64.st_built) KX G (by k_is) (by k_is) (by k_is) (by k_is)
    have i_parting := K64.in_mk (cx := "parting") (x := "parting") (qual := "parting") (st := K64.st_parting) KX G (by k_is) (by k_is) (by k_is) (by k_is)
    have i_law := K64.in_mk (cx := "law") (x := "law") (qual := "law") (st := K64.st_law) KX G (by k_is) (by k_is) (by k_is) (by k_is)
    obtain ⟨fl, fd, FL, mL⟩ := i_law
    cases hmg.symm.trans mL
    refine ⟨fd, K64.law_binds FL, fun base _ _ => ?_⟩
    refine' K64.all_mk FL i_common i_is_prime i_tried i_whole_root i_power_by i_split_at i_is_row i_divisor i_known_part i_left_of i_kinds_at i_first_number i_l_cell_at i_l_big i_l_small i_l_common i_l_root i_l_power i_l_split i_parts i_is_square i_square_by i_turns_at_two i_must_be_row i_l_row i_l_free i_l_free_times i_l_says i_free_of i_turns_at_odd i_places_of i_class_at i_signs_of i_wanted i_fits i_l_noes i_says i_is_square_at i_fpr i_fpt i_number_with_also i_is_odd_at i_number_with i_can_be i_wish_behind i_noes_of i_two_with i_built i_parting (PySem.W.mg_none_of KX G ?n_abs) (PySem.W.mg_none_of KX G ?n_bool) (PySem.W.mg_none_of KX G ?n_int) (PySem.W.mg_none_of KX G ?n_isinstance) (PySem.W.mg_none_of KX G ?n_len) (PySem.W.mg_none_of KX G ?n_min) (PySem.W.mg_none_of KX G ?n_range) (PySem.W.mg_none_of KX G ?n_sorted) (PySem.W.mg_none_of KX G ?n_zip) (PySem.W.mg_of KX G ?g_TRIED) (PySem.W.mg_of KX G ?g_MOST) (PySem.W.mg_of KX G ?g_LONGEST) (PySem.W.mg_of KX G ?g_ALL) (PySem.W.mg_of KX G ?g_SMALL) (PySem.W.mg_of KX G ?g_ODD) (PySem.W.mg_of KX G ?g_NONE_BY) (K64.six_mk ?lg_SMALL) (K64.five_mk ?lg_ODD) (K64.none_mk ?lg_NONE_BY) base
    (case n_abs => k_is); (case n_bool => k_is); (case n_int => k_is); (case n_isinstance => k_is); (case n_len => k_is); (case n_min => k_is); (case n_range => k_is); (case n_sorted => k_is); (case n_zip => k_is); (case g_TRIED => k_is); (case g_MOST => k_is); (case g_LONGEST => k_is); (case g_ALL => k_is); (case g_SMALL => k_is); (case g_ODD => k_is); (case g_NONE_BY => k_is); (case lg_SMALL => k_is); (case lg_ODD => k_is); (case lg_NONE_BY => k_is)
