/- What the field's functions compute, with no memory in sight. -/
import Derived.Test.YtbjanbbjjnoecaaEV
import Derived.Test.YtbjanbbjjnoecaaPPolyBackx
namespace Go.Proofs.Ytbjanbbjjnoecaa.FPolyBack
open Go.RowKit Go Go.Proofs.YtbjanbbjjnoecaaW.PrintWords Go.Proofs.YtbjanbbjjnoecaaW.PrintLast Go.Proofs.YtbjanbbjjnoecaaW.PrintMore Go.Proofs.Ytbjanbbjjnoecaa.M Go.Proofs.Ytbjanbbjjnoecaa.PPolyBack

/-- A field: its prime, and whether it is the large one. -/
def PF (p : Int) (w : Bool) : Prop := (p = 2013265921 ∧ w = false) ∨ (p = 18446744069414584321 ∧ w = true)
theorem PF.lo {p : Int} {w : Bool} (h : PF p w) : 2013265921 ≤ p := by unfold PF at h; omega
theorem PF.hi {p : Int} {w : Bool} (h : PF p w) : p ≤ 18446744069414584321 := by unfold PF at h; omega

theorem addLo_eq (a b : Int) (ha : 0 ≤ a) (hb : 0 ≤ b) : addLo a b = (a + b) % 18446744073709551616 := by unfold addLo; omega
theorem addHi_eq (a b : Int) (ha : 0 ≤ a) (hb : 0 ≤ b) : addHi a b = (a + b) / 18446744073709551616 := by unfold addHi; omega
theorem subLo_eq (a b : Int) (ha : 0 ≤ a) (hb : 0 ≤ b) (hb1 : b < 18446744073709551616) : subLo a b = (a - b) % 18446744073709551616 := by unfold subLo; omega
theorem subHi_eq (a b : Int) (ha : 0 ≤ a) (hb : 0 ≤ b) : subHi a b = if a < b then 1 else 0 := by
  unfold subHi; split <;> split <;> omega
theorem add_eq {p : Int} {w : Bool} (h : PF p w) {a b : Int} (ha : 0 ≤ a) (ha1 : a < p) (hb : 0 ≤ b) (hb1 : b < p) : field_reckoner_add.f p w a b = some ((a + b) % p) := by
  have h1 := h.lo; have h2 := h.hi
  have e : (a + b) % p = if a + b < p then a + b else a + b - p := by
    split
    · exact Int.emod_eq_of_lt (by omega) (by omega)
    · rw [← Int.sub_emod_right]; exact Int.emod_eq_of_lt (by omega) (by omega)
  unfold field_reckoner_add.f
  rw [addLo_eq _ _ ha hb, addHi_eq _ _ ha hb, e]
  simp only [u64w]
  (repeat' split) <;> (congr 1; omega)

theorem sub_eq {p : Int} {w : Bool} (h : PF p w) {a b : Int} (ha : 0 ≤ a) (ha1 : a < p) (hb : 0 ≤ b) (hb1 : b < p) : field_reckoner_sub.f p w a b = some ((a - b) % p) := by
  have h1 := h.lo; have h2 := h.hi
  have e : (a - b) % p = if a < b then a - b + p else a - b := by
    split
    · rw [← Int.add_emod_right]; exact Int.emod_eq_of_lt (by omega) (by omega)
    · exact Int.emod_eq_of_lt (by omega) (by omega)
  unfold field_reckoner_sub.f
  rw [subLo_eq _ _ ha hb (by omega), subHi_eq _ _ ha hb, e]
  simp only [u64w]
  (repeat' split) <;> first | (exfalso; omega) | (congr 1; omega)

theorem mul64_eq {a b : Int} (ha : 0 ≤ a) (ha1 : a < 18446744073709551616) (hb : 0 ≤ b) (hb1 : b < 18446744073709551616) :
    bits_Mul64.f a b = some (a * b / 18446744073709551616, a * b % 18446744073709551616) := by
  have e := mul_parts a b
  have k1 := mul_half (a / 4294967296) (b / 4294967296) (by omega) (by omega) (by omega) (by omega)
  have k2 := mul_half (a / 4294967296) (b % 4294967296) (by omega) (by omega) (by omega) (by omega)
  have k3 := mul_half (a % 4294967296) (b / 4294967296) (by omega) (by omega) (by omega) (by omega)
  have k4 := mul_half (a % 4294967296) (b % 4294967296) (by omega) (by omega) (by omega) (by omega)
  unfold bits_Mul64.f
  rw [and32 a ha ha1, and32 b hb hb1]
  generalize a / 4294967296 * (b / 4294967296) = t11 at *
  generalize a / 4294967296 * (b % 4294967296) = t10 at *
  generalize a % 4294967296 * (b / 4294967296) = t01 at *
  generalize a % 4294967296 * (b % 4294967296) = t00 at *
  rw [e]
  rw [u64w_in t11 (by omega) (by omega), u64w_in t10 (by omega) (by omega), u64w_in t01 (by omega) (by omega), u64w_in t00 (by omega) (by omega)]
  rw [u64w_in (t10 + t00 / 4294967296) (by omega) (by omega), and32 (t10 + t00 / 4294967296) (by omega) (by omega)]
  obtain ⟨q, hq⟩ : ∃ q, q = t00 / 4294967296 := ⟨_, rfl⟩
  obtain ⟨r, hr⟩ : ∃ r, r = t00 % 4294967296 := ⟨_, rfl⟩
  have et : t00 = q * 4294967296 + r := by omega
  have qb : 0 ≤ q ∧ q ≤ 4294967294 := by omega
  have rb : 0 ≤ r ∧ r < 4294967296 := by omega
  rw [← hq]
  clear hq hr
  subst et
  obtain ⟨s1, hs1⟩ : ∃ s1, s1 = (t10 + q) / 4294967296 := ⟨_, rfl⟩
  obtain ⟨s0, hs0⟩ : ∃ s0, s0 = (t10 + q) % 4294967296 := ⟨_, rfl⟩
  have es : t10 = s1 * 4294967296 + s0 - q := by omega
  have sb : 0 ≤ s0 ∧ s0 < 4294967296 := by omega
  have sb1 : 0 ≤ s1 ∧ s1 < 4294967296 := by omega
  rw [← hs1, ← hs0]
  clear hs1 hs0
  subst es
  obtain ⟨v1, hv1⟩ : ∃ v1, v1 = (s0 + t01) / 4294967296 := ⟨_, rfl⟩
  obtain ⟨v0, hv0⟩ : ∃ v0, v0 = (s0 + t01) % 4294967296 := ⟨_, rfl⟩
  have ev : t01 = v1 * 4294967296 + v0 - s0 := by omega
  have vb : 0 ≤ v0 ∧ v0 < 4294967296 := by omega
  have vb1 : 0 ≤ v1 ∧ v1 < 4294967296 := by omega
  rw [u64w_in (s0 + t01) (by omega) (by omega), ← hv1]
  clear hv1 hv0
  subst ev
  rw [u64w_in (t11 + s1) (by omega) (by omega), u64w_in (t11 + s1 + v1) (by omega) (by omega)]
  have e2 : t11 * 18446744073709551616 + (s1 * 4294967296 + s0 - q + (v1 * 4294967296 + v0 - s0)) * 4294967296 + (q * 4294967296 + r) = (t11 + s1 + v1) * 18446744073709551616 + (v0 * 4294967296 + r) := by omega
  rw [e2, u64w]
  simp only [Option.some.injEq, Prod.mk.injEq]
  exact ⟨by omega, trivial⟩

theorem mul_lt {p a b : Int} (ha : 0 ≤ a) (ha1 : a < p) (hb : 0 ≤ b) (hb1 : b < p) : 0 ≤ a * b ∧ a * b < p * p := by
  refine ⟨Int.mul_nonneg ha hb, ?_⟩
  have h := Int.mul_le_mul (show a ≤ p - 1 by omega) (show b ≤ p - 1 by omega) hb (by omega)
  have : (p - 1) * (p - 1) = p * p - 2 * p + 1 := by grind
  omega
theorem emod_rng {p : Int} (x : Int) (hp : 0 < p) : 0 ≤ x % p ∧ x % p < p := ⟨Int.emod_nonneg _ (by omega), Int.emod_lt_of_pos _ hp⟩

theorem mul_eq {p : Int} {w : Bool} (h : PF p w) {a b : Int} (ha : 0 ≤ a) (ha1 : a < p) (hb : 0 ≤ b) (hb1 : b < p) : field_reckoner_mul.f p w a b = some (a * b % p) := by
  have h1 := h.lo; have h2 := h.hi
  obtain ⟨m0, m1⟩ := mul_lt ha ha1 hb hb1
  unfold field_reckoner_mul.f
  rw [mul64_eq ha (by omega) hb (by omega)]
  simp only [Option.bind_some]
  rcases h with ⟨rfl, rfl⟩ | ⟨rfl, rfl⟩
  · simp only [Bool.false_eq_true, if_false, bits_Rem64.f, bits_Div64.f]
    generalize a * b = m at *
    have e0 : m / 18446744073709551616 = 0 := by omega
    have e1 : m % 18446744073709551616 = m := by omega
    rw [e0, e1]
    simp [Int.tmod_eq_emod_of_nonneg m0]
  · simp only [if_true]
    generalize a * b = m at *
    have hhi : 0 ≤ m / 18446744073709551616 ∧ m / 18446744073709551616 < 18446744073709551616 := by omega
    rw [and32 _ hhi.1 hhi.2]
    have hP : PF 18446744069414584321 true := .inr ⟨rfl, rfl⟩
    rw [u64w_in (m / 18446744073709551616 % 4294967296 * 4294967296) (by omega) (by omega), u64w_in (m / 18446744073709551616 % 4294967296 * 4294967296 - m / 18446744073709551616 % 4294967296) (by omega) (by omega)]
    split
    · rw [u64w_in _ (by omega) (by omega), sub_eq hP (by omega) (by omega) (by omega) (by omega)]
      simp only [Option.bind_some]
      rw [add_eq hP (emod_rng _ (by omega)).1 (emod_rng _ (by omega)).2 (by omega) (by omega)]
      simp only [Option.bind_some, Option.some.injEq]
      omega
    · rw [sub_eq hP (by omega) (by omega) (by omega) (by omega)]
      simp only [Option.bind_some]
      rw [add_eq hP (emod_rng _ (by omega)).1 (emod_rng _ (by omega)).2 (by omega) (by omega)]
      simp only [Option.bind_some, Option.some.injEq]
      omega

/-- The power by squares. -/
theorem pow_loop {p : Int} {w : Bool} (h : PF p w) : ∀ (d : Nat) (a n acc : Int), 0 ≤ a → a < p → 0 ≤ acc → acc < p → 0 ≤ n → n < 2 ^ d → n < 18446744073709551616 →
    Ev (fun k => field_reckoner_pow.l0 k a n acc p w) (acc * a ^ n.toNat % p) := by
  have h1 := h.lo; have h2 := h.hi
  intro d
  induction d with
  | zero =>
    intro a n acc ha ha1 hc hc1 hn hn1 hn2
    obtain rfl : n = 0 := by simp at hn1; omega
    refine Ev.step (fun k => by rw [field_reckoner_pow.l0]) ?_
    refine Ev.neg (by omega) (Ev.fix ?_)
    simp [Int.emod_eq_of_lt hc hc1]
  | succ d ih =>
    intro a n acc ha ha1 hc hc1 hn hn1 hn2
    refine Ev.step (fun k => by rw [field_reckoner_pow.l0]) ?_
    refine Ev.ite (fun c => ?_) (fun c => ?_)
    · have r1 := emod_rng (a * a) (p := p) (by omega)
      have r2 := emod_rng (acc * a) (p := p) (by omega)
      have hd : n / 2 < 2 ^ d := by
        have : (2 : Int) ^ (d + 1) = 2 ^ d * 2 := Int.pow_succ _ _
        omega
      have hnn : n.toNat = 2 * (n / 2).toNat + (n % 2).toNat := by omega
      have hsq : ∀ m : Nat, a ^ (2 * m) = (a * a) ^ m := fun m => by
        rw [Int.pow_mul]; congr 1; rw [Int.pow_succ, Int.pow_succ]; simp
      refine Ev.ite (fun c1 => ?_) (fun c1 => ?_)
      · rw [and1 n hn hn2] at c1
        refine Ev.bnd (mul_eq h hc hc1 ha ha1) (Ev.bnd (mul_eq h ha ha1 ha ha1) ?_)
        refine Ev.cast (ih _ _ _ r1.1 r1.2 r2.1 r2.2 (by omega) hd (by omega)) ?_
        rw [hnn, c1, show (1 : Int).toNat = 1 from rfl, Int.pow_succ, hsq]
        rw [emod_mul_l, ← emod_mul_r _ ((a * a % p) ^ _), emod_pow_l, emod_mul_r]
        congr 1; grind
      · rw [and1 n hn hn2] at c1
        have c2 : n % 2 = 0 := by omega
        refine Ev.bnd (mul_eq h ha ha1 ha ha1) ?_
        refine Ev.cast (ih _ _ _ r1.1 r1.2 hc hc1 (by omega) hd (by omega)) ?_
        rw [hnn, c2, show (0 : Int).toNat = 0 from rfl, Nat.add_zero, hsq]
        rw [← emod_mul_r _ ((a * a % p) ^ _), emod_pow_l, emod_mul_r]
    · obtain rfl : n = 0 := by omega
      refine Ev.fix ?_
      simp [Int.emod_eq_of_lt hc hc1]
theorem pow_eq {p : Int} {w : Bool} (h : PF p w) {a n : Int} (ha : 0 ≤ a) (ha1 : a < p) (hn : 0 ≤ n) (hn2 : n < 18446744073709551616) :
    Ev (fun k => field_reckoner_pow.f k p w a n) (a ^ n.toNat % p) := by
  have h1 := h.lo
  exact Ev.cast (pow_loop h 64 a n 1 ha ha1 (by omega) (by omega) hn (by simpa using hn2) hn2) (by simp)

theorem of_eq (f : Int) : field_of.f f = if f = 1 then some (2013265921, false, true) else if f = 2 then some (18446744069414584321, true, true) else some (0, false, false) := rfl


end Go.Proofs.Ytbjanbbjjnoecaa.FPolyBack
