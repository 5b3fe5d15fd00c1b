/- Roots of unity of the two fields. Plain. -/
import Derived.Test.YthlmfgnmljhdbaaMG
namespace Go.Proofs.Ythlmfgnmljhdbaa.M
open Go.RowKit Go Go.Proofs.YthlmfgnmljhdbaaW.PrintWords Go.Proofs.YthlmfgnmljhdbaaW.PrintLast Go.Proofs.YthlmfgnmljhdbaaW.PrintMore

/-- The greatest log of a root; the element whose powers the roots are. -/
def lg (f : Int) : Int := if f = 1 then 27 else 32
def gen (f : Int) : Int := if f = 1 then 31 else 7
/-- The root of a log. -/
def rt (f : Int) (n : Nat) : Int := gen f ^ ((P f - 1).toNat / 2 ^ n) % P f
theorem lg_rng (f : Int) : 27 ≤ lg f ∧ lg f ≤ 32 := by unfold lg; split <;> omega
theorem rt_rng {f : Int} (h : P f ≠ 0) (n : Nat) : 0 ≤ rt f n ∧ rt f n < P f := by
  have := (P_pr h).lo
  exact ⟨Int.emod_nonneg _ (by omega), Int.emod_lt_of_pos _ (by omega)⟩
theorem gen_rng {f : Int} (h : P f ≠ 0) : 0 ≤ gen f ∧ gen f < P f := by
  have := (P_pr h).lo
  unfold gen; split <;> omega
theorem dvd_lg {f : Int} (h : P f ≠ 0) (n : Nat) (hn : (n : Int) ≤ lg f) : 2 ^ n ∣ (P f - 1).toNat := by
  rcases P_cases f with ⟨rfl, e⟩ | ⟨rfl, e⟩ | ⟨_, _, e⟩
  · rw [e]
    refine Nat.dvd_trans (Nat.pow_dvd_pow 2 (show n ≤ 27 by simp [lg] at hn; omega)) (by decide)
  · rw [e]
    refine Nat.dvd_trans (Nat.pow_dvd_pow 2 (show n ≤ 32 by simp [lg] at hn; omega)) (by decide)
  · exact absurd e h
theorem rt_sq {f : Int} (h : P f ≠ 0) (n : Nat) (hn : ((n + 1 : Nat) : Int) ≤ lg f) : rt f (n + 1) * rt f (n + 1) % P f = rt f n := by
  obtain ⟨q, hq⟩ := dvd_lg h (n + 1) hn
  unfold rt
  rw [emod_mul_l, emod_mul_r, ← Int.pow_add]
  have e1 : (P f - 1).toNat / 2 ^ (n + 1) = q := by rw [hq, Nat.mul_div_cancel_left _ (Nat.two_pow_pos _)]
  have e2 : (P f - 1).toNat / 2 ^ n = q + q := by
    rw [hq, Nat.pow_succ, Nat.mul_assoc, Nat.mul_div_cancel_left _ (Nat.two_pow_pos _)]; omega
  rw [e1, e2]
theorem rt_zero {f : Int} (h : P f ≠ 0) : rt f 0 = 1 := by
  have hp := P_pr h
  have hlo := hp.lo
  unfold rt
  rw [Nat.pow_zero, Nat.div_one, show (P f - 1).toNat = (P f - 1).toNat from rfl]
  refine fermat_mod hp ?_
  have hg := gen_rng h
  rw [Int.emod_eq_of_lt hg.1 hg.2]
  unfold gen; split <;> decide
theorem rt_ne_nat_s : ∀ j, j < 28 → j ≠ 0 → pw 2013265921 64 31 (2013265920 / 2 ^ j) % 2013265921 ≠ 1 := by decide +kernel
theorem rt_ne_nat_l : ∀ j, j < 33 → j ≠ 0 → pw 18446744069414584321 64 7 (18446744069414584320 / 2 ^ j) % 18446744069414584321 ≠ 1 := by decide +kernel
theorem rt_ne {f : Int} (h : P f ≠ 0) (n : Nat) (h0 : n ≠ 0) (hn : (n : Int) ≤ lg f) : rt f n ≠ 1 := by
  have lt : ∀ m j : Nat, m < 2 ^ 64 → m / 2 ^ j < 2 ^ 64 := fun m j hm => Nat.lt_of_le_of_lt (Nat.div_le_self _ _) hm
  rcases P_cases f with ⟨rfl, e⟩ | ⟨rfl, e⟩ | ⟨_, _, e⟩
  · intro hr
    have h1 := rt_ne_nat_s n (by simp [lg] at hn; omega) h0
    rw [pw_eq 2013265921 64 31 _ (lt _ _ (by decide))] at h1
    apply h1
    unfold rt at hr
    rw [e] at hr
    have e2 : gen 1 = ((31 : Nat) : Int) := rfl
    rw [e2, show ((2013265921 : Int) - 1).toNat = 2013265920 from rfl, ← Int.natCast_pow, show (2013265921 : Int) = ((2013265921 : Nat) : Int) from rfl, ← Int.natCast_emod] at hr
    exact Int.ofNat_inj.1 hr
  · intro hr
    have h1 := rt_ne_nat_l n (by simp [lg] at hn; omega) h0
    rw [pw_eq 18446744069414584321 64 7 _ (lt _ _ (by decide))] at h1
    apply h1
    unfold rt at hr
    rw [e] at hr
    have e2 : gen 2 = ((7 : Nat) : Int) := rfl
    rw [e2, show ((18446744069414584321 : Int) - 1).toNat = 18446744069414584320 from rfl, ← Int.natCast_pow, show (18446744069414584321 : Int) = ((18446744069414584321 : Nat) : Int) from rfl, ← Int.natCast_emod] at hr
    exact Int.ofNat_inj.1 hr
  · exact absurd e h

theorem rt_one {f : Int} (h : P f ≠ 0) : rt f 1 = P f - 1 := by
  have hp := P_pr h
  have hlo := hp.lo; have hl := lg_rng f
  have r := rt_rng h 1
  have h1 := rt_sq h 0 (by omega)
  rw [rt_zero h] at h1
  have h2 := rt_ne h 1 (by decide) (by omega)
  generalize rt f 1 = x at *
  have e : (x - 1) * (x + 1) % P f = 0 := by
    rw [show (x - 1) * (x + 1) = x * x - 1 by grind, ← emod_sub_l, h1]; simp
  have e1 : (x - 1) % P f ≠ 0 := by
    by_cases c : x = 0
    · rw [c, show (0 : Int) - 1 = -1 from rfl, ← Int.add_emod_right, Int.emod_eq_of_lt (by omega) (by omega)]; omega
    · rw [Int.emod_eq_of_lt (by omega) (by omega)]; omega
  have e2 : (x + 1) % P f = 0 := Classical.byContradiction fun c => no_zero hp e1 c e
  by_cases c : x + 1 < P f
  · rw [Int.emod_eq_of_lt (by omega) c] at e2; omega
  · omega
/-- Squared until it is 1: d rounds at most. -/
def lgr (p : Int) : Nat → Int → Int → Int × Bool
  | 0, a, i => if a = 1 then (i, true) else (0, false)
  | d + 1, a, i => if a = 1 then (i, true) else lgr p d (a * a % p) (i + 1)
theorem lgr_rt {f : Int} (h : P f ≠ 0) : ∀ (n d : Nat) (i : Int), n ≤ d → (n : Int) ≤ lg f → lgr (P f) d (rt f n) i = (i + n, true) := by
  intro n
  induction n with
  | zero =>
    intro d i hd hn
    rw [rt_zero h]
    cases d <;> simp [lgr]
  | succ n ih =>
    intro d i hd hn
    obtain ⟨d, rfl⟩ : ∃ m, d = m + 1 := ⟨d - 1, by omega⟩
    rw [lgr, if_neg (rt_ne h (n + 1) (by omega) hn), rt_sq h n hn, ih d (i + 1) (by omega) (by omega)]
    congr 1; omega
def logE (f a : Int) : Int × Bool × Int := if ok f [a] then (if a = 0 then (0, false, 5) else ((lgr (P f) (lg f).toNat a 0).1, (lgr (P f) (lg f).toNat a 0).2, 0)) else (0, false, 2)
def twoE (f : Int) : Int × Int := if P f = 0 then (0, 2) else (lg f, 0)
def rootE (f n : Int) : Int × Int := if P f = 0 ∨ n < 0 ∨ n > lg f then (0, 2) else (rt f n.toNat, 0)

/-- The first powers of an element. -/
def pows (p a : Int) (n : Nat) : List Int := (List.range n).map fun i => a ^ i % p
theorem pows_len (p a : Int) (n : Nat) : (pows p a n).length = n := by simp [pows]
theorem pows_succ (p a : Int) (n : Nat) : pows p a (n + 1) = pows p a n ++ [a ^ n % p] := by simp [pows, List.range_succ]
theorem rd_pows {p a : Int} {n i : Nat} (h : i < n) : rd (pows p a n) (i : Int) = a ^ i % p := by
  rw [rd_lt (by rw [pows_len]; exact h)]; simp [pows]
def powsE (f a n : Int) : List Int × Int := if ok f [a] = true ∧ 0 ≤ n then (if n > 4096 then ([], 4) else (pows (P f) a n.toNat, 0)) else ([], 2)

/-- Bits the other way round. -/
def flp : Nat → Int → Int → Int
  | 0, _, out => out
  | d + 1, n, out => flp d (n / 2) (2 * out + n % 2)
def flipE (n l : Int) : Int × Int := if l < 0 ∨ l > 32 ∨ n < 0 ∨ n ≥ 2 ^ l.toNat then (0, 2) else (flp l.toNat n 0, 0)
theorem flp_add : ∀ (d : Nat) (n out : Int), flp d n out = flp d n 0 + 2 ^ d * out
  | 0, n, out => by simp [flp]
  | d + 1, n, out => by
    rw [flp, flp, flp_add d _ (2 * out + n % 2), flp_add d _ (2 * 0 + n % 2), Int.pow_succ]
    grind
theorem flp_rng : ∀ (d : Nat) (n : Int), 0 ≤ n → 0 ≤ flp d n 0 ∧ flp d n 0 < 2 ^ d
  | 0, n, _ => by simp [flp]
  | d + 1, n, h => by
    have ih := flp_rng d (n / 2) (by omega)
    have hp : (0 : Int) < 2 ^ d := Int.pow_pos (by decide)
    rw [flp, flp_add, Int.pow_succ]
    have : n % 2 = 0 ∨ n % 2 = 1 := by omega
    rcases this with e | e <;> rw [e] <;> omega
/-- The lowest bit becomes the highest. -/
theorem flp_top : ∀ (d : Nat) (n : Int), 0 ≤ n → n < 2 ^ (d + 1) → flp (d + 1) n 0 = 2 * flp d (n % 2 ^ d) 0 + n / 2 ^ d
  | 0, n, h, h1 => by simp [flp] at *; omega
  | d + 1, n, h, h1 => by
    have hp : (0 : Int) < 2 ^ d := Int.pow_pos (by decide)
    have e2 : (2 : Int) ^ (d + 1) = 2 * 2 ^ d := by rw [Int.pow_succ, Int.mul_comm]
    have e3 : (2 : Int) ^ (d + 1 + 1) = 2 * (2 * 2 ^ d) := by rw [Int.pow_succ, Int.mul_comm, e2]
    have ih := flp_top d (n / 2) (by omega) (by rw [e2]; rw [e3] at h1; omega)
    have q1 : n / 2 / 2 ^ d = n / 2 ^ (d + 1) := by rw [e2, Int.ediv_ediv_of_nonneg (by decide)]
    have q2 : n % 2 ^ (d + 1) / 2 = n / 2 % 2 ^ d := by
      rw [e2]
      have h1 := Int.emod_add_mul_ediv n (2 * 2 ^ d)
      have h2 := Int.emod_nonneg n (show (2 : Int) * 2 ^ d ≠ 0 by omega)
      have h3 := Int.emod_lt_of_pos n (show (0 : Int) < 2 * 2 ^ d by omega)
      generalize n % (2 * 2 ^ d) = r at *
      generalize n / (2 * 2 ^ d) = q at *
      have e : n / 2 = r / 2 + 2 ^ d * q := by
        have : n = r + 2 * (2 ^ d * q) := by rw [← h1]; grind
        omega
      rw [e, Int.add_mul_emod_self_left, Int.emod_eq_of_lt (by omega) (by omega)]
    have q3 : n % 2 ^ (d + 1) % 2 = n % 2 := by
      rw [e2]; exact Int.emod_emod_of_dvd _ ⟨2 ^ d, rfl⟩
    rw [flp, flp_add, ih, flp, flp_add d _ (2 * 0 + n % 2 ^ (d + 1) % 2), q1, q2, q3, e2]
    grind
theorem flp_flp : ∀ (d : Nat) (n : Int), 0 ≤ n → n < 2 ^ d → flp d (flp d n 0) 0 = n
  | 0, n, h, h1 => by simp [flp] at *; omega
  | d + 1, n, h, h1 => by
    have hp : (0 : Int) < 2 ^ d := Int.pow_pos (by decide)
    have e2 : (2 : Int) ^ (d + 1) = 2 * 2 ^ d := by rw [Int.pow_succ, Int.mul_comm]
    have h2 := Int.emod_nonneg n (show (2 : Int) ^ d ≠ 0 by omega)
    have h3 := Int.emod_lt_of_pos n hp
    have h4 := Int.emod_add_mul_ediv n (2 ^ d)
    have h5 : 0 ≤ n / 2 ^ d := Int.ediv_nonneg h (Int.le_of_lt hp)
    have h6 : n / 2 ^ d < 2 := by
      refine Int.ediv_lt_of_lt_mul hp ?_
      rw [e2] at h1; omega
    have ih := flp_flp d (n % 2 ^ d) h2 h3
    rw [flp_top d n h h1, flp, flp_add]
    have q1 : (2 * flp d (n % 2 ^ d) 0 + n / 2 ^ d) / 2 = flp d (n % 2 ^ d) 0 := by omega
    have q2 : (2 * flp d (n % 2 ^ d) 0 + n / 2 ^ d) % 2 = n / 2 ^ d := by omega
    rw [q1, q2, ih]
    generalize n % 2 ^ d = r at *
    generalize n / 2 ^ d = q at *
    rw [← h4]; grind
theorem flp_zero : ∀ d : Nat, flp d 0 0 = 0
  | 0 => rfl
  | d + 1 => by rw [flp]; simpa using flp_zero d

end Go.Proofs.Ythlmfgnmljhdbaa.M
