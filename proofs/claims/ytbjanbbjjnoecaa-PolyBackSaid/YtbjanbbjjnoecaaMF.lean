/- Fermat at the two primes: an element that is not 0, raised to one less than the prime, is 1. By a generator's order; no program in sight. -/
import Derived.KernelRfl
namespace Go.Proofs.Ytbjanbbjjnoecaa.M

theorem nodup_le : ∀ (n : Nat) (l : List Nat), l.Nodup → (∀ x ∈ l, x < n) → l.length ≤ n
  | 0, l, _, h => by
    cases l with
    | nil => exact Nat.le_refl _
    | cons a l => exact absurd (h a List.mem_cons_self) (Nat.not_lt_zero _)
  | n + 1, l, hn, h => by
    have ih := nodup_le n (l.erase n) (hn.erase n) (fun x hx => by
      obtain ⟨h1, h2⟩ := hn.mem_erase_iff.1 hx
      have := h x h2
      omega)
    by_cases hm : n ∈ l
    · rw [List.length_erase_of_mem hm] at ih; omega
    · rw [List.erase_of_not_mem hm] at ih; omega

/-- n numbers below n, no two alike, are all the numbers below n. -/
theorem onto (n : Nat) (f : Nat → Nat) (hf : ∀ i, i < n → f i < n) (hi : ∀ i j, i < j → j < n → f i ≠ f j) (x : Nat) (hx : x < n) : ∃ i, i < n ∧ f i = x := by
  refine Classical.byContradiction fun hno => ?_
  have h0 : ((List.range n).map f).Nodup := by
    rw [List.Nodup, List.pairwise_map, List.pairwise_iff_getElem]
    intro i j hi' hj' hij
    simp only [List.length_range] at hi' hj'
    simp only [List.getElem_range]
    exact hi i j hij hj'
  have h1 : (x :: (List.range n).map f).Nodup := by
    rw [List.nodup_cons]
    refine ⟨fun hm => ?_, h0⟩
    obtain ⟨i, hi1, hi2⟩ := List.mem_map.1 hm
    exact hno ⟨i, List.mem_range.1 hi1, hi2⟩
  have h2 := nodup_le n _ h1 (fun y hy => by
    rcases List.mem_cons.1 hy with rfl | hy
    · exact hx
    · obtain ⟨i, hi1, rfl⟩ := List.mem_map.1 hy
      exact hf i (List.mem_range.1 hi1))
  simp at h2
  omega

theorem pow_one_gcd (p g : Nat) (a b : Nat) : g ^ a % p = 1 % p → g ^ b % p = 1 % p → g ^ (Nat.gcd a b) % p = 1 % p := by
  induction a, b using Nat.gcd.induction with
  | H0 n => intro _ h; simpa using h
  | H1 m n hm ih =>
    intro h1 h2
    rw [Nat.gcd_rec]
    refine ih ?_ h1
    have e : g ^ n % p = g ^ (n % m) % p := by
      conv => lhs; rw [← Nat.div_add_mod n m, Nat.pow_add, Nat.pow_mul, Nat.mul_mod, Nat.pow_mod, h1, ← Nat.pow_mod, Nat.one_pow, ← Nat.mul_mod, Nat.one_mul]
    rw [← e]; exact h2

/-- The power, quickly. -/
def pw (m : Nat) : Nat → Nat → Nat → Nat
  | 0, _, _ => 1
  | f + 1, a, n => if n = 0 then 1 else if n % 2 = 1 then a * pw m f (a * a % m) (n / 2) % m else pw m f (a * a % m) (n / 2)
theorem pw_eq (m : Nat) : ∀ f a n, n < 2 ^ f → pw m f a n % m = a ^ n % m
  | 0, a, n, h => by
    obtain rfl : n = 0 := by simp at h; omega
    simp [pw]
  | f + 1, a, n, h => by
    have ih := pw_eq m f (a * a % m) (n / 2) (by rw [Nat.pow_succ] at h; omega)
    have e : a ^ n = (a * a) ^ (n / 2) * a ^ (n % 2) := by
      conv => lhs; rw [← Nat.div_add_mod n 2, Nat.pow_add, Nat.pow_mul, Nat.pow_two]
    unfold pw
    by_cases h0 : n = 0
    · simp [h0]
    · rw [if_neg h0]
      by_cases h1 : n % 2 = 1
      · rw [if_pos h1, Nat.mod_mod, Nat.mul_mod, ih, ← Nat.pow_mod, ← Nat.mul_mod, e, h1, Nat.pow_one, Nat.mul_comm]
      · have h2 : n % 2 = 0 := by omega
        rw [if_neg h1, ih, ← Nat.pow_mod, e, h2, Nat.pow_zero, Nat.mul_one]

theorem cop (q m : Nat) (hq : ∀ d, d ∣ q → d = 1 ∨ d = q) (h : ¬ q ∣ m) : Nat.Coprime m q := by
  rcases hq (Nat.gcd m q) (Nat.gcd_dvd_right _ _) with e | e
  · exact e
  · exact absurd (e ▸ Nat.gcd_dvd_left m q) h

/-- A generator: its power with n is 1, those with n / q are not: so n is its order, and it reaches every element. -/
theorem fermat_of (p n g : Nat) (qs : List Nat) (hp : p = n + 1) (hn : 0 < n) (hg : g ^ n % p = 1 % p)
    (hq : ∀ q ∈ qs, g ^ (n / q) % p ≠ 1 % p) (hm : ∀ m, m ∣ n → m ≠ 1 → ∃ q ∈ qs, q ∣ m) (a : Nat) (ha : 0 < a) (hap : a < p) : a ^ n % p = 1 := by
  have hp1 : 1 % p = 1 := Nat.mod_eq_of_lt (by omega)
  have order : ∀ k, 0 < k → k < n → g ^ k % p ≠ 1 % p := by
    intro k hk hkn h
    have hd := pow_one_gcd p g k n h hg
    have h1 : Nat.gcd k n ∣ n := Nat.gcd_dvd_right _ _
    have h2 : Nat.gcd k n ≤ k := Nat.gcd_le_left _ hk
    obtain ⟨m, hm1⟩ := h1
    have hm2 : m ≠ 1 := by rintro rfl; omega
    obtain ⟨q, hq1, t, ht⟩ := hm m ⟨_, hm1.trans (Nat.mul_comm _ _)⟩ hm2
    refine hq q hq1 ?_
    have hq0 : 0 < q := by
      rcases Nat.eq_zero_or_pos q with rfl | h
      · simp at ht; subst ht; simp at hm1; omega
      · exact h
    have e : n / q = Nat.gcd k n * t := by
      refine Nat.div_eq_of_eq_mul_right hq0 ?_
      rw [Nat.mul_left_comm, ← ht]; exact hm1
    rw [e, Nat.pow_mul, Nat.pow_mod, hd, ← Nat.pow_mod, Nat.one_pow]
  have nz : ∀ i, i < n → g ^ i % p ≠ 0 := by
    intro i hi h
    have : g ^ n % p = 0 := by
      rw [show n = i + (n - i) by omega, Nat.pow_add, Nat.mul_mod, h]; simp
    omega
  have inj : ∀ i j, i < j → j < n → g ^ i % p - 1 ≠ g ^ j % p - 1 := by
    intro i j hij hj h
    have h0 := nz i (by omega)
    have h1 := nz j hj
    have e : g ^ i % p = g ^ j % p := by omega
    refine order (j - i) (by omega) (by omega) ?_
    have e1 : g ^ (j - i) % p = g ^ (j - i + n) % p := by
      rw [Nat.pow_add, Nat.mul_mod, hg, ← Nat.mul_mod, Nat.mul_one]
    rw [e1, show j - i + n = j + (n - i) by omega, Nat.pow_add, Nat.mul_mod, ← e, ← Nat.mul_mod, ← Nat.pow_add, show i + (n - i) = n by omega]
    exact hg
  obtain ⟨i, hi, e⟩ := onto n (fun i => g ^ i % p - 1) (fun i hi => by
      have h0 := nz i hi
      have h1 : g ^ i % p < p := Nat.mod_lt _ (by omega)
      show g ^ i % p - 1 < n
      omega) inj (a - 1) (by omega)
  have h0 := nz i hi
  have e1 : a = g ^ i % p := by
    have : g ^ i % p - 1 = a - 1 := e
    omega
  rw [e1, ← Nat.pow_mod, ← Nat.pow_mul, Nat.mul_comm, Nat.pow_mul, Nat.pow_mod, hg, ← Nat.pow_mod, Nat.one_pow, hp1]

theorem p2 : ∀ d, d ∣ 2 → d = 1 ∨ d = 2 := fun d h => by
  have h1 := Nat.le_of_dvd (by decide) h
  have h2 : d ≠ 0 := by
    rintro rfl
    simp at h
  omega
theorem prime_of (q s : Nat) (hs : q < s * s) (h : ∀ d, d < s → d ∣ q → d = 1) : ∀ d, d ∣ q → d = 1 ∨ d = q := by
  intro d hd
  obtain ⟨e, he⟩ := hd
  by_cases h1 : d < s
  · exact .inl (h d h1 ⟨e, he⟩)
  · by_cases h2 : e < s
    · have := h e h2 ⟨d, he.trans (Nat.mul_comm _ _)⟩
      subst this
      exact .inr (by omega)
    · have := Nat.mul_le_mul (show s ≤ d by omega) (show s ≤ e by omega)
      omega
theorem p3 : ∀ d, d ∣ 3 → d = 1 ∨ d = 3 := prime_of 3 2 (by decide) (by decide +kernel)
theorem p5 : ∀ d, d ∣ 5 → d = 1 ∨ d = 5 := prime_of 5 3 (by decide) (by decide +kernel)
theorem p17 : ∀ d, d ∣ 17 → d = 1 ∨ d = 17 := prime_of 17 5 (by decide) (by decide +kernel)
theorem p257 : ∀ d, d ∣ 257 → d = 1 ∨ d = 257 := prime_of 257 17 (by decide) (by decide +kernel)
theorem p65537 : ∀ d, d ∣ 65537 → d = 1 ∨ d = 65537 := prime_of 65537 257 (by decide) (by decide +kernel)

theorem pw_is (m f a n r : Nat) (h : n < 2 ^ f) (e : pw m f a n % m = r) : a ^ n % m = r := (pw_eq m f a n h).symm.trans e
theorem ne_of (m f a n q r : Nat) (h : n / q < 2 ^ f) (e : pw m f a (n / q) % m = r) (hr : r ≠ 1 % m) : a ^ (n / q) % m ≠ 1 % m := by
  rw [pw_is m f a (n / q) r h e]; exact hr

theorem fermat_small (a : Nat) (ha : 0 < a) (hap : a < 2013265921) : a ^ 2013265920 % 2013265921 = 1 := by
  refine fermat_of 2013265921 2013265920 31 [2, 3, 5] rfl (by decide) (pw_is 2013265921 31 31 2013265920 (1 % 2013265921) (by decide) (by decide +kernel)) ?_ ?_ a ha hap
  · intro q hq
    simp only [List.mem_cons, List.not_mem_nil, or_false] at hq
    rcases hq with rfl | rfl | rfl
    · exact ne_of 2013265921 31 31 2013265920 2 2013265920 (by decide) (by decide +kernel) (by decide)
    · exact ne_of 2013265921 31 31 2013265920 3 1314723123 (by decide) (by decide +kernel) (by decide)
    · exact ne_of 2013265921 31 31 2013265920 5 645581151 (by decide) (by decide +kernel) (by decide)
  · intro m hm h1
    refine Classical.byContradiction fun hno => h1 ?_
    have c : ∀ q, q ∈ [2, 3, 5] → ¬ q ∣ m := fun q hq hd => hno ⟨q, hq, hd⟩
    refine Nat.Coprime.eq_one_of_dvd (m := 2 ^ 27 * (3 * 5)) ?_ (by simpa using hm)
    exact ((cop 2 m p2 (c 2 (by decide))).pow_right 27).mul_right ((cop 3 m p3 (c 3 (by decide))).mul_right (cop 5 m p5 (c 5 (by decide))))

theorem fermat_large (a : Nat) (ha : 0 < a) (hap : a < 18446744069414584321) : a ^ 18446744069414584320 % 18446744069414584321 = 1 := by
  refine fermat_of 18446744069414584321 18446744069414584320 7 [2, 3, 5, 17, 257, 65537] rfl (by decide) (pw_is 18446744069414584321 64 7 18446744069414584320 (1 % 18446744069414584321) (by decide) (by decide +kernel)) ?_ ?_ a ha hap
  · intro q hq
    simp only [List.mem_cons, List.not_mem_nil, or_false] at hq
    rcases hq with rfl | rfl | rfl | rfl | rfl | rfl
    · exact ne_of 18446744069414584321 64 7 18446744069414584320 2 18446744069414584320 (by decide) (by decide +kernel) (by decide)
    · exact ne_of 18446744069414584321 64 7 18446744069414584320 3 18446744065119617025 (by decide) (by decide +kernel) (by decide)
    · exact ne_of 18446744069414584321 64 7 18446744069414584320 5 1373043270956696022 (by decide) (by decide +kernel) (by decide)
    · exact ne_of 18446744069414584321 64 7 18446744069414584320 17 16301593560560007290 (by decide) (by decide +kernel) (by decide)
    · exact ne_of 18446744069414584321 64 7 18446744069414584320 257 995085315851368103 (by decide) (by decide +kernel) (by decide)
    · exact ne_of 18446744069414584321 64 7 18446744069414584320 65537 8478886009461009681 (by decide) (by decide +kernel) (by decide)
  · intro m hm h1
    refine Classical.byContradiction fun hno => h1 ?_
    have c : ∀ q, q ∈ [2, 3, 5, 17, 257, 65537] → ¬ q ∣ m := fun q hq hd => hno ⟨q, hq, hd⟩
    refine Nat.Coprime.eq_one_of_dvd (m := 2 ^ 32 * (3 * (5 * (17 * (257 * 65537))))) ?_ (by simpa using hm)
    exact ((cop 2 m p2 (c 2 (by decide))).pow_right 32).mul_right ((cop 3 m p3 (c 3 (by decide))).mul_right ((cop 5 m p5 (c 5 (by decide))).mul_right ((cop 17 m p17 (c 17 (by decide))).mul_right ((cop 257 m p257 (c 257 (by decide))).mul_right (cop 65537 m p65537 (c 65537 (by decide)))))))

/-- The same of integers, for either prime. -/
theorem fermat {p : Int} (hp : p = 2013265921 ∨ p = 18446744069414584321) {a : Int} (ha : 0 < a) (hap : a < p) : a ^ (p - 1).toNat % p = 1 := by
  obtain ⟨n, rfl⟩ := Int.eq_ofNat_of_zero_le (show 0 ≤ a by omega)
  rcases hp with rfl | rfl
  · have h := fermat_small n (by omega) (by omega)
    have : (((n ^ 2013265920 % 2013265921 : Nat)) : Int) = 1 := by rw [h]; rfl
    simpa using this
  · have h := fermat_large n (by omega) (by omega)
    have : (((n ^ 18446744069414584320 % 18446744069414584321 : Nat)) : Int) = 1 := by rw [h]; rfl
    simpa using this

end Go.Proofs.Ytbjanbbjjnoecaa.M
