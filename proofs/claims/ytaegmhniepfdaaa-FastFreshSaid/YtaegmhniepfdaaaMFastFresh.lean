/- Plain facts: numbers, fields, lists, polynomials. -/
import Derived.Laws.BitsLemmas
import Derived.IntWalk
import Derived.Test.YtaegmhniepfdaaaSFastFresha
import Derived.KernelRfl
namespace Go.Proofs.Ytaegmhniepfdaaa.M
open Go.RowKit Go
theorem u64w (n : Int) : IntKind.u64.wrap n = n % 18446744073709551616 := by
  simp [IntKind.wrap, IntKind.bits, IntKind.signed]
theorem u64w_in (n : Int) (h0 : 0 ≤ n) (h1 : n < 18446744073709551616) : IntKind.u64.wrap n = n := by
  rw [u64w]; omega
theorem and32 (x : Int) (h0 : 0 ≤ x) (h1 : x < 18446744073709551616) : Go.bits .and .u64 x 4294967295 = x % 4294967296 :=
  bits_mask .u64 64 (by decide) (fun n a b => by rw [u64w]; simp at b; omega) 32 (by decide) x h0 (by simpa using h1)
theorem and1 (x : Int) (h0 : 0 ≤ x) (h1 : x < 18446744073709551616) : Go.bits .and .u64 x 1 = x % 2 :=
  bits_mask .u64 64 (by decide) (fun n a b => by rw [u64w]; simp at b; omega) 1 (by decide) x h0 (by simpa using h1)
theorem wf_u64 {x : Int} (h : (Lit.int .u64 x).wf = true) : 0 ≤ x ∧ x < 18446744073709551616 := by
  simp [Lit.wf, IntKind.min, IntKind.max, IntKind.signed, IntKind.bits] at h; omega
theorem wf_u8 {x : Int} (h : (Lit.int .u8 x).wf = true) : 0 ≤ x ∧ x < 256 := by
  simp [Lit.wf, IntKind.min, IntKind.max, IntKind.signed, IntKind.bits] at h; omega
theorem mul_parts (a b : Int) : a * b = (a / 4294967296) * (b / 4294967296) * 18446744073709551616 + ((a / 4294967296) * (b % 4294967296) + (a % 4294967296) * (b / 4294967296)) * 4294967296 + (a % 4294967296) * (b % 4294967296) := by
  have ha : a = 4294967296 * (a / 4294967296) + a % 4294967296 := by omega
  have hb : b = 4294967296 * (b / 4294967296) + b % 4294967296 := by omega
  generalize a / 4294967296 = a1 at *
  generalize a % 4294967296 = a0 at *
  generalize b / 4294967296 = b1 at *
  generalize b % 4294967296 = b0 at *
  subst ha hb
  grind
theorem mul_half (x y : Int) (hx : 0 ≤ x) (hx1 : x < 4294967296) (hy : 0 ≤ y) (hy1 : y < 4294967296) : 0 ≤ x * y ∧ x * y ≤ 18446744065119617025 := by
  refine ⟨Int.mul_nonneg hx hy, ?_⟩
  have h := Int.mul_le_mul (show x ≤ 4294967295 by omega) (show y ≤ 4294967295 by omega) hy (by decide)
  simpa using h
end Go.Proofs.Ytaegmhniepfdaaa.M
namespace Go.Proofs.Ytaegmhniepfdaaa.M
open Go.RowKit Go Go.Proofs.YtaegmhniepfdaaaW.PrintWords Go.Proofs.YtaegmhniepfdaaaW.PrintLast Go.Proofs.YtaegmhniepfdaaaW.PrintMore
theorem Ev.pos {α : Type} {c : Prop} [Decidable c] {x y : Nat → Option α} {r : α} (h : c) (k : Ev x r) : Ev (fun n => if c then x n else y n) r := by
  simpa only [if_pos h] using k
theorem Ev.neg {α : Type} {c : Prop} [Decidable c] {x y : Nat → Option α} {r : α} (h : ¬ c) (k : Ev y r) : Ev (fun n => if c then x n else y n) r := by
  simpa only [if_neg h] using k
theorem Ev.ite {α : Type} {c : Prop} [Decidable c] {x y : Nat → Option α} {r : α} (h : c → Ev x r) (k : ¬ c → Ev y r) : Ev (fun n => if c then x n else y n) r := by
  by_cases hc : c
  · exact Ev.pos hc (h hc)
  · exact Ev.neg hc (k hc)
theorem Ev.bnd {α β : Type} {g : Option α} {f : Nat → α → Option β} {a : α} {r : β} (h : g = some a) (k : Ev (fun n => f n a) r) : Ev (fun n => g.bind (f n)) r := by
  subst h; exact k
theorem Ev.fix {α : Type} {g : Option α} {r : α} (h : g = some r) : Ev (fun _ => g) r := ⟨0, fun _ _ => h⟩
theorem Ev.cast {α : Type} {g : Nat → Option α} {r r' : α} (h : Ev g r) (e : r = r') : Ev g r' := e ▸ h
theorem emod_mul_l (a b p : Int) : (a % p * b) % p = a * b % p := by
  rw [Int.mul_emod, Int.emod_emod, ← Int.mul_emod]
theorem emod_mul_r (a b p : Int) : (a * (b % p)) % p = a * b % p := by
  rw [Int.mul_emod, Int.emod_emod, ← Int.mul_emod]
theorem emod_add_l (a b p : Int) : (a % p + b) % p = (a + b) % p := by
  rw [Int.add_emod, Int.emod_emod, ← Int.add_emod]
theorem emod_add_r (a b p : Int) : (a + b % p) % p = (a + b) % p := by
  rw [Int.add_emod, Int.emod_emod, ← Int.add_emod]
theorem emod_sub_l (a b p : Int) : (a % p - b) % p = (a - b) % p := by
  rw [Int.sub_emod, Int.emod_emod, ← Int.sub_emod]
theorem emod_sub_r (a b p : Int) : (a - b % p) % p = (a - b) % p := by
  rw [Int.sub_emod, Int.emod_emod, ← Int.sub_emod]
theorem emod_pow_l (a p : Int) : ∀ n : Nat, (a % p) ^ n % p = a ^ n % p
  | 0 => by simp
  | n + 1 => by rw [Int.pow_succ, Int.pow_succ, Int.mul_emod, emod_pow_l a p n, Int.emod_emod, ← Int.mul_emod]
end Go.Proofs.Ytaegmhniepfdaaa.M
namespace Go.Proofs.Ytaegmhniepfdaaa.M
theorem nodup_le : ∀ (n : Nat) (l : List Nat), l.Nodup → (∀ x ∈ l, x < n) → l.length ≤ n
  | 0, l, _, h => by
    cases l with
    | nil => exact Nat.le_refl _
    | cons a l => exact absurd (h a List.mem_cons_self) (Nat.not_lt_zero _)
  | n + 1, l, hn, h => by
    have ih := nodup_le n (l.erase n) (hn.erase n) (fun x hx => by
      obtain ⟨h1, h2⟩ := hn.mem_erase_iff.1 hx
      have := h x h2
      omega)
    by_cases hm : n ∈ l
    · rw [List.length_erase_of_mem hm] at ih; omega
    · rw [List.erase_of_not_mem hm] at ih; omega
theorem onto (n : Nat) (f : Nat → Nat) (hf : ∀ i, i < n → f i < n) (hi : ∀ i j, i < j → j < n → f i ≠ f j) (x : Nat) (hx : x < n) : ∃ i, i < n ∧ f i = x := by
  refine Classical.byContradiction fun hno => ?_
  have h0 : ((List.range n).map f).Nodup := by
    rw [List.Nodup, List.pairwise_map, List.pairwise_iff_getElem]
    intro i j hi' hj' hij
    simp only [List.length_range] at hi' hj'
    simp only [List.getElem_range]
    exact hi i j hij hj'
  have h1 : (x :: (List.range n).map f).Nodup := by
    rw [List.nodup_cons]
    refine ⟨fun hm => ?_, h0⟩
    obtain ⟨i, hi1, hi2⟩ := List.mem_map.1 hm
    exact hno ⟨i, List.mem_range.1 hi1, hi2⟩
  have h2 := nodup_le n _ h1 (fun y hy => by
    rcases List.mem_cons.1 hy with rfl | hy
    · exact hx
    · obtain ⟨i, hi1, rfl⟩ := List.mem_map.1 hy
      exact hf i (List.mem_range.1 hi1))
  simp at h2
  omega
theorem pow_one_gcd (p g : Nat) (a b : Nat) : g ^ a % p = 1 % p → g ^ b % p = 1 % p → g ^ (Nat.gcd a b) % p = 1 % p := by
  induction a, b using Nat.gcd.induction with
  | H0 n => intro _ h; simpa using h
  | H1 m n hm ih =>
    intro h1 h2
    rw [Nat.gcd_rec]
    refine ih ?_ h1
    have e : g ^ n % p = g ^ (n % m) % p := by
      conv => lhs; rw [← Nat.div_add_mod n m, Nat.pow_add, Nat.pow_mul, Nat.mul_mod, Nat.pow_mod, h1, ← Nat.pow_mod, Nat.one_pow, ← Nat.mul_mod, Nat.one_mul]
    rw [← e]; exact h2
def pw (m : Nat) : Nat → Nat → Nat → Nat
  | 0, _, _ => 1
  | f + 1, a, n => if n = 0 then 1 else if n % 2 = 1 then a * pw m f (a * a % m) (n / 2) % m else pw m f (a * a % m) (n / 2)
theorem pw_eq (m : Nat) : ∀ f a n, n < 2 ^ f → pw m f a n % m = a ^ n % m
  | 0, a, n, h => by
    obtain rfl : n = 0 := by simp at h; omega
    simp [pw]
  | f + 1, a, n, h => by
    have ih := pw_eq m f (a * a % m) (n / 2) (by rw [Nat.pow_succ] at h; omega)
    have e : a ^ n = (a * a) ^ (n / 2) * a ^ (n % 2) := by
      conv => lhs; rw [← Nat.div_add_mod n 2, Nat.pow_add, Nat.pow_mul, Nat.pow_two]
    unfold pw
    by_cases h0 : n = 0
    · simp [h0]
    · rw [if_neg h0]
      by_cases h1 : n % 2 = 1
      · rw [if_pos h1, Nat.mod_mod, Nat.mul_mod, ih, ← Nat.pow_mod, ← Nat.mul_mod, e, h1, Nat.pow_one, Nat.mul_comm]
      · have h2 : n % 2 = 0 := by omega
        rw [if_neg h1, ih, ← Nat.pow_mod, e, h2, Nat.pow_zero, Nat.mul_one]
theorem cop (q m : Nat) (hq : ∀ d, d ∣ q → d = 1 ∨ d = q) (h : ¬ q ∣ m) : Nat.Coprime m q := by
  rcases hq (Nat.gcd m q) (Nat.gcd_dvd_right _ _) with e | e
  · exact e
  · exact absurd (e ▸ Nat.gcd_dvd_left m q) h
theorem fermat_of (p n g : Nat) (qs : List Nat) (hp : p = n + 1) (hn : 0 < n) (hg : g ^ n % p = 1 % p)
    (hq : ∀ q ∈ qs, g ^ (n / q) % p ≠ 1 % p) (hm : ∀ m, m ∣ n → m ≠ 1 → ∃ q ∈ qs, q ∣ m) (a : Nat) (ha : 0 < a) (hap : a < p) : a ^ n % p = 1 := by
  have hp1 : 1 % p = 1 := Nat.mod_eq_of_lt (by omega)
  have order : ∀ k, 0 < k → k < n → g ^ k % p ≠ 1 % p := by
    intro k hk hkn h
    have hd := pow_one_gcd p g k n h hg
    have h1 : Nat.gcd k n ∣ n := Nat.gcd_dvd_right _ _
    have h2 : Nat.gcd k n ≤ k := Nat.gcd_le_left _ hk
    obtain ⟨m, hm1⟩ := h1
    have hm2 : m ≠ 1 := by rintro rfl; omega
    obtain ⟨q, hq1, t, ht⟩ := hm m ⟨_, hm1.trans (Nat.mul_comm _ _)⟩ hm2
    refine hq q hq1 ?_
    have hq0 : 0 < q := by
      rcases Nat.eq_zero_or_pos q with rfl | h
      · simp at ht; subst ht; simp at hm1; omega
      · exact h
    have e : n / q = Nat.gcd k n * t := by
      refine Nat.div_eq_of_eq_mul_right hq0 ?_
      rw [Nat.mul_left_comm, ← ht]; exact hm1
    rw [e, Nat.pow_mul, Nat.pow_mod, hd, ← Nat.pow_mod, Nat.one_pow]
  have nz : ∀ i, i < n → g ^ i % p ≠ 0 := by
    intro i hi h
    have : g ^ n % p = 0 := by
      rw [show n = i + (n - i) by omega, Nat.pow_add, Nat.mul_mod, h]; simp
    omega
  have inj : ∀ i j, i < j → j < n → g ^ i % p - 1 ≠ g ^ j % p - 1 := by
    intro i j hij hj h
    have h0 := nz i (by omega)
    have h1 := nz j hj
    have e : g ^ i % p = g ^ j % p := by omega
    refine order (j - i) (by omega) (by omega) ?_
    have e1 : g ^ (j - i) % p = g ^ (j - i + n) % p := by
      rw [Nat.pow_add, Nat.mul_mod, hg, ← Nat.mul_mod, Nat.mul_one]
    rw [e1, show j - i + n = j + (n - i) by omega, Nat.pow_add, Nat.mul_mod, ← e, ← Nat.mul_mod, ← Nat.pow_add, show i + (n - i) = n by omega]
    exact hg
  obtain ⟨i, hi, e⟩ := onto n (fun i => g ^ i % p - 1) (fun i hi => by
      have h0 := nz i hi
      have h1 : g ^ i % p < p := Nat.mod_lt _ (by omega)
      show g ^ i % p - 1 < n
      omega) inj (a - 1) (by omega)
  have h0 := nz i hi
  have e1 : a = g ^ i % p := by
    have : g ^ i % p - 1 = a - 1 := e
    omega
  rw [e1, ← Nat.pow_mod, ← Nat.pow_mul, Nat.mul_comm, Nat.pow_mul, Nat.pow_mod, hg, ← Nat.pow_mod, Nat.one_pow, hp1]
theorem p2 : ∀ d, d ∣ 2 → d = 1 ∨ d = 2 := fun d h => by
  have h1 := Nat.le_of_dvd (by decide) h
  have h2 : d ≠ 0 := by
    rintro rfl
    simp at h
  omega
theorem prime_of (q s : Nat) (hs : q < s * s) (h : ∀ d, d < s → d ∣ q → d = 1) : ∀ d, d ∣ q → d = 1 ∨ d = q := by
  intro d hd
  obtain ⟨e, he⟩ := hd
  by_cases h1 : d < s
  · exact .inl (h d h1 ⟨e, he⟩)
  · by_cases h2 : e < s
    · have := h e h2 ⟨d, he.trans (Nat.mul_comm _ _)⟩
      subst this
      exact .inr (by omega)
    · have := Nat.mul_le_mul (show s ≤ d by omega) (show s ≤ e by omega)
      omega
theorem p3 : ∀ d, d ∣ 3 → d = 1 ∨ d = 3 := prime_of 3 2 (by decide) (by decide +kernel)
theorem p5 : ∀ d, d ∣ 5 → d = 1 ∨ d = 5 := prime_of 5 3 (by decide) (by decide +kernel)
theorem p17 : ∀ d, d ∣ 17 → d = 1 ∨ d = 17 := prime_of 17 5 (by decide) (by decide +kernel)
theorem p257 : ∀ d, d ∣ 257 → d = 1 ∨ d = 257 := prime_of 257 17 (by decide) (by decide +kernel)
theorem p65537 : ∀ d, d ∣ 65537 → d = 1 ∨ d = 65537 := prime_of 65537 257 (by decide) (by decide +kernel)
theorem pw_is (m f a n r : Nat) (h : n < 2 ^ f) (e : pw m f a n % m = r) : a ^ n % m = r := (pw_eq m f a n h).symm.trans e
theorem ne_of (m f a n q r : Nat) (h : n / q < 2 ^ f) (e : pw m f a (n / q) % m = r) (hr : r ≠ 1 % m) : a ^ (n / q) % m ≠ 1 % m := by
  rw [pw_is m f a (n / q) r h e]; exact hr
theorem fermat_small (a : Nat) (ha : 0 < a) (hap : a < 2013265921) : a ^ 2013265920 % 2013265921 = 1 := by
  refine fermat_of 2013265921 2013265920 31 [2, 3, 5] rfl (by decide) (pw_is 2013265921 31 31 2013265920 (1 % 2013265921) (by decide) (by decide +kernel)) ?_ ?_ a ha hap
  · intro q hq
    simp only [List.mem_cons, List.not_mem_nil, or_false] at hq
    rcases hq with rfl | rfl | rfl
    · exact ne_of 2013265921 31 31 2013265920 2 2013265920 (by decide) (by decide +kernel) (by decide)
    · exact ne_of 2013265921 31 31 2013265920 3 1314723123 (by decide) (by decide +kernel) (by decide)
    · exact ne_of 2013265921 31 31 2013265920 5 645581151 (by decide) (by decide +kernel) (by decide)
  · intro m hm h1
    refine Classical.byContradiction fun hno => h1 ?_
    have c : ∀ q, q ∈ [2, 3, 5] → ¬ q ∣ m := fun q hq hd => hno ⟨q, hq, hd⟩
    refine Nat.Coprime.eq_one_of_dvd (m := 2 ^ 27 * (3 * 5)) ?_ (by simpa using hm)
    exact ((cop 2 m p2 (c 2 (by decide))).pow_right 27).mul_right ((cop 3 m p3 (c 3 (by decide))).mul_right (cop 5 m p5 (c 5 (by decide))))
theorem fermat_large (a : Nat) (ha : 0 < a) (hap : a < 18446744069414584321) : a ^ 18446744069414584320 % 18446744069414584321 = 1 := by
  refine fermat_of 18446744069414584321 18446744069414584320 7 [2, 3, 5, 17, 257, 65537] rfl (by decide) (pw_is 18446744069414584321 64 7 18446744069414584320 (1 % 18446744069414584321) (by decide) (by decide +kernel)) ?_ ?_ a ha hap
  · intro q hq
    simp only [List.mem_cons, List.not_mem_nil, or_false] at hq
    rcases hq with rfl | rfl | rfl | rfl | rfl | rfl
    · exact ne_of 18446744069414584321 64 7 18446744069414584320 2 18446744069414584320 (by decide) (by decide +kernel) (by decide)
    · exact ne_of 18446744069414584321 64 7 18446744069414584320 3 18446744065119617025 (by decide) (by decide +kernel) (by decide)
    · exact ne_of 18446744069414584321 64 7 18446744069414584320 5 1373043270956696022 (by decide) (by decide +kernel) (by decide)
    · exact ne_of 18446744069414584321 64 7 18446744069414584320 17 16301593560560007290 (by decide) (by decide +kernel) (by decide)
    · exact ne_of 18446744069414584321 64 7 18446744069414584320 257 995085315851368103 (by decide) (by decide +kernel) (by decide)
    · exact ne_of 18446744069414584321 64 7 18446744069414584320 65537 8478886009461009681 (by decide) (by decide +kernel) (by decide)
  · intro m hm h1
    refine Classical.byContradiction fun hno => h1 ?_
    have c : ∀ q, q ∈ [2, 3, 5, 17, 257, 65537] → ¬ q ∣ m := fun q hq hd => hno ⟨q, hq, hd⟩
    refine Nat.Coprime.eq_one_of_dvd (m := 2 ^ 32 * (3 * (5 * (17 * (257 * 65537))))) ?_ (by simpa using hm)
    exact ((cop 2 m p2 (c 2 (by decide))).pow_right 32).mul_right ((cop 3 m p3 (c 3 (by decide))).mul_right ((cop 5 m p5 (c 5 (by decide))).mul_right ((cop 17 m p17 (c 17 (by decide))).mul_right ((cop 257 m p257 (c 257 (by decide))).mul_right (cop 65537 m p65537 (c 65537 (by decide)))))))
theorem fermat {p : Int} (hp : p = 2013265921 ∨ p = 18446744069414584321) {a : Int} (ha : 0 < a) (hap : a < p) : a ^ (p - 1).toNat % p = 1 := by
  obtain ⟨n, rfl⟩ := Int.eq_ofNat_of_zero_le (show 0 ≤ a by omega)
  rcases hp with rfl | rfl
  · have h := fermat_small n (by omega) (by omega)
    have : (((n ^ 2013265920 % 2013265921 : Nat)) : Int) = 1 := by rw [h]; rfl
    simpa using this
  · have h := fermat_large n (by omega) (by omega)
    have : (((n ^ 18446744069414584320 % 18446744069414584321 : Nat)) : Int) = 1 := by rw [h]; rfl
    simpa using this
end Go.Proofs.Ytaegmhniepfdaaa.M
namespace Go.Proofs.Ytaegmhniepfdaaa.M
open Go.RowKit Go Go.Proofs.YtaegmhniepfdaaaW.PrintWords Go.Proofs.YtaegmhniepfdaaaW.PrintLast Go.Proofs.YtaegmhniepfdaaaW.PrintMore
def P (f : Int) : Int := if f = 1 then 2013265921 else if f = 2 then 18446744069414584321 else 0
def wd (f : Int) : Bool := decide (f = 2)
def allIn (p : Int) (l : List Int) : Bool := l.all fun x => decide (x < p)
def ok (f : Int) (l : List Int) : Bool := decide (P f ≠ 0) && allIn (P f) l
@[reducible] def Pr (p : Int) : Prop := p = 2013265921 ∨ p = 18446744069414584321
theorem Pr.lo {p : Int} (h : Pr p) : 2013265921 ≤ p := by unfold Pr at h; omega
theorem Pr.hi {p : Int} (h : Pr p) : p ≤ 18446744069414584321 := by unfold Pr at h; omega
theorem P_pr {f : Int} (h : P f ≠ 0) : Pr (P f) := by unfold P at *; unfold Pr; split <;> (try split) <;> simp_all
theorem P_cases (f : Int) : (f = 1 ∧ P f = 2013265921) ∨ (f = 2 ∧ P f = 18446744069414584321) ∨ (f ≠ 1 ∧ f ≠ 2 ∧ P f = 0) := by
  unfold P; by_cases h1 : f = 1
  · simp [h1]
  · by_cases h2 : f = 2 <;> simp [h1, h2]
theorem allIn_nil (p : Int) : allIn p [] = true := rfl
theorem allIn_cons (p x : Int) (l : List Int) : allIn p (x :: l) = (decide (x < p) && allIn p l) := rfl
theorem allIn_iff {p : Int} {l : List Int} : allIn p l = true ↔ ∀ x ∈ l, x < p := by unfold allIn; simp
theorem ok_iff {f : Int} {l : List Int} : ok f l = true ↔ P f ≠ 0 ∧ ∀ x ∈ l, x < P f := by unfold ok; simp [allIn_iff]
theorem ok_pr {f : Int} {l : List Int} (h : ok f l = true) : Pr (P f) := P_pr (ok_iff.1 h).1
def Wd (l : List Int) : Prop := ∀ x ∈ l, 0 ≤ x ∧ x < 18446744073709551616
def El (p : Int) (l : List Int) : Prop := ∀ x ∈ l, 0 ≤ x ∧ x < p
theorem Wd.el {p : Int} {l : List Int} (h : Wd l) (k : allIn p l = true) : El p l := fun x hx => ⟨(h x hx).1, allIn_iff.1 k x hx⟩
theorem Wd.of_wf {l : List Int} (h : ∀ x ∈ l, (Lit.int .u64 x).wf = true) : Wd l := fun x hx => wf_u64 (h x hx)
theorem El.wd {p : Int} {l : List Int} (h : El p l) (hp : p ≤ 18446744073709551616) : Wd l := fun x hx => ⟨(h x hx).1, Int.lt_of_lt_of_le (h x hx).2 hp⟩
theorem El.cons {p x : Int} {l : List Int} (h : 0 ≤ x ∧ x < p) (k : El p l) : El p (x :: l) := by
  intro y hy; rcases List.mem_cons.1 hy with rfl | hy
  · exact h
  · exact k y hy
theorem El.nil {p : Int} : El p [] := fun _ h => by cases h
theorem Wd.nil : Wd [] := fun _ h => by cases h
theorem Wd.cons {x : Int} {l : List Int} (h : 0 ≤ x ∧ x < 18446744073709551616) (k : Wd l) : Wd (x :: l) := by
  intro y hy; rcases List.mem_cons.1 hy with rfl | hy
  · exact h
  · exact k y hy
theorem rd_lt {l : List Int} {i : Nat} (h : i < l.length) : rd l (i : Int) = l[i] := by unfold rd; simp [h]
theorem drop_rd {l : List Int} {i : Nat} (h : i < l.length) : l.drop i = rd l (i : Int) :: l.drop (i + 1) := by
  rw [rd_lt h, List.drop_eq_getElem_cons h]
theorem El.rd {p : Int} {l : List Int} (h : El p l) {i : Nat} (hi : i < l.length) : 0 ≤ rd l (i : Int) ∧ rd l (i : Int) < p := by
  rw [rd_lt hi]; exact h _ (List.getElem_mem hi)
theorem Wd.rd {l : List Int} (h : Wd l) {i : Nat} (hi : i < l.length) : 0 ≤ _root_.Go.Proofs.YtaegmhniepfdaaaW.PrintWords.rd l (i : Int) ∧ _root_.Go.Proofs.YtaegmhniepfdaaaW.PrintWords.rd l (i : Int) < 18446744073709551616 := by
  rw [rd_lt hi]; exact h _ (List.getElem_mem hi)
theorem w64_succ {i : Nat} (h : i < 4611686018427387904) : wrap64 ((i : Int) + 1) = ((i + 1 : Nat) : Int) := by unfold wrap64; omega
theorem w64_in {i : Int} (h : -9223372036854775808 ≤ i) (h1 : i < 9223372036854775808) : wrap64 i = i := by unfold wrap64; omega
end Go.Proofs.Ytaegmhniepfdaaa.M
namespace Go.Proofs.Ytaegmhniepfdaaa.M
open Go.RowKit Go Go.Proofs.YtaegmhniepfdaaaW.PrintWords Go.Proofs.YtaegmhniepfdaaaW.PrintLast Go.Proofs.YtaegmhniepfdaaaW.PrintMore
def inv (p a : Int) : Int := a ^ (p - 2).toNat % p
theorem inv_rng {p : Int} (hp : Pr p) (a : Int) : 0 ≤ inv p a ∧ inv p a < p := by
  have := hp.lo
  exact ⟨Int.emod_nonneg _ (by omega), Int.emod_lt_of_pos _ (by omega)⟩
theorem fermat_mod {p : Int} (hp : Pr p) {a : Int} (ha : a % p ≠ 0) : a ^ (p - 1).toNat % p = 1 := by
  have h := hp.lo
  have h0 : 0 ≤ a % p := Int.emod_nonneg _ (by omega)
  have h1 : a % p < p := Int.emod_lt_of_pos _ (by omega)
  rw [← emod_pow_l]
  exact fermat hp (by omega) h1
theorem inv_mul {p : Int} (hp : Pr p) {a : Int} (ha : a % p ≠ 0) : a * inv p a % p = 1 := by
  have h := hp.lo
  unfold inv
  rw [emod_mul_r, Int.mul_comm, ← Int.pow_succ, show (p - 2).toNat.succ = (p - 1).toNat by omega]
  exact fermat_mod hp ha
theorem mul_inv {p : Int} (hp : Pr p) {a : Int} (ha : a % p ≠ 0) : inv p a * a % p = 1 := by
  rw [Int.mul_comm]; exact inv_mul hp ha
theorem one_mod {p : Int} (hp : Pr p) : (1 : Int) % p = 1 := by have := hp.lo; exact Int.emod_eq_of_lt (by omega) (by omega)
theorem no_zero {p : Int} (hp : Pr p) {a b : Int} (ha : a % p ≠ 0) (hb : b % p ≠ 0) : a * b % p ≠ 0 := by
  intro e
  apply hb
  have : inv p a * (a * b) % p = b % p := by rw [← Int.mul_assoc, ← emod_mul_l, mul_inv hp ha, Int.one_mul]
  rw [← this, ← emod_mul_r, e]; simp
theorem rd_set {l : List Int} {i j : Nat} {x : Int} (h : i < l.length) : rd (l.set i x) (j : Int) = if i = j then x else rd l (j : Int) := by
  unfold rd
  simp only [Int.toNat_natCast, List.getD_eq_getElem?_getD, List.getElem?_set]
  by_cases e : i = j
  · subst e; simp [h]
  · simp [e]
theorem ext_rd {a b : List Int} (h : a.length = b.length) (k : ∀ i, i < a.length → rd a (i : Int) = rd b (i : Int)) : a = b := by
  refine List.ext_getElem h fun i h1 h2 => ?_
  have := k i h1
  rwa [rd_lt h1, rd_lt h2] at this
end Go.Proofs.Ytaegmhniepfdaaa.M
namespace Go.Proofs.Ytaegmhniepfdaaa.M
open Go.RowKit Go Go.Proofs.YtaegmhniepfdaaaW.PrintWords Go.Proofs.YtaegmhniepfdaaaW.PrintLast Go.Proofs.YtaegmhniepfdaaaW.PrintMore
def tl (l : List Int) : Nat → Nat
  | 0 => 0
  | n + 1 => if rd l (n : Int) = 0 then tl l n else n + 1
def trim (l : List Int) : List Int := l.take (tl l l.length)
theorem tl_le (l : List Int) : ∀ n, tl l n ≤ n
  | 0 => Nat.le_refl _
  | n + 1 => by
    rw [tl]; split
    · exact Nat.le_succ_of_le (tl_le l n)
    · exact Nat.le_refl _
theorem trim_len (l : List Int) : (trim l).length = tl l l.length := by
  unfold trim; rw [List.length_take]; exact Nat.min_eq_left (tl_le _ _)
theorem trim_le (l : List Int) : (trim l).length ≤ l.length := by rw [trim_len]; exact tl_le _ _
def cf (l : List Int) (i : Nat) : Int := rd l (i : Int)
theorem cf_ge {l : List Int} {i : Nat} (h : l.length ≤ i) : cf l i = 0 := by unfold cf rd; simp [h]
theorem cf_lt {l : List Int} {i : Nat} (h : i < l.length) : cf l i = l[i] := rd_lt h
theorem tl_zero (l : List Int) : ∀ n i, tl l n ≤ i → i < n → cf l i = 0
  | 0, _, _, h => absurd h (Nat.not_lt_zero _)
  | n + 1, i, h1, h2 => by
    rw [tl] at h1
    split at h1
    · rename_i c
      by_cases e : i = n
      · rw [e]; exact c
      · exact tl_zero l n i h1 (by omega)
    · omega
theorem tl_top (l : List Int) : ∀ n, tl l n ≠ 0 → cf l (tl l n - 1) ≠ 0
  | 0, h => absurd rfl h
  | n + 1, h => by
    rw [tl] at h ⊢
    split
    · rename_i c
      rw [if_pos c] at h
      exact tl_top l n h
    · rename_i c
      exact c
theorem cf_take {l : List Int} {n i : Nat} : cf (l.take n) i = if i < n then cf l i else 0 := by
  unfold cf rd
  simp only [Int.toNat_natCast, List.getD_eq_getElem?_getD, List.getElem?_take]
  split <;> rfl
theorem cf_trim (l : List Int) (i : Nat) : cf (trim l) i = cf l i := by
  unfold trim
  rw [cf_take]
  split
  · rfl
  · by_cases h : i < l.length
    · exact (tl_zero l _ i (by omega) h).symm
    · exact (cf_ge (by omega)).symm
theorem trim_top {l : List Int} (h : trim l ≠ []) : cf l ((trim l).length - 1) ≠ 0 := by
  rw [trim_len]
  refine tl_top l _ ?_
  intro e
  apply h
  rw [← List.length_eq_zero_iff, trim_len, e]
theorem ext_cf {a b : List Int} (h : a.length = b.length) (k : ∀ i, cf a i = cf b i) : a = b := ext_rd h fun i _ => k i
theorem trim_ext {a b : List Int} (h : ∀ i, cf a i = cf b i) : trim a = trim b := by
  have key : ∀ a b : List Int, (∀ i, cf a i = cf b i) → (trim a).length ≤ (trim b).length := by
    intro a b h
    by_cases c : trim a = []
    · rw [c]; exact Nat.zero_le _
    · have h1 := trim_top c
      rw [h, ← cf_trim] at h1
      have : (trim a).length ≠ 0 := fun e => c (List.length_eq_zero_iff.1 e)
      have h2 : (trim a).length - 1 < (trim b).length := Nat.lt_of_not_le fun e => h1 (cf_ge e)
      omega
  refine ext_cf (Nat.le_antisymm (key a b h) (key b a fun i => (h i).symm)) fun i => ?_
  rw [cf_trim, cf_trim, h]
theorem trim_trim (l : List Int) : trim (trim l) = trim l := trim_ext (cf_trim l)
theorem trim_nil : trim [] = [] := rfl
theorem trim_el {p : Int} {l : List Int} (h : El p l) : El p (trim l) := fun x hx => h x (List.mem_of_mem_take hx)
end Go.Proofs.Ytaegmhniepfdaaa.M
namespace Go.Proofs.Ytaegmhniepfdaaa.M
open Go.RowKit Go Go.Proofs.YtaegmhniepfdaaaW.PrintWords Go.Proofs.YtaegmhniepfdaaaW.PrintLast Go.Proofs.YtaegmhniepfdaaaW.PrintMore
def pol (n : Nat) (g : Nat → Int) : List Int := (List.range n).map g
theorem pol_len {n : Nat} {g : Nat → Int} : (pol n g).length = n := by simp [pol]
theorem cf_pol {n : Nat} {g : Nat → Int} {i : Nat} : cf (pol n g) i = if i < n then g i else 0 := by
  by_cases h : i < n
  · rw [if_pos h, cf_lt (by rw [pol_len]; exact h)]; simp [pol]
  · rw [if_neg h, cf_ge (by rw [pol_len]; omega)]
theorem pol_ext {n : Nat} {g : Nat → Int} {l : List Int} (h : l.length = n) (k : ∀ i, i < n → cf l i = g i) : l = pol n g :=
  ext_cf (by rw [pol_len, h]) fun i => by
    rw [cf_pol]; split
    · exact k i ‹_›
    · exact cf_ge (by omega)
theorem pol_congr {n : Nat} {g g' : Nat → Int} (k : ∀ i, i < n → g i = g' i) : pol n g = pol n g' :=
  pol_ext pol_len fun i hi => by rw [cf_pol, if_pos hi, k i hi]
theorem pol_set {n m : Nat} {g : Nat → Int} {v : Int} (h : m < n) : (pol n g).set m v = pol n (fun i => if i = m then v else g i) :=
  pol_ext (by rw [List.length_set, pol_len]) fun i hi => by
    have e := rd_set (l := pol n g) (i := m) (j := i) (x := v) (by rw [pol_len]; exact h)
    have c := cf_pol (n := n) (g := g) (i := i)
    rw [if_pos hi] at c
    unfold cf at *
    rw [e, c]
    by_cases q : m = i
    · rw [if_pos q, if_pos q.symm]
    · rw [if_neg q, if_neg (fun z => q z.symm)]
theorem pol_zero (n : Nat) : List.replicate n (0 : Int) = pol n (fun _ => 0) :=
  pol_ext (by simp) fun i hi => by rw [cf_lt (by simpa using hi)]; simp
theorem pol_el {p : Int} {n : Nat} {g : Nat → Int} (k : ∀ i, i < n → 0 ≤ g i ∧ g i < p) : El p (pol n g) := by
  intro x hx
  obtain ⟨i, hi, rfl⟩ := List.mem_map.1 hx
  exact k i (List.mem_range.1 hi)
theorem cf_el {p : Int} {l : List Int} (h : El p l) (hp : 0 < p) (i : Nat) : 0 ≤ cf l i ∧ cf l i < p := by
  by_cases c : i < l.length
  · exact h.rd c
  · rw [cf_ge (by omega)]; exact ⟨Int.le_refl _, hp⟩
theorem cf_nil (i : Nat) : cf [] i = 0 := cf_ge (Nat.zero_le _)
def bad (f : Int) (a b : List Int) : Int := if ok f a = true ∧ ok f b = true then (if a.length ≤ 4096 ∧ b.length ≤ 4096 then 0 else 4) else 2
theorem bad_zero {f : Int} {a b : List Int} (h : bad f a b = 0) : ok f a = true ∧ ok f b = true ∧ a.length ≤ 4096 ∧ b.length ≤ 4096 := by
  unfold bad at h
  split at h
  · rename_i c
    split at h
    · rename_i d; exact ⟨c.1, c.2, d.1, d.2⟩
    · cases h
  · cases h
def cv (a b : List Int) : Nat → Nat → Int
  | 0, _ => 0
  | m + 1, n => cv a b m n + (if m ≤ n then cf a m * cf b (n - m) else 0)
def mulP (p : Int) (a b : List Int) : List Int := if a = [] ∨ b = [] then [] else pol (a.length + b.length - 1) fun n => cv a b a.length n % p
def row (p : Int) (a b : List Int) (m j n : Nat) : Int := (cv a b m n + (if m ≤ n ∧ n < m + j then cf a m * cf b (n - m) else 0)) % p
theorem row_zero (p : Int) (a b : List Int) (m n : Nat) : row p a b m 0 n = cv a b m n % p := by
  unfold row; rw [if_neg (by omega), Int.add_zero]
theorem row_last (p : Int) (a b : List Int) (m n : Nat) : row p a b m b.length n = cv a b (m + 1) n % p := by
  unfold row; rw [cv]
  by_cases h : m ≤ n
  · rw [if_pos h]
    by_cases k : n < m + b.length
    · rw [if_pos ⟨h, k⟩]
    · rw [if_neg (fun z => k z.2), cf_ge (show b.length ≤ n - m by omega)]; simp
  · rw [if_neg h, if_neg (fun z => h z.1)]
theorem row_step (p : Int) (a b : List Int) (m j : Nat) : (row p a b m j (m + j) + cf a m * cf b j % p) % p = row p a b m (j + 1) (m + j) := by
  unfold row
  rw [if_neg (by omega), if_pos (by omega), Int.add_zero, show m + j - m = j by omega, emod_add_l, emod_add_r]
theorem row_other (p : Int) (a b : List Int) (m j n : Nat) (h : n ≠ m + j) : row p a b m (j + 1) n = row p a b m j n := by
  unfold row
  by_cases c : m ≤ n ∧ n < m + j
  · rw [if_pos c, if_pos ⟨c.1, by omega⟩]
  · rw [if_neg c, if_neg (fun z => c ⟨z.1, by omega⟩)]
theorem row_set {p : Int} {a b : List Int} {m j N : Nat} (h : m + j < N) : (pol N (row p a b m j)).set (m + j) ((row p a b m j (m + j) + cf a m * cf b j % p) % p) = pol N (row p a b m (j + 1)) := by
  rw [pol_set h, row_step]
  refine pol_congr fun i _ => ?_
  by_cases c : i = m + j
  · rw [if_pos c, c]
  · rw [if_neg c, row_other p a b m j i c]
theorem row_rng {p : Int} (hp : 0 < p) (a b : List Int) (m j n : Nat) : 0 ≤ row p a b m j n ∧ row p a b m j n < p := ⟨Int.emod_nonneg _ (by omega), Int.emod_lt_of_pos _ hp⟩
theorem cv_top (a b : List Int) : ∀ m, m < a.length → cv a b m (a.length + b.length - 2) = 0
  | 0, _ => rfl
  | m + 1, h => by
    rw [cv, cv_top a b m (by omega)]
    split
    · rw [cf_ge (l := b) (by omega)]; simp
    · simp
theorem mulP_top {p : Int} (hp : Pr p) {a b : List Int} (ha : trim a = a) (hb : trim b = b) (ea : El p a) (eb : El p b) : trim (mulP p a b) = mulP p a b := by
  unfold mulP
  split
  · rfl
  · rename_i c
    have ca : a ≠ [] := fun e => c (.inl e)
    have cb : b ≠ [] := fun e => c (.inr e)
    have la : a.length ≠ 0 := fun e => ca (List.length_eq_zero_iff.1 e)
    have lb : b.length ≠ 0 := fun e => cb (List.length_eq_zero_iff.1 e)
    have ta := trim_top (l := a) (by rw [ha]; exact ca)
    have tb := trim_top (l := b) (by rw [hb]; exact cb)
    rw [ha] at ta; rw [hb] at tb
    have hp0 := hp.lo
    have ra := cf_el ea (by omega) (a.length - 1)
    have rb := cf_el eb (by omega) (b.length - 1)
    have top : cv a b a.length (a.length + b.length - 2) % p ≠ 0 := by
      obtain ⟨m, hm⟩ : ∃ m, a.length = m + 1 := ⟨a.length - 1, by omega⟩
      have z := cv_top a b m (by omega)
      have e : cv a b a.length (a.length + b.length - 2) = cf a (a.length - 1) * cf b (b.length - 1) := by
        conv => lhs; arg 3; rw [hm]
        rw [cv, z, if_pos (by omega), Int.zero_add, show a.length - 1 = m by omega, show a.length + b.length - 2 - m = b.length - 1 by omega]
      rw [e]
      exact no_zero hp (by rw [Int.emod_eq_of_lt ra.1 ra.2]; exact ta) (by rw [Int.emod_eq_of_lt rb.1 rb.2]; exact tb)
    generalize hL : pol (a.length + b.length - 1) (fun n => cv a b a.length n % p) = L
    have hlen : L.length = a.length + b.length - 1 := by rw [← hL, pol_len]
    have htop : cf L (L.length - 1) ≠ 0 := by
      rw [hlen, ← hL, cf_pol, if_pos (by omega), show a.length + b.length - 1 - 1 = a.length + b.length - 2 by omega]
      exact top
    have h1 : (trim L).length = L.length := by
      refine Nat.le_antisymm (trim_le L) (Nat.le_of_not_lt fun q => htop ?_)
      rw [← cf_trim]
      exact cf_ge (by omega)
    exact ext_cf h1 fun i => cf_trim L i
def Pmul (f : Int) (a b : List Int) : List Int × Int :=
  if bad f a b = 0 then (if trim a = [] ∨ trim b = [] then ([], 0) else if (trim a).length + (trim b).length - 1 > 4096 then ([], 4) else (mulP (P f) (trim a) (trim b), 0)) else ([], bad f a b)
end Go.Proofs.Ytaegmhniepfdaaa.M
namespace Go.Proofs.Ytaegmhniepfdaaa.M
open Go.RowKit Go Go.Proofs.YtaegmhniepfdaaaW.PrintWords Go.Proofs.YtaegmhniepfdaaaW.PrintLast Go.Proofs.YtaegmhniepfdaaaW.PrintMore
def sm (l : List Int) (x : Int) : Nat → Int
  | 0 => 0
  | m + 1 => sm l x m + cf l m * x ^ m
theorem cf_cons_zero (c : Int) (r : List Int) : cf (c :: r) 0 = c := rfl
theorem cf_cons_succ (c : Int) (r : List Int) (m : Nat) : cf (c :: r) (m + 1) = cf r m := by
  unfold cf rd; simp
theorem sm_cons (c : Int) (r : List Int) (x : Int) : ∀ m, sm (c :: r) x (m + 1) = c + x * sm r x m
  | 0 => by simp [sm, cf_cons_zero]
  | m + 1 => by
    rw [sm, sm_cons c r x m, cf_cons_succ, sm, Int.pow_succ]
    grind
end Go.Proofs.Ytaegmhniepfdaaa.M
namespace Go.Proofs.Ytaegmhniepfdaaa.M
open Go.RowKit Go Go.Proofs.YtaegmhniepfdaaaW.PrintWords Go.Proofs.YtaegmhniepfdaaaW.PrintLast Go.Proofs.YtaegmhniepfdaaaW.PrintMore
def ev (l : List Int) (x : Int) : Int := sm l x l.length
theorem sm_ge {l : List Int} {x : Int} : ∀ n, l.length ≤ n → sm l x n = ev l x := by
  intro n h
  induction n with
  | zero => unfold ev; rw [show l.length = 0 by omega]
  | succ n ih =>
    by_cases c : l.length = n + 1
    · unfold ev; rw [c]
    · rw [sm, ih (by omega), cf_ge (by omega)]; simp
theorem sm_congr {a b : List Int} {x : Int} (h : ∀ i, cf a i = cf b i) : ∀ n, sm a x n = sm b x n
  | 0 => rfl
  | n + 1 => by rw [sm, sm, sm_congr h n, h]
theorem ev_congr {a b : List Int} (h : ∀ i, cf a i = cf b i) (x : Int) : ev a x = ev b x := by
  rw [← sm_ge (max a.length b.length) (by omega), ← sm_ge (l := b) (max a.length b.length) (by omega), sm_congr h]
theorem ev_nil (x : Int) : ev [] x = 0 := rfl
theorem ev_cons (c : Int) (r : List Int) (x : Int) : ev (c :: r) x = c + x * ev r x := by
  unfold ev; rw [List.length_cons, sm_cons]
theorem ev_trim (l : List Int) (x : Int) : ev (trim l) x = ev l x := ev_congr (cf_trim l) x
theorem sm_lin {a b c : List Int} {s t : Int} {x : Int} (h : ∀ i, cf c i = s * cf a i + t * cf b i) : ∀ n, sm c x n = s * sm a x n + t * sm b x n
  | 0 => by simp [sm]
  | n + 1 => by rw [sm, sm, sm, sm_lin h n, h]; grind
theorem ev_lin {a b c : List Int} {s t : Int} (x : Int) (h : ∀ i, cf c i = s * cf a i + t * cf b i) : ev c x = s * ev a x + t * ev b x := by
  rw [← sm_ge (max a.length (max b.length c.length)) (by omega), ← sm_ge (l := a) (max a.length (max b.length c.length)) (by omega), ← sm_ge (l := b) (max a.length (max b.length c.length)) (by omega), sm_lin h]
theorem sm_shift {a c : List Int} {k : Int} {m : Nat} {x : Int} (h : ∀ i, cf c i = if m ≤ i then k * cf a (i - m) else 0) : ∀ n, sm c x (n + m) = k * x ^ m * sm a x n := by
  have z : ∀ n, n ≤ m → sm c x n = 0 := by
    intro n
    induction n with
    | zero => intro _; rfl
    | succ n ih => intro hn; rw [sm, ih (by omega), h, if_neg (by omega)]; simp
  intro n
  induction n with
  | zero => rw [Nat.zero_add, z m (Nat.le_refl _)]; simp [sm]
  | succ n ih =>
    rw [show n + 1 + m = (n + m) + 1 by omega, sm, ih, h, if_pos (by omega), Nat.add_sub_cancel, sm, Int.pow_add]
    grind
theorem ev_shift {a c : List Int} {k : Int} {m : Nat} (x : Int) (h : ∀ i, cf c i = if m ≤ i then k * cf a (i - m) else 0) : ev c x = k * x ^ m * ev a x := by
  rw [← sm_ge (max a.length c.length + m) (by omega), sm_shift h, sm_ge _ (by omega)]
theorem ev_cv {a b : List Int} (x : Int) : ∀ (m : Nat) (c : List Int), (∀ i, cf c i = cv a b m i) → ev c x = sm a x m * ev b x
  | 0, c, h => by
    rw [ev_congr (b := []) (fun i => by rw [h, cf_nil]; rfl), ev_nil, sm]; simp
  | m + 1, c, h => by
    have zcv : ∀ (k i : Nat), k + b.length ≤ i → cv a b k i = 0 := by
      intro k
      induction k with
      | zero => intro i _; rfl
      | succ k ih =>
        intro i hi
        rw [cv, ih i (by omega)]
        split
        · rw [cf_ge (l := b) (by omega)]; simp
        · simp
    have h1 : ∀ i, cf (pol (m + b.length) (cv a b m)) i = cv a b m i := fun i => by
      rw [cf_pol]; split
      · rfl
      · exact (zcv m i (by omega)).symm
    have e1 := ev_cv x m _ h1
    have h2 : ∀ i, cf (pol (m + b.length) fun i => if m ≤ i then cf a m * cf b (i - m) else 0) i = if m ≤ i then cf a m * cf b (i - m) else 0 := fun i => by
      rw [cf_pol]; split
      · rfl
      · split
        · rw [cf_ge (l := b) (by omega)]; simp
        · rfl
    have e2 := ev_shift x h2
    have e3 := ev_lin (c := c) (a := pol (m + b.length) (cv a b m)) (b := pol (m + b.length) fun i => if m ≤ i then cf a m * cf b (i - m) else 0) (s := 1) (t := 1) x (fun i => by rw [h, cv, h1 i, h2 i]; simp)
    rw [e3, e1, e2, sm]
    grind
theorem ev_zero : ∀ (l : List Int), (∃ N, ∀ x, N < x → ev l x = 0) → ∀ i, cf l i = 0
  | [], _, i => cf_nil i
  | c :: r, ⟨N, h⟩, i => by
    have hc : c = 0 := by
      let x : Int := max (max N c.natAbs) 0 + 1
      have hx : N < x := by omega
      have hx2 : (c.natAbs : Int) < x := by omega
      have e := h x hx
      rw [ev_cons] at e
      have d : x ∣ c := ⟨- ev r x, by grind⟩
      have d2 := Int.natAbs_dvd_natAbs.2 d
      by_cases z : c = 0
      · exact z
      · have := Nat.le_of_dvd (by omega) d2
        omega
    have hr := ev_zero r ⟨max N 0, fun x hx => by
      have e := h x (by omega)
      rw [ev_cons, hc, Int.zero_add] at e
      rcases Int.mul_eq_zero.1 e with e | e
      · omega
      · exact e⟩
    cases i with
    | zero => rw [cf_cons_zero]; exact hc
    | succ i => rw [cf_cons_succ]; exact hr i
def Pf (φ : Int → Int) : Prop := ∃ l, ∀ x, φ x = ev l x
theorem Pf.of (l : List Int) : Pf (ev l) := ⟨l, fun _ => rfl⟩
theorem Pf.const (c : Int) : Pf fun _ => c := ⟨[c], fun x => by rw [ev_cons, ev_nil]; simp⟩
theorem Pf.X : Pf fun x => x := ⟨[0, 1], fun x => by simp [ev_cons, ev_nil]⟩
theorem Pf.lin {φ ψ : Int → Int} (s t : Int) (h : Pf φ) (k : Pf ψ) : Pf fun x => s * φ x + t * ψ x := by
  obtain ⟨a, ha⟩ := h
  obtain ⟨b, hb⟩ := k
  refine ⟨pol (max a.length b.length) fun i => s * cf a i + t * cf b i, fun x => ?_⟩
  dsimp only
  rw [ha, hb]
  refine (ev_lin x fun i => ?_).symm
  rw [cf_pol]; split
  · rfl
  · rw [cf_ge (l := a) (by omega), cf_ge (l := b) (by omega)]; simp
theorem Pf.congr {φ ψ : Int → Int} (h : Pf φ) (e : ∀ x, ψ x = φ x) : Pf ψ := by
  obtain ⟨a, ha⟩ := h
  exact ⟨a, fun x => (e x).trans (ha x)⟩
theorem Pf.add {φ ψ : Int → Int} (h : Pf φ) (k : Pf ψ) : Pf fun x => φ x + ψ x := (Pf.lin 1 1 h k).congr fun x => by simp
theorem Pf.sub {φ ψ : Int → Int} (h : Pf φ) (k : Pf ψ) : Pf fun x => φ x - ψ x := (Pf.lin 1 (-1) h k).congr fun x => by grind
theorem Pf.neg {φ : Int → Int} (h : Pf φ) : Pf fun x => - φ x := (Pf.lin (-1) 0 h h).congr fun x => by grind
theorem Pf.mulL {ψ : Int → Int} (k : Pf ψ) : ∀ a : List Int, Pf fun x => ev a x * ψ x
  | [] => (Pf.const 0).congr fun x => by rw [ev_nil]; simp
  | c :: r => by
    have ih := Pf.mulL k r
    have sh : Pf fun x => x * (ev r x * ψ x) := by
      obtain ⟨l, hl⟩ := ih
      exact ⟨0 :: l, fun x => by rw [ev_cons, ← hl x]; simp⟩
    exact (Pf.lin c 1 k sh).congr fun x => by rw [ev_cons]; grind
theorem Pf.mul {φ ψ : Int → Int} (h : Pf φ) (k : Pf ψ) : Pf fun x => φ x * ψ x := by
  obtain ⟨a, ha⟩ := h
  exact (Pf.mulL k a).congr fun x => by rw [ha]
theorem Pf.pow {φ : Int → Int} (h : Pf φ) : ∀ n : Nat, Pf fun x => φ x ^ n
  | 0 => (Pf.const 1).congr fun x => by simp
  | n + 1 => ((Pf.pow h n).mul h).congr fun x => by rw [Int.pow_succ]
def Cg (p : Int) (φ ψ : Int → Int) : Prop := ∃ δ, Pf δ ∧ ∀ x, φ x = ψ x + p * δ x
theorem Cg.refl {p : Int} (φ : Int → Int) : Cg p φ φ := ⟨fun _ => 0, Pf.const 0, fun x => by simp⟩
theorem Cg.of {p : Int} {φ ψ : Int → Int} (h : ∀ x, φ x = ψ x) : Cg p φ ψ := ⟨fun _ => 0, Pf.const 0, fun x => by rw [h]; simp⟩
theorem Cg.symm {p : Int} {φ ψ : Int → Int} (h : Cg p φ ψ) : Cg p ψ φ := by
  obtain ⟨d, hd, e⟩ := h
  exact ⟨fun x => - d x, hd.neg, fun x => by rw [e]; grind⟩
theorem Cg.trans {p : Int} {φ ψ χ : Int → Int} (h : Cg p φ ψ) (k : Cg p ψ χ) : Cg p φ χ := by
  obtain ⟨d, hd, e⟩ := h
  obtain ⟨d2, hd2, e2⟩ := k
  exact ⟨fun x => d x + d2 x, hd.add hd2, fun x => by dsimp only; rw [e, e2]; grind⟩
theorem Cg.add {p : Int} {φ ψ φ' ψ' : Int → Int} (h : Cg p φ ψ) (k : Cg p φ' ψ') : Cg p (fun x => φ x + φ' x) (fun x => ψ x + ψ' x) := by
  obtain ⟨d, hd, e⟩ := h
  obtain ⟨d2, hd2, e2⟩ := k
  exact ⟨fun x => d x + d2 x, hd.add hd2, fun x => by dsimp only; rw [e, e2]; grind⟩
theorem Cg.sub {p : Int} {φ ψ φ' ψ' : Int → Int} (h : Cg p φ ψ) (k : Cg p φ' ψ') : Cg p (fun x => φ x - φ' x) (fun x => ψ x - ψ' x) := by
  obtain ⟨d, hd, e⟩ := h
  obtain ⟨d2, hd2, e2⟩ := k
  exact ⟨fun x => d x - d2 x, hd.sub hd2, fun x => by dsimp only; rw [e, e2]; grind⟩
theorem Cg.mul {p : Int} {φ ψ φ' ψ' : Int → Int} (h : Cg p φ ψ) (k : Cg p φ' ψ') (hψ : Pf ψ) (hφ' : Pf φ') : Cg p (fun x => φ x * φ' x) (fun x => ψ x * ψ' x) := by
  obtain ⟨d, hd, e⟩ := h
  obtain ⟨d2, hd2, e2⟩ := k
  exact ⟨fun x => d x * φ' x + ψ x * d2 x, (hd.mul hφ').add (hψ.mul hd2), fun x => by dsimp only; rw [e x, e2 x]; grind⟩
theorem Cg.at {p : Int} {φ ψ : Int → Int} (h : Cg p φ ψ) (x : Int) : φ x % p = ψ x % p := by
  obtain ⟨d, _, e⟩ := h
  rw [e]; simp
theorem Cg.of_cf {p : Int} {a b : List Int} (h : ∀ i, cf a i % p = cf b i % p) : Cg p (ev a) (ev b) := by
  refine ⟨ev (pol (max a.length b.length) fun i => (cf a i - cf b i) / p), Pf.of _, fun x => ?_⟩
  have e : ∀ i, cf (pol (max a.length b.length) fun i => (cf a i - cf b i) / p) i = (cf a i - cf b i) / p := fun i => by
    rw [cf_pol]; split
    · rfl
    · rw [cf_ge (l := a) (by omega), cf_ge (l := b) (by omega)]; simp
  have k := ev_lin (c := a) (s := 1) (t := p) (a := b) (b := pol (max a.length b.length) fun i => (cf a i - cf b i) / p) x (fun i => by
    rw [e]
    have d : p ∣ cf a i - cf b i := Int.dvd_of_emod_eq_zero (by rw [Int.sub_emod, h]; simp)
    rw [Int.mul_ediv_cancel' d]; grind)
  rw [k]; grind
theorem Cg.cf {p : Int} {a b : List Int} (h : Cg p (ev a) (ev b)) (i : Nat) : cf a i % p = cf b i % p := by
  obtain ⟨d, ⟨l, hl⟩, e⟩ := h
  have z : ∀ j, M.cf (pol (max a.length (max b.length l.length)) fun j => M.cf a j - M.cf b j - p * M.cf l j) j = M.cf a j - M.cf b j - p * M.cf l j := fun j => by
    rw [cf_pol]; split
    · rfl
    · rw [cf_ge (l := a) (by omega), cf_ge (l := b) (by omega), cf_ge (l := l) (by omega)]; simp
  have k1 : ∀ j, M.cf (pol (max a.length b.length) fun j => M.cf a j - M.cf b j) j = M.cf a j - M.cf b j := fun j => by
    rw [cf_pol]; split
    · rfl
    · rw [cf_ge (l := a) (by omega), cf_ge (l := b) (by omega)]; simp
  have y := ev_zero (pol (max a.length (max b.length l.length)) fun j => M.cf a j - M.cf b j - p * M.cf l j) ⟨0, fun x _ => by
    rw [ev_lin (s := 1) (t := -p) (a := pol (max a.length b.length) fun j => M.cf a j - M.cf b j) (b := l) x (fun j => by rw [z, k1]; grind),
      ev_lin (c := pol (max a.length b.length) fun j => M.cf a j - M.cf b j) (s := 1) (t := -1) (a := a) (b := b) x (fun j => by rw [k1]; grind), e, hl]
    grind⟩ i
  rw [z] at y
  have e2 : M.cf a i = M.cf b i + p * M.cf l i := by omega
  rw [e2]; simp
theorem Cg.trim {p : Int} (l : List Int) : Cg p (ev (M.trim l)) (ev l) := Cg.of (ev_trim l)
theorem Cg.pol {p : Int} {n : Nat} {g : Nat → Int} {l : List Int} (h : ∀ i, M.cf l i % p = (if i < n then g i else 0) % p) : Cg p (ev (M.pol n g)) (ev l) :=
  Cg.of_cf fun i => by rw [cf_pol, h]
theorem cv_ge (a b : List Int) : ∀ (k i : Nat), k + b.length ≤ i + 1 → b ≠ [] → k ≤ i + 1 → cv a b k i = 0
  | 0, _, _, _, _ => rfl
  | k + 1, i, h, hb, hk => by
    rw [cv, cv_ge a b k i (by omega) hb (by omega)]
    have : b.length ≠ 0 := fun e => hb (List.length_eq_zero_iff.1 e)
    split
    · rw [cf_ge (l := b) (by omega)]; simp
    · simp
theorem mulP_cg (p : Int) (a b : List Int) : Cg p (ev (mulP p a b)) (fun x => ev a x * ev b x) := by
  unfold mulP
  split
  · rename_i h
    refine Cg.of fun x => ?_
    rcases h with rfl | rfl <;> simp [ev_nil]
  · rename_i h
    have hb : b ≠ [] := fun z => h (.inr z)
    have hb0 : b.length ≠ 0 := fun e => hb (List.length_eq_zero_iff.1 e)
    have ha0 : a.length ≠ 0 := fun e => h (.inl (List.length_eq_zero_iff.1 e))
    have e : ∀ i, M.cf (M.pol (a.length + b.length - 1) (cv a b a.length)) i = cv a b a.length i := fun i => by
      rw [cf_pol]; split
      · rfl
      · exact (cv_ge a b a.length i (by omega) hb (by omega)).symm
    refine (Cg.of_cf (b := M.pol (a.length + b.length - 1) (cv a b a.length)) fun i => ?_).trans (Cg.of fun x => ev_cv x _ _ e)
    rw [cf_pol, cf_pol]; split
    · rw [Int.emod_emod]
    · rfl
structure Cn (p : Int) (l : List Int) : Prop where
  el : El p l
  tr : trim l = l
theorem Cn.nil {p : Int} : Cn p [] := ⟨El.nil, trim_nil⟩
theorem Cn.trim {p : Int} {l : List Int} (h : El p l) : Cn p (M.trim l) := ⟨trim_el h, trim_trim l⟩
theorem mulP_el {p : Int} (hp : 0 < p) (a b : List Int) : El p (mulP p a b) := by
  unfold mulP; split
  · exact El.nil
  · exact pol_el fun i _ => ⟨Int.emod_nonneg _ (by omega), Int.emod_lt_of_pos _ hp⟩
theorem mulP_cn {p : Int} (hp : Pr p) {a b : List Int} (ha : Cn p a) (hb : Cn p b) : Cn p (mulP p a b) := ⟨mulP_el (by have := hp.lo; omega) a b, mulP_top hp ha.tr hb.tr ha.el hb.el⟩
theorem mulP_len {p : Int} {a b : List Int} (ha : a ≠ []) (hb : b ≠ []) : (mulP p a b).length = a.length + b.length - 1 := by
  unfold mulP; rw [if_neg (fun z => by rcases z with z | z <;> contradiction), pol_len]
theorem Cn.top {p : Int} {l : List Int} (h : Cn p l) (hl : l ≠ []) : M.cf l (l.length - 1) ≠ 0 := by
  have t := trim_top (l := l) (by rw [h.tr]; exact hl)
  rwa [h.tr] at t
theorem Cn.len_le {p : Int} (hp : 0 < p) {a b : List Int} (ha : Cn p a) (h : Cg p (ev a) (ev b)) : a.length ≤ b.length := by
  by_cases c : a = []
  · rw [c]; exact Nat.zero_le _
  · have t := ha.top c
    have la : a.length ≠ 0 := fun e => c (List.length_eq_zero_iff.1 e)
    refine Nat.le_of_not_lt fun q => t ?_
    have k := h.cf (a.length - 1)
    rw [cf_ge (l := b) (by omega), Int.emod_eq_of_lt (cf_el ha.el hp _).1 (cf_el ha.el hp _).2] at k
    simpa using k
end Go.Proofs.Ytaegmhniepfdaaa.M
namespace Go.Proofs.Ytaegmhniepfdaaa.M
open Go.RowKit Go Go.Proofs.YtaegmhniepfdaaaW.PrintWords Go.Proofs.YtaegmhniepfdaaaW.PrintLast Go.Proofs.YtaegmhniepfdaaaW.PrintMore
def lg (f : Int) : Int := if f = 1 then 27 else 32
def gen (f : Int) : Int := if f = 1 then 31 else 7
def rt (f : Int) (n : Nat) : Int := gen f ^ ((P f - 1).toNat / 2 ^ n) % P f
theorem lg_rng (f : Int) : 27 ≤ lg f ∧ lg f ≤ 32 := by unfold lg; split <;> omega
theorem rt_rng {f : Int} (h : P f ≠ 0) (n : Nat) : 0 ≤ rt f n ∧ rt f n < P f := by
  have := (P_pr h).lo
  exact ⟨Int.emod_nonneg _ (by omega), Int.emod_lt_of_pos _ (by omega)⟩
theorem gen_rng {f : Int} (h : P f ≠ 0) : 0 ≤ gen f ∧ gen f < P f := by
  have := (P_pr h).lo
  unfold gen; split <;> omega
theorem dvd_lg {f : Int} (h : P f ≠ 0) (n : Nat) (hn : (n : Int) ≤ lg f) : 2 ^ n ∣ (P f - 1).toNat := by
  rcases P_cases f with ⟨rfl, e⟩ | ⟨rfl, e⟩ | ⟨_, _, e⟩
  · rw [e]
    refine Nat.dvd_trans (Nat.pow_dvd_pow 2 (show n ≤ 27 by simp [lg] at hn; omega)) (by decide)
  · rw [e]
    refine Nat.dvd_trans (Nat.pow_dvd_pow 2 (show n ≤ 32 by simp [lg] at hn; omega)) (by decide)
  · exact absurd e h
theorem rt_sq {f : Int} (h : P f ≠ 0) (n : Nat) (hn : ((n + 1 : Nat) : Int) ≤ lg f) : rt f (n + 1) * rt f (n + 1) % P f = rt f n := by
  obtain ⟨q, hq⟩ := dvd_lg h (n + 1) hn
  unfold rt
  rw [emod_mul_l, emod_mul_r, ← Int.pow_add]
  have e1 : (P f - 1).toNat / 2 ^ (n + 1) = q := by rw [hq, Nat.mul_div_cancel_left _ (Nat.two_pow_pos _)]
  have e2 : (P f - 1).toNat / 2 ^ n = q + q := by
    rw [hq, Nat.pow_succ, Nat.mul_assoc, Nat.mul_div_cancel_left _ (Nat.two_pow_pos _)]; omega
  rw [e1, e2]
theorem rt_zero {f : Int} (h : P f ≠ 0) : rt f 0 = 1 := by
  have hp := P_pr h
  have hlo := hp.lo
  unfold rt
  rw [Nat.pow_zero, Nat.div_one, show (P f - 1).toNat = (P f - 1).toNat from rfl]
  refine fermat_mod hp ?_
  have hg := gen_rng h
  rw [Int.emod_eq_of_lt hg.1 hg.2]
  unfold gen; split <;> decide
theorem rt_ne_nat_s : ∀ j, j < 28 → j ≠ 0 → pw 2013265921 64 31 (2013265920 / 2 ^ j) % 2013265921 ≠ 1 := by decide +kernel
theorem rt_ne_nat_l : ∀ j, j < 33 → j ≠ 0 → pw 18446744069414584321 64 7 (18446744069414584320 / 2 ^ j) % 18446744069414584321 ≠ 1 := by decide +kernel
theorem rt_ne {f : Int} (h : P f ≠ 0) (n : Nat) (h0 : n ≠ 0) (hn : (n : Int) ≤ lg f) : rt f n ≠ 1 := by
  have lt : ∀ m j : Nat, m < 2 ^ 64 → m / 2 ^ j < 2 ^ 64 := fun m j hm => Nat.lt_of_le_of_lt (Nat.div_le_self _ _) hm
  rcases P_cases f with ⟨rfl, e⟩ | ⟨rfl, e⟩ | ⟨_, _, e⟩
  · intro hr
    have h1 := rt_ne_nat_s n (by simp [lg] at hn; omega) h0
    rw [pw_eq 2013265921 64 31 _ (lt _ _ (by decide))] at h1
    apply h1
    unfold rt at hr
    rw [e] at hr
    have e2 : gen 1 = ((31 : Nat) : Int) := rfl
    rw [e2, show ((2013265921 : Int) - 1).toNat = 2013265920 from rfl, ← Int.natCast_pow, show (2013265921 : Int) = ((2013265921 : Nat) : Int) from rfl, ← Int.natCast_emod] at hr
    exact Int.ofNat_inj.1 hr
  · intro hr
    have h1 := rt_ne_nat_l n (by simp [lg] at hn; omega) h0
    rw [pw_eq 18446744069414584321 64 7 _ (lt _ _ (by decide))] at h1
    apply h1
    unfold rt at hr
    rw [e] at hr
    have e2 : gen 2 = ((7 : Nat) : Int) := rfl
    rw [e2, show ((18446744069414584321 : Int) - 1).toNat = 18446744069414584320 from rfl, ← Int.natCast_pow, show (18446744069414584321 : Int) = ((18446744069414584321 : Nat) : Int) from rfl, ← Int.natCast_emod] at hr
    exact Int.ofNat_inj.1 hr
  · exact absurd e h
theorem rt_one {f : Int} (h : P f ≠ 0) : rt f 1 = P f - 1 := by
  have hp := P_pr h
  have hlo := hp.lo; have hl := lg_rng f
  have r := rt_rng h 1
  have h1 := rt_sq h 0 (by omega)
  rw [rt_zero h] at h1
  have h2 := rt_ne h 1 (by decide) (by omega)
  generalize rt f 1 = x at *
  have e : (x - 1) * (x + 1) % P f = 0 := by
    rw [show (x - 1) * (x + 1) = x * x - 1 by grind, ← emod_sub_l, h1]; simp
  have e1 : (x - 1) % P f ≠ 0 := by
    by_cases c : x = 0
    · rw [c, show (0 : Int) - 1 = -1 from rfl, ← Int.add_emod_right, Int.emod_eq_of_lt (by omega) (by omega)]; omega
    · rw [Int.emod_eq_of_lt (by omega) (by omega)]; omega
  have e2 : (x + 1) % P f = 0 := Classical.byContradiction fun c => no_zero hp e1 c e
  by_cases c : x + 1 < P f
  · rw [Int.emod_eq_of_lt (by omega) c] at e2; omega
  · omega
def twoE (f : Int) : Int × Int := if P f = 0 then (0, 2) else (lg f, 0)
def rootE (f n : Int) : Int × Int := if P f = 0 ∨ n < 0 ∨ n > lg f then (0, 2) else (rt f n.toNat, 0)
def flp : Nat → Int → Int → Int
  | 0, _, out => out
  | d + 1, n, out => flp d (n / 2) (2 * out + n % 2)
def flipE (n l : Int) : Int × Int := if l < 0 ∨ l > 32 ∨ n < 0 ∨ n ≥ 2 ^ l.toNat then (0, 2) else (flp l.toNat n 0, 0)
theorem flp_add : ∀ (d : Nat) (n out : Int), flp d n out = flp d n 0 + 2 ^ d * out
  | 0, n, out => by simp [flp]
  | d + 1, n, out => by
    rw [flp, flp, flp_add d _ (2 * out + n % 2), flp_add d _ (2 * 0 + n % 2), Int.pow_succ]
    grind
theorem flp_rng : ∀ (d : Nat) (n : Int), 0 ≤ n → 0 ≤ flp d n 0 ∧ flp d n 0 < 2 ^ d
  | 0, n, _ => by simp [flp]
  | d + 1, n, h => by
    have ih := flp_rng d (n / 2) (by omega)
    have hp : (0 : Int) < 2 ^ d := Int.pow_pos (by decide)
    rw [flp, flp_add, Int.pow_succ]
    have : n % 2 = 0 ∨ n % 2 = 1 := by omega
    rcases this with e | e <;> rw [e] <;> omega
theorem flp_top : ∀ (d : Nat) (n : Int), 0 ≤ n → n < 2 ^ (d + 1) → flp (d + 1) n 0 = 2 * flp d (n % 2 ^ d) 0 + n / 2 ^ d
  | 0, n, h, h1 => by simp [flp] at *; omega
  | d + 1, n, h, h1 => by
    have hp : (0 : Int) < 2 ^ d := Int.pow_pos (by decide)
    have e2 : (2 : Int) ^ (d + 1) = 2 * 2 ^ d := by rw [Int.pow_succ, Int.mul_comm]
    have e3 : (2 : Int) ^ (d + 1 + 1) = 2 * (2 * 2 ^ d) := by rw [Int.pow_succ, Int.mul_comm, e2]
    have ih := flp_top d (n / 2) (by omega) (by rw [e2]; rw [e3] at h1; omega)
    have q1 : n / 2 / 2 ^ d = n / 2 ^ (d + 1) := by rw [e2, Int.ediv_ediv_of_nonneg (by decide)]
    have q2 : n % 2 ^ (d + 1) / 2 = n / 2 % 2 ^ d := by
      rw [e2]
      have h1 := Int.emod_add_mul_ediv n (2 * 2 ^ d)
      have h2 := Int.emod_nonneg n (show (2 : Int) * 2 ^ d ≠ 0 by omega)
      have h3 := Int.emod_lt_of_pos n (show (0 : Int) < 2 * 2 ^ d by omega)
      generalize n % (2 * 2 ^ d) = r at *
      generalize n / (2 * 2 ^ d) = q at *
      have e : n / 2 = r / 2 + 2 ^ d * q := by
        have : n = r + 2 * (2 ^ d * q) := by rw [← h1]; grind
        omega
      rw [e, Int.add_mul_emod_self_left, Int.emod_eq_of_lt (by omega) (by omega)]
    have q3 : n % 2 ^ (d + 1) % 2 = n % 2 := by
      rw [e2]; exact Int.emod_emod_of_dvd _ ⟨2 ^ d, rfl⟩
    rw [flp, flp_add, ih, flp, flp_add d _ (2 * 0 + n % 2 ^ (d + 1) % 2), q1, q2, q3, e2]
    grind
theorem flp_flp : ∀ (d : Nat) (n : Int), 0 ≤ n → n < 2 ^ d → flp d (flp d n 0) 0 = n
  | 0, n, h, h1 => by simp [flp] at *; omega
  | d + 1, n, h, h1 => by
    have hp : (0 : Int) < 2 ^ d := Int.pow_pos (by decide)
    have e2 : (2 : Int) ^ (d + 1) = 2 * 2 ^ d := by rw [Int.pow_succ, Int.mul_comm]
    have h2 := Int.emod_nonneg n (show (2 : Int) ^ d ≠ 0 by omega)
    have h3 := Int.emod_lt_of_pos n hp
    have h4 := Int.emod_add_mul_ediv n (2 ^ d)
    have h5 : 0 ≤ n / 2 ^ d := Int.ediv_nonneg h (Int.le_of_lt hp)
    have h6 : n / 2 ^ d < 2 := by
      refine Int.ediv_lt_of_lt_mul hp ?_
      rw [e2] at h1; omega
    have ih := flp_flp d (n % 2 ^ d) h2 h3
    rw [flp_top d n h h1, flp, flp_add]
    have q1 : (2 * flp d (n % 2 ^ d) 0 + n / 2 ^ d) / 2 = flp d (n % 2 ^ d) 0 := by omega
    have q2 : (2 * flp d (n % 2 ^ d) 0 + n / 2 ^ d) % 2 = n / 2 ^ d := by omega
    rw [q1, q2, ih]
    generalize n % 2 ^ d = r at *
    generalize n / 2 ^ d = q at *
    rw [← h4]; grind
end Go.Proofs.Ytaegmhniepfdaaa.M
namespace Go.Proofs.Ytaegmhniepfdaaa.M
open Go.RowKit Go Go.Proofs.YtaegmhniepfdaaaW.PrintWords Go.Proofs.YtaegmhniepfdaaaW.PrintLast Go.Proofs.YtaegmhniepfdaaaW.PrintMore
def sg (g : Nat → Int) : Nat → Int
  | 0 => 0
  | n + 1 => sg g n + g n
theorem sg_congr {g g' : Nat → Int} : ∀ n, (∀ i, i < n → g i = g' i) → sg g n = sg g' n
  | 0, _ => rfl
  | n + 1, h => by rw [sg, sg, sg_congr n (fun i hi => h i (by omega)), h n (by omega)]
theorem sg_add (g g' : Nat → Int) : ∀ n, sg (fun i => g i + g' i) n = sg g n + sg g' n
  | 0 => rfl
  | n + 1 => by rw [sg, sg, sg, sg_add g g' n]; omega
theorem sg_mul (c : Int) (g : Nat → Int) : ∀ n, sg (fun i => c * g i) n = c * sg g n
  | 0 => by simp [sg]
  | n + 1 => by rw [sg, sg, sg_mul c g n, Int.mul_add]
theorem sg_mulr (c : Int) (g : Nat → Int) : ∀ n, sg (fun i => g i * c) n = sg g n * c
  | 0 => by simp [sg]
  | n + 1 => by rw [sg, sg, sg_mulr c g n, Int.add_mul]
theorem sg_nought : ∀ n, sg (fun _ => 0) n = 0
  | 0 => rfl
  | n + 1 => by rw [sg, sg_nought n]; rfl
theorem sg_swap (g : Nat → Nat → Int) (m : Nat) : ∀ n, sg (fun i => sg (fun j => g i j) m) n = sg (fun j => sg (fun i => g i j) n) m
  | 0 => by simp [sg, sg_nought]
  | n + 1 => by
    rw [sg, sg_swap g m n, ← sg_add]
    rfl
theorem sg_mod {p : Int} {g g' : Nat → Int} : ∀ n, (∀ i, i < n → g i % p = g' i % p) → sg g n % p = sg g' n % p
  | 0, _ => rfl
  | n + 1, h => by rw [sg, sg, Int.add_emod, sg_mod n (fun i hi => h i (by omega)), h n (by omega), ← Int.add_emod]
theorem sg_double (g : Nat → Int) : ∀ h, sg g (2 * h) = sg (fun t => g (2 * t)) h + sg (fun t => g (2 * t + 1)) h
  | 0 => rfl
  | h + 1 => by rw [show 2 * (h + 1) = 2 * h + 1 + 1 by omega, sg, sg, sg_double g h, sg, sg]; omega
theorem sg_one {p : Int} {g : Nat → Int} {k : Nat} : ∀ n, k < n → (∀ i, i < n → i ≠ k → g i % p = 0) → sg g n % p = g k % p
  | 0, h, _ => absurd h (Nat.not_lt_zero _)
  | n + 1, h, z => by
    rw [sg]
    by_cases c : k = n
    · have e := sg_mod (p := p) (g := g) (g' := fun _ => 0) n (fun i hi => by rw [z i (by omega) (by omega)]; simp)
      rw [sg_nought] at e
      rw [← emod_add_l, e, c]; simp
    · rw [← emod_add_r, z n (by omega) (fun q => c q.symm), Int.add_zero, sg_one n (by omega) fun i hi => z i (by omega)]
theorem sm_sg (l : List Int) (x : Int) : ∀ n, sm l x n = sg (fun i => cf l i * x ^ i) n
  | 0 => rfl
  | n + 1 => by rw [sm, sg, sm_sg l x n]
theorem ev_sg {l : List Int} (x : Int) {n : Nat} (h : l.length ≤ n) : ev l x = sg (fun i => cf l i * x ^ i) n := by
  rw [← sm_ge n h, sm_sg]
theorem ev_pol (n : Nat) (g : Nat → Int) (x : Int) : ev (pol n g) x = sg (fun i => g i * x ^ i) n := by
  rw [ev_sg x (n := n) (by rw [pol_len]; exact Nat.le_refl _)]
  exact sg_congr n fun i hi => by rw [cf_pol, if_pos hi]
theorem geo (x : Int) : ∀ n, sg (fun j => x ^ j) n * (x - 1) = x ^ n - 1
  | 0 => by simp [sg]
  | n + 1 => by
    rw [sg, Int.add_mul, geo x n, Int.pow_succ]; grind
theorem geo_zero {p x : Int} (hp : Pr p) {n : Nat} (h1 : x ^ n % p = 1) (h2 : x % p ≠ 1) : sg (fun j => x ^ j) n % p = 0 := by
  have e := geo x n
  have hlo := hp.lo
  refine Classical.byContradiction fun c => ?_
  have z : (x - 1) % p ≠ 0 := by
    intro q
    apply h2
    have : x = 1 + (x - 1) := by omega
    rw [this, ← emod_add_r, q]; exact one_mod hp
  apply no_zero hp c z
  rw [e, ← emod_sub_l, h1]; simp
theorem pow_mod_one {p x : Int} (hp : Pr p) (h : x % p = 1) (j : Nat) : x ^ j % p = 1 := by
  rw [← emod_pow_l, h, Int.one_pow]; exact one_mod hp
theorem geo_one {p x : Int} (hp : Pr p) (h : x % p = 1) (n : Nat) : sg (fun j => x ^ j) n % p = (n : Int) % p := by
  rw [sg_mod (g' := fun _ => 1) n (fun i _ => by rw [pow_mod_one hp h]; exact (one_mod hp).symm)]
  congr 1
  induction n with
  | zero => rfl
  | succ n ih => rw [sg, ih]; omega
structure Rt (p w : Int) (m : Nat) : Prop where
  one : w ^ (2 ^ m) % p = 1
  half : ∀ s, m = s + 1 → (w ^ (2 ^ s) + 1) % p = 0
theorem neg_one {p x : Int} (h : (x + 1) % p = 0) : x % p = (-1) % p := by
  rw [show x = (x + 1) + -1 by omega, ← emod_add_l, h, Int.zero_add]
theorem odd_part : ∀ d : Nat, d ≠ 0 → ∃ j q, d = 2 ^ j * (2 * q + 1) := by
  intro d
  induction d using Nat.strongRecOn with
  | ind d ih =>
    intro h
    by_cases c : d % 2 = 1
    · exact ⟨0, d / 2, by omega⟩
    · obtain ⟨j, q, e⟩ := ih (d / 2) (by omega) (by omega)
      exact ⟨j + 1, q, by rw [Nat.pow_succ, show 2 ^ j * 2 * (2 * q + 1) = 2 * (2 ^ j * (2 * q + 1)) by grind, ← e]; omega⟩
theorem Rt.ne {p w : Int} {m : Nat} (hp : Pr p) (h : Rt p w m) {d : Nat} (h0 : d ≠ 0) (h1 : d < 2 ^ m) : w ^ d % p ≠ 1 := by
  intro e
  have hlo := hp.lo
  obtain ⟨j, q, hd⟩ := odd_part d h0
  have hj : j < m := by
    refine Nat.lt_of_not_le fun c => ?_
    have h2 := Nat.pow_le_pow_right (n := 2) (by decide) c
    have h3 : 2 ^ j * 1 ≤ 2 ^ j * (2 * q + 1) := Nat.mul_le_mul_left _ (by omega)
    omega
  obtain ⟨s, rfl⟩ : ∃ s, m = s + 1 := ⟨m - 1, by omega⟩
  have hh := neg_one (h.half s rfl)
  have k := pow_mod_one hp e (2 ^ (s - j))
  have e2 : (w ^ d) ^ (2 ^ (s - j)) = (w ^ (2 ^ s)) ^ (2 * q + 1) := by
    rw [← Int.pow_mul, ← Int.pow_mul]
    congr 1
    rw [hd, show s = j + (s - j) by omega, Nat.pow_add, show j + (s - j) - j = s - j by omega]
    grind
  rw [e2, ← emod_pow_l, hh, emod_pow_l, Int.pow_succ, Int.pow_mul, show ((-1 : Int) ^ 2) = 1 from rfl, Int.one_pow, Int.one_mul] at k
  rw [show (-1 : Int) = -1 from rfl, ← Int.add_emod_right, Int.emod_eq_of_lt (by omega) (by omega)] at k
  omega
theorem Rt.inv {p w v : Int} {m : Nat} (hp : Pr p) (h : Rt p w m) (hv : w * v % p = 1) : Rt p v m := by
  have k : ∀ n, w ^ n * v ^ n % p = 1 := fun n => by rw [← Int.mul_pow]; exact pow_mod_one hp hv n
  refine ⟨?_, fun s hs => ?_⟩
  · have := k (2 ^ m)
    rw [← emod_mul_l, h.one, Int.one_mul] at this
    exact this
  · have := k (2 ^ s)
    rw [← emod_mul_l, neg_one (h.half s hs), emod_mul_l] at this
    have e : (v ^ (2 ^ s) + 1) % p = (v ^ (2 ^ s) + (-1) * v ^ (2 ^ s)) % p := by
      rw [← emod_add_r (v ^ (2 ^ s)) ((-1) * v ^ (2 ^ s)), this]
    rw [e, show v ^ (2 ^ s) + -1 * v ^ (2 ^ s) = 0 by omega]; simp
theorem rt_pow {f : Int} (h : P f ≠ 0) : ∀ (s m : Nat), ((m + s : Nat) : Int) ≤ lg f → rt f (m + s) ^ (2 ^ s) % P f = rt f m
  | 0, m, _ => by
    have r := rt_rng h m
    simp only [Nat.add_zero, Nat.pow_zero, Int.pow_succ, Int.pow_zero, Int.one_mul]
    exact Int.emod_eq_of_lt r.1 r.2
  | s + 1, m, hs => by
    have ih := rt_pow h s m (by omega)
    rw [Nat.pow_succ, Nat.mul_comm, Int.pow_mul, ← emod_pow_l, Int.pow_succ, Int.pow_succ, Int.pow_zero, Int.one_mul, show m + (s + 1) = (m + s) + 1 by omega, rt_sq h (m + s) (by omega)]
    exact ih
theorem rt_Rt {f : Int} (h : P f ≠ 0) (m : Nat) (hm : (m : Int) ≤ lg f) : Rt (P f) (rt f m) m := by
  refine ⟨?_, fun s hs => ?_⟩
  · have := rt_pow h m 0 (by omega)
    rw [Nat.zero_add, rt_zero h] at this
    exact this
  · subst hs
    have := rt_pow h s 1 (by omega)
    rw [rt_one h, Nat.add_comm 1 s] at this
    rw [← emod_add_l, this, show P f - 1 + 1 = P f by omega]; simp
def tf (p : Int) (l : List Int) (w : Int) (n : Nat) : List Int := pol n fun j => ev l (w ^ j) % p
theorem tf_el {p : Int} (hp : 0 < p) (l : List Int) (w : Int) (n : Nat) : El p (tf p l w n) := pol_el fun _ _ => ⟨Int.emod_nonneg _ (by omega), Int.emod_lt_of_pos _ hp⟩
theorem tf_len (p : Int) (l : List Int) (w : Int) (n : Nat) : (tf p l w n).length = n := pol_len
theorem tf_tf {p w v : Int} (hp : Pr p) {m : Nat} (hw : Rt p w m) (hv : w * v % p = 1) {l : List Int} (hl : l.length ≤ 2 ^ m) {k : Nat} (hk : k < 2 ^ m) :
    ev (tf p l w (2 ^ m)) (v ^ k) % p = ((2 ^ m : Nat) : Int) * cf l k % p := by
  have wv : ∀ n, w ^ n * v ^ n % p = 1 := fun n => by rw [← Int.mul_pow]; exact pow_mod_one hp hv n
  unfold tf
  rw [ev_pol]
  have e1 : sg (fun j => ev l (w ^ j) % p * (v ^ k) ^ j) (2 ^ m) % p = sg (fun j => sg (fun i => cf l i * (w ^ i * v ^ k) ^ j) (2 ^ m)) (2 ^ m) % p := by
    refine sg_mod _ fun j _ => ?_
    rw [emod_mul_l, ev_sg (w ^ j) hl, ← sg_mulr]
    congr 1
    refine sg_congr _ fun i _ => ?_
    rw [Int.mul_pow, ← Int.pow_mul, ← Int.pow_mul, ← Int.pow_mul, Nat.mul_comm j i, Int.mul_assoc]
  rw [e1, ← sg_swap (fun i j => cf l i * (w ^ i * v ^ k) ^ j)]
  have e2 : (fun i => sg (fun j => cf l i * (w ^ i * v ^ k) ^ j) (2 ^ m)) = fun i => cf l i * sg (fun j => (w ^ i * v ^ k) ^ j) (2 ^ m) := by
    funext i; rw [sg_mul]
  rw [e2, sg_one (k := k) _ hk]
  · rw [← emod_mul_r, geo_one hp (wv k), emod_mul_r, Int.mul_comm]
  · intro i hi hik
    rw [← emod_mul_r, geo_zero hp]
    · simp
    · have hv2 := Rt.inv hp hw hv
      rw [Int.mul_pow, ← Int.pow_mul, ← Int.pow_mul, Nat.mul_comm i, Nat.mul_comm k, Int.pow_mul, Int.pow_mul, ← emod_mul_l, pow_mod_one hp hw.one, Int.one_mul, pow_mod_one hp hv2.one]
    · intro q
      by_cases c : i < k
      · apply Rt.ne hp (Rt.inv hp hw hv) (d := k - i) (by omega) (by omega)
        rw [show v ^ k = v ^ i * v ^ (k - i) by rw [← Int.pow_add]; congr 1; omega, ← Int.mul_assoc, ← emod_mul_l, wv i, Int.one_mul] at q
        exact q
      · apply Rt.ne hp hw (d := i - k) (by omega) (by omega)
        rw [show w ^ i = w ^ (i - k) * w ^ k by rw [← Int.pow_add]; congr 1; omega, Int.mul_assoc, ← emod_mul_r, wv k, Int.mul_one] at q
        exact q
theorem two_mod {p : Int} (hp : Pr p) {m : Nat} (hm : m ≤ 20) : ((2 ^ m : Nat) : Int) % p ≠ 0 ∧ ((2 ^ m : Nat) : Int) < p := by
  have hlo := hp.lo
  have h1 := Nat.pow_le_pow_right (n := 2) (by decide) hm
  have h2 : 0 < 2 ^ m := Nat.two_pow_pos m
  have h3 : (2 : Nat) ^ 20 = 1048576 := by decide
  have h4 : ((2 ^ m : Nat) : Int) < p := by omega
  exact ⟨by rw [Int.emod_eq_of_lt (by omega) h4]; omega, h4⟩
def bk (p : Int) (l : List Int) (w : Int) (n : Nat) : List Int := pol n fun j => ev l (M.inv p w ^ j) % p * M.inv p (n : Int) % p
theorem bk_len (p : Int) (l : List Int) (w : Int) (n : Nat) : (bk p l w n).length = n := pol_len
theorem Rt.unit {p w : Int} {m : Nat} (_hp : Pr p) (h : Rt p w m) : w % p ≠ 0 := by
  intro e
  have h1 := h.one
  obtain ⟨k, hk⟩ : ∃ k, 2 ^ m = k + 1 := ⟨2 ^ m - 1, by have := Nat.two_pow_pos m; omega⟩
  rw [hk, Int.pow_succ, ← emod_mul_r, e, Int.mul_zero] at h1
  simp at h1
theorem back_there {p w : Int} (hp : Pr p) {m : Nat} (hm : m ≤ 20) (hw : Rt p w m) {l : List Int} (hl : l.length = 2 ^ m) (el : El p l) : bk p (tf p l w (2 ^ m)) w (2 ^ m) = l := by
  have hlo := hp.lo
  symm
  refine pol_ext hl fun i hi => ?_
  have u := inv_mul hp (hw.unit hp)
  have n0 := (two_mod hp hm).1
  have r := cf_el el (by omega) i
  rw [tf_tf hp hw u (by omega) hi, emod_mul_l, Int.mul_comm, ← Int.mul_assoc, ← emod_mul_l, mul_inv hp n0, Int.one_mul, Int.emod_eq_of_lt r.1 r.2]
def hd (p : Int) (x y : List Int) (n : Nat) : List Int := pol n fun j => cf x j * cf y j % p
theorem tf_mul {p w : Int} {n : Nat} {a b c : List Int} (h : Cg p (ev c) (fun x => ev a x * ev b x)) : hd p (tf p a w n) (tf p b w n) n = tf p c w n := by
  unfold hd
  refine pol_congr fun j hj => ?_
  unfold tf
  rw [cf_pol, cf_pol, if_pos hj, if_pos hj, h.at, emod_mul_l, emod_mul_r]
theorem bk_mul {p w : Int} (hp : Pr p) {m : Nat} (hm : m ≤ 20) (hw : Rt p w m) {a b : List Int} (h : (mulP p a b).length ≤ 2 ^ m) :
    bk p (hd p (tf p a w (2 ^ m)) (tf p b w (2 ^ m)) (2 ^ m)) w (2 ^ m) = pol (2 ^ m) (cf (mulP p a b)) := by
  have hlo := hp.lo
  have e : ∀ i, cf (pol (2 ^ m) (cf (mulP p a b))) i = cf (mulP p a b) i := fun i => by
    rw [cf_pol]; split
    · rfl
    · rw [cf_ge (by omega)]
  have c : Cg p (ev (pol (2 ^ m) (cf (mulP p a b)))) (fun x => ev a x * ev b x) := (Cg.of fun x => ev_congr e x).trans (mulP_cg p a b)
  rw [tf_mul c]
  exact back_there hp hm hw pol_len (pol_el fun i _ => cf_el (mulP_el (by omega) a b) (by omega) i)
def part (l : List Int) (D : Nat) (r : Int) (h : Nat) (x : Int) : Int := sg (fun t => rd l ((t * D : Nat) + r) * x ^ t) h
theorem part_step (l : List Int) (D : Nat) (r : Int) (h : Nat) (x : Int) : part l D r (2 * h) x = part l (2 * D) r h (x * x) + x * part l (2 * D) (r + D) h (x * x) := by
  unfold part
  rw [sg_double, ← sg_mul]
  congr 1
  · refine sg_congr h fun t _ => ?_
    rw [show 2 * t * D = t * (2 * D) by grind, Int.pow_mul, show x ^ 2 = x * x by rw [Int.pow_succ, Int.pow_succ, Int.pow_zero, Int.one_mul]]
  · refine sg_congr h fun t _ => ?_
    rw [Int.pow_succ, Int.pow_mul, show x ^ 2 = x * x by rw [Int.pow_succ, Int.pow_succ, Int.pow_zero, Int.one_mul], show (((2 * t + 1) * D : Nat) : Int) + r = ((t * (2 * D) : Nat) : Int) + (r + D) by
      rw [show (2 * t + 1) * D = t * (2 * D) + D by grind]; omega]
    grind
theorem part_modc {p : Int} (l : List Int) (D : Nat) (r : Int) (h : Nat) {x y : Int} (e : x % p = y % p) : part l D r h x % p = part l D r h y % p := by
  unfold part
  refine sg_mod h fun t _ => ?_
  rw [← emod_mul_r, ← emod_pow_l, e, emod_pow_l, emod_mul_r]
def stg (p w : Int) (l : List Int) (m s i : Nat) : Int := part l (2 ^ (m - s)) (flp (m - s) ((i / 2 ^ s : Nat) : Int) 0) (2 ^ s) (w ^ (2 ^ (m - s) * (i % 2 ^ s))) % p
theorem stg_zero {p w : Int} {l : List Int} (el : El p l) (hp : 0 < p) {m i : Nat} : stg p w l m 0 i = rd l (flp m (i : Int) 0) := by
  unfold stg
  rw [Nat.sub_zero, Nat.pow_zero, Nat.div_one]
  unfold part
  rw [sg, sg, Nat.zero_mul, Int.pow_zero, Int.mul_one, Int.zero_add]
  have e : ((0 : Nat) : Int) + flp m (i : Int) 0 = flp m (i : Int) 0 := by omega
  rw [e]
  have f0 := (flp_rng m (i : Int) (by omega)).1
  have k := cf_el el hp (flp m (i : Int) 0).toNat
  unfold cf at k
  rw [Int.toNat_of_nonneg f0] at k
  exact Int.emod_eq_of_lt k.1 k.2
theorem stg_last {p w : Int} {l : List Int} {m i : Nat} (hl : l.length = 2 ^ m) (hi : i < 2 ^ m) : stg p w l m m i = ev l (w ^ i) % p := by
  unfold stg
  rw [Nat.sub_self, Nat.pow_zero, Nat.one_mul, Nat.mod_eq_of_lt hi, flp, ev_sg (w ^ i) (n := 2 ^ m) (by omega)]
  unfold part cf
  congr 1
  refine sg_congr _ fun t _ => ?_
  rw [Nat.mul_one, Int.add_zero]
theorem flp_even (d : Nat) (b : Nat) : flp (d + 1) ((2 * b : Nat) : Int) 0 = flp d (b : Int) 0 := by
  rw [flp, flp_add, show ((2 * b : Nat) : Int) / 2 = (b : Int) by omega, show ((2 * b : Nat) : Int) % 2 = 0 by omega]; simp
theorem flp_odd (d : Nat) (b : Nat) : flp (d + 1) ((2 * b + 1 : Nat) : Int) 0 = flp d (b : Int) 0 + 2 ^ d := by
  rw [flp, flp_add, show ((2 * b + 1 : Nat) : Int) / 2 = (b : Int) by omega, show ((2 * b + 1 : Nat) : Int) % 2 = 1 by omega]; simp
theorem blk {h B j : Nat} (hj : j < h) (c : Nat) (_hc : c = 0 ∨ c = 1) : (B * (2 * h) + (j + c * h)) / h = 2 * B + c ∧ (B * (2 * h) + (j + c * h)) % h = j := by
  have e : B * (2 * h) + (j + c * h) = j + h * (2 * B + c) := by grind
  rw [e]
  refine ⟨?_, ?_⟩
  · rw [Nat.add_mul_div_left _ _ (by omega), Nat.div_eq_of_lt hj]; omega
  · rw [Nat.add_mul_mod_self_left, Nat.mod_eq_of_lt hj]
theorem blk2 {h B j : Nat} (hj : j < 2 * h) : (B * (2 * h) + j) / (2 * h) = B ∧ (B * (2 * h) + j) % (2 * h) = j := by
  rw [Nat.add_comm, Nat.mul_comm B]
  refine ⟨?_, ?_⟩
  · rw [Nat.add_mul_div_left _ _ (by omega), Nat.div_eq_of_lt hj]; omega
  · rw [Nat.add_mul_mod_self_left, Nat.mod_eq_of_lt hj]
theorem emod_lin_r (a x b p : Int) : (a + x * (b % p)) % p = (a + x * b) % p := by rw [← emod_add_r, emod_mul_r, emod_add_r]
theorem emod_lin_s (a x b p : Int) : (a - x * (b % p)) % p = (a - x * b) % p := by rw [← emod_sub_r, emod_mul_r, emod_sub_r]
theorem stg_step {p w : Int} (l : List Int) {m s B j : Nat} (hs : s < m) (hw : Rt p w m) (hj : j < 2 ^ s) :
    stg p w l m (s + 1) (B * (2 * 2 ^ s) + j) = (stg p w l m s (B * (2 * 2 ^ s) + j) + w ^ (2 ^ (m - s - 1) * j) * stg p w l m s (B * (2 * 2 ^ s) + j + 2 ^ s)) % p ∧
    stg p w l m (s + 1) (B * (2 * 2 ^ s) + j + 2 ^ s) = (stg p w l m s (B * (2 * 2 ^ s) + j) - w ^ (2 ^ (m - s - 1) * j) * stg p w l m s (B * (2 * 2 ^ s) + j + 2 ^ s)) % p := by
  obtain ⟨d, rfl⟩ : ∃ d, m = s + 1 + d := ⟨m - s - 1, by omega⟩
  have q1 := blk (B := B) hj 0 (.inl rfl)
  have q2 := blk (B := B) hj 1 (.inr rfl)
  rw [Nat.zero_mul, Nat.add_zero, Nat.add_zero] at q1
  rw [Nat.one_mul, ← Nat.add_assoc] at q2
  have q3 := blk2 (h := 2 ^ s) (B := B) (j := j) (by omega)
  have q4 := blk2 (h := 2 ^ s) (B := B) (j := j + 2 ^ s) (by omega)
  rw [← Nat.add_assoc] at q4
  have e1 : s + 1 + d - s = d + 1 := by omega
  have e2 : s + 1 + d - s - 1 = d := by omega
  have e3 : s + 1 + d - (s + 1) = d := by omega
  have e4 : (2 : Nat) ^ (s + 1) = 2 * 2 ^ s := by rw [Nat.pow_succ, Nat.mul_comm]
  have e5 : (2 : Nat) ^ (d + 1) = 2 * 2 ^ d := by rw [Nat.pow_succ, Nat.mul_comm]
  have e6 : ((2 ^ d : Nat) : Int) = 2 ^ d := by simp
  have sq : w ^ (2 ^ d * j) * w ^ (2 ^ d * j) = w ^ (2 * 2 ^ d * j) := by rw [← Int.pow_add]; congr 1; grind
  unfold stg
  rw [e2, e3, e1, e4, e5, q1.1, q1.2, q2.1, q2.2, q3.1, q3.2, q4.1, q4.2, flp_even, flp_odd, part_step, part_step, sq, e6]
  refine ⟨?_, ?_⟩
  · rw [emod_add_l, emod_lin_r]
  · rw [emod_sub_l, emod_lin_s]
    have hh : w ^ (2 ^ d * 2 ^ s) % p = (-1) % p := by
      rw [← Nat.pow_add]
      refine neg_one (hw.half (d + s) (by omega))
    have x1 : w ^ (2 ^ d * (j + 2 ^ s)) % p = (- w ^ (2 ^ d * j)) % p := by
      rw [Nat.mul_add, Int.pow_add, ← emod_mul_r, hh, emod_mul_r]; congr 1; omega
    have x2 : (w ^ (2 ^ d * (j + 2 ^ s)) * w ^ (2 ^ d * (j + 2 ^ s))) % p = w ^ (2 * 2 ^ d * j) % p := by
      rw [← emod_mul_l, x1, emod_mul_l, ← emod_mul_r, x1, emod_mul_r, ← sq]; congr 1; grind
    have y1 := part_modc l (2 * 2 ^ d) (flp d (B : Int) 0) (2 ^ s) x2
    have y2 := part_modc l (2 * 2 ^ d) (flp d (B : Int) 0 + 2 ^ d) (2 ^ s) x2
    rw [← emod_add_l, y1, emod_add_l, ← emod_lin_r, y2, emod_lin_r, ← emod_add_r, ← emod_mul_l, x1, emod_mul_l, emod_add_r]
    congr 1; grind
end Go.Proofs.Ytaegmhniepfdaaa.M
namespace Go.Proofs.Ytaegmhniepfdaaa.M
open Go.RowKit Go Go.Proofs.YtaegmhniepfdaaaW.PrintWords Go.Proofs.YtaegmhniepfdaaaW.PrintLast Go.Proofs.YtaegmhniepfdaaaW.PrintMore
def stepR (p c : Int) (d : Nat) (q r : List Int) : List Int := trim (pol r.length fun i => if d ≤ i then (cf r i - c * cf q (i - d)) % p else cf r i)
def dm (p top : Int) (q : List Int) : Nat → (Nat → Int) → List Int → (Nat → Int) × List Int
  | 0, g, r => (g, r)
  | n + 1, g, r => if r.length < q.length then (g, r) else
      dm p top q n (fun i => if i = r.length - q.length then cf r (r.length - 1) * top % p else g i) (stepR p (cf r (r.length - 1) * top % p) (r.length - q.length) q r)
theorem div_one {p : Int} (hp : Pr p) {q s t : List Int} (hq : Cn p q) (hq0 : q ≠ []) (hs : Cn p s) (ht : t.length < q.length) (h : Cg p (fun x => ev s x * ev q x) (ev t)) : s = [] := by
  have hlo := hp.lo
  refine Classical.byContradiction fun c => ?_
  have k := (mulP_cg p s q).trans h
  have l := (mulP_cn hp hs hq).len_le (by omega) k
  rw [mulP_len c hq0] at l
  have : s.length ≠ 0 := fun e => c (List.length_eq_zero_iff.1 e)
  omega
theorem bad_good {f : Int} (hp : P f ≠ 0) {a b : List Int} (ea : El (P f) a) (eb : El (P f) b) (la : a.length ≤ 4096) (lb : b.length ≤ 4096) : bad f a b = 0 := by
  unfold bad
  rw [if_pos ⟨ok_iff.2 ⟨hp, fun x hx => (ea x hx).2⟩, ok_iff.2 ⟨hp, fun x hx => (eb x hx).2⟩⟩, if_pos ⟨la, lb⟩]
theorem Pmul_good {f : Int} (hp : P f ≠ 0) {a b : List Int} (ea : El (P f) a) (eb : El (P f) b) (la : a.length ≤ 4096) (lb : b.length ≤ 4096) (h : trim a = [] ∨ trim b = [] ∨ (trim a).length + (trim b).length ≤ 4097) : Pmul f a b = (mulP (P f) (trim a) (trim b), 0) := by
  unfold Pmul; rw [if_pos (bad_good hp ea eb la lb)]
  split
  · rename_i c; unfold mulP; rw [if_pos c]
  · rename_i c
    rw [if_neg]
    rcases h with h | h | h
    · exact absurd (.inl h) c
    · exact absurd (.inr h) c
    · omega
end Go.Proofs.Ytaegmhniepfdaaa.M
namespace Go.Proofs.Ytaegmhniepfdaaa.M
open Go.RowKit Go Go.Proofs.YtaegmhniepfdaaaW.PrintWords Go.Proofs.YtaegmhniepfdaaaW.PrintLast Go.Proofs.YtaegmhniepfdaaaW.PrintMore
theorem len_ext {p : Int} (hp : 0 < p) {a b : List Int} (h : a.length = b.length) (ea : El p a) (eb : El p b) (c : Cg p (ev a) (ev b)) : a = b :=
  ext_cf h fun i => by
    have k := c.cf i
    rwa [Int.emod_eq_of_lt (cf_el ea hp i).1 (cf_el ea hp i).2, Int.emod_eq_of_lt (cf_el eb hp i).1 (cf_el eb hp i).2] at k
theorem ev_append (b : List Int) (x : Int) : ∀ a : List Int, ev (a ++ b) x = ev a x + x ^ a.length * ev b x
  | [] => by simp [ev_nil]
  | c :: r => by rw [List.cons_append, ev_cons, ev_cons, ev_append b x r, List.length_cons, Int.pow_succ]; grind
theorem ev_split (l : List Int) (h : Nat) (x : Int) : ev l x = ev (l.take h) x + x ^ h * ev (l.drop h) x := by
  by_cases c : h ≤ l.length
  · have e := ev_append (l.drop h) x (l.take h)
    rwa [List.take_append_drop, List.length_take, Nat.min_eq_left c] at e
  · rw [List.take_of_length_le (by omega), List.drop_of_length_le (by omega), ev_nil]; simp
theorem El.take {p : Int} {l : List Int} (h : El p l) (n : Nat) : El p (l.take n) := fun x hx => h x (List.mem_of_mem_take hx)
theorem El.drop {p : Int} {l : List Int} (h : El p l) (n : Nat) : El p (l.drop n) := fun x hx => h x (List.mem_of_mem_drop hx)
def ptA (p : Int) (o : List Int) (k : Nat) (l : List Int) : List Int := pol o.length fun i => if k ≤ i ∧ i < k + l.length then (cf o i + cf l (i - k)) % p else cf o i
def ptS (p : Int) (o : List Int) (k : Nat) (l : List Int) : List Int := pol o.length fun i => if k ≤ i ∧ i < k + l.length then (cf o i - cf l (i - k)) % p else cf o i
theorem ptA_len (p : Int) (o : List Int) (k : Nat) (l : List Int) : (ptA p o k l).length = o.length := pol_len
theorem ptS_len (p : Int) (o : List Int) (k : Nat) (l : List Int) : (ptS p o k l).length = o.length := pol_len
theorem ptA_el {p : Int} (hp : 0 < p) {o : List Int} (k : Nat) (l : List Int) (ho : El p o) : El p (ptA p o k l) := pol_el fun i _ => by
  split
  · exact ⟨Int.emod_nonneg _ (by omega), Int.emod_lt_of_pos _ hp⟩
  · exact cf_el ho hp i
theorem ptS_el {p : Int} (hp : 0 < p) {o : List Int} (k : Nat) (l : List Int) (ho : El p o) : El p (ptS p o k l) := pol_el fun i _ => by
  split
  · exact ⟨Int.emod_nonneg _ (by omega), Int.emod_lt_of_pos _ hp⟩
  · exact cf_el ho hp i
theorem ptA_cg {p : Int} {o l : List Int} {k : Nat} (h : k + l.length ≤ o.length) : Cg p (ev (ptA p o k l)) (fun x => ev o x + x ^ k * ev l x) := by
  have e1 : ∀ i, M.cf (M.pol (k + l.length) fun i => if k ≤ i then 1 * M.cf l (i - k) else 0) i = if k ≤ i then 1 * M.cf l (i - k) else 0 := fun i => by
    rw [cf_pol]; split
    · rfl
    · split
      · rw [cf_ge (l := l) (by omega)]; simp
      · rfl
  refine (Cg.of_cf (b := M.pol o.length fun i => M.cf o i + (if k ≤ i then 1 * M.cf l (i - k) else 0)) fun i => ?_).trans (Cg.of fun x => ?_)
  · unfold ptA
    rw [cf_pol, cf_pol]; split
    · by_cases c : k ≤ i
      · by_cases d : i < k + l.length
        · rw [if_pos ⟨c, d⟩, if_pos c, Int.emod_emod, Int.one_mul]
        · rw [if_neg (fun q => d q.2), if_pos c, cf_ge (l := l) (by omega)]; simp
      · rw [if_neg (fun q => c q.1), if_neg c, Int.add_zero]
    · rfl
  · rw [ev_lin (s := 1) (t := 1) (a := o) (b := M.pol (k + l.length) fun i => if k ≤ i then 1 * M.cf l (i - k) else 0) x (fun i => ?_), ev_shift x e1]
    · grind
    · rw [e1, cf_pol]; split
      · grind
      · rw [cf_ge (l := o) (by omega)]; split
        · rw [cf_ge (l := l) (by omega)]; simp
        · simp
theorem ptS_cg {p : Int} {o l : List Int} {k : Nat} (h : k + l.length ≤ o.length) : Cg p (ev (ptS p o k l)) (fun x => ev o x - x ^ k * ev l x) := by
  have e1 : ∀ i, M.cf (M.pol (k + l.length) fun i => if k ≤ i then 1 * M.cf l (i - k) else 0) i = if k ≤ i then 1 * M.cf l (i - k) else 0 := fun i => by
    rw [cf_pol]; split
    · rfl
    · split
      · rw [cf_ge (l := l) (by omega)]; simp
      · rfl
  refine (Cg.of_cf (b := M.pol o.length fun i => M.cf o i - (if k ≤ i then 1 * M.cf l (i - k) else 0)) fun i => ?_).trans (Cg.of fun x => ?_)
  · unfold ptS
    rw [cf_pol, cf_pol]; split
    · by_cases c : k ≤ i
      · by_cases d : i < k + l.length
        · rw [if_pos ⟨c, d⟩, if_pos c, Int.emod_emod, Int.one_mul]
        · rw [if_neg (fun q => d q.2), if_pos c, cf_ge (l := l) (by omega)]; simp
      · rw [if_neg (fun q => c q.1), if_neg c, Int.sub_zero]
    · rfl
  · rw [ev_lin (s := 1) (t := -1) (a := o) (b := M.pol (k + l.length) fun i => if k ≤ i then 1 * M.cf l (i - k) else 0) x (fun i => ?_), ev_shift x e1]
    · grind
    · rw [e1, cf_pol]; split
      · grind
      · rw [cf_ge (l := o) (by omega)]; split
        · rw [cf_ge (l := l) (by omega)]; simp
        · simp
def ptAi (p : Int) (o : List Int) (k : Nat) (l : List Int) (m : Nat) : List Int := pol o.length fun i => if k ≤ i ∧ i < k + m then (cf o i + cf l (i - k)) % p else cf o i
def ptSi (p : Int) (o : List Int) (k : Nat) (l : List Int) (m : Nat) : List Int := pol o.length fun i => if k ≤ i ∧ i < k + m then (cf o i - cf l (i - k)) % p else cf o i
theorem ptAi_zero (p : Int) (o : List Int) (k : Nat) (l : List Int) : ptAi p o k l 0 = o := (pol_ext rfl fun i _ => by rw [if_neg (by omega)]).symm
theorem ptSi_zero (p : Int) (o : List Int) (k : Nat) (l : List Int) : ptSi p o k l 0 = o := (pol_ext rfl fun i _ => by rw [if_neg (by omega)]).symm
theorem ptAi_rd {p : Int} {o l : List Int} {k m : Nat} (h : k + m < o.length) : rd (ptAi p o k l m) ((k + m : Nat) : Int) = cf o (k + m) := by
  have := cf_pol (n := o.length) (g := fun i => if k ≤ i ∧ i < k + m then (cf o i + cf l (i - k)) % p else cf o i) (i := k + m)
  rw [if_pos h] at this
  show cf (ptAi p o k l m) (k + m) = _
  unfold ptAi; rw [this, if_neg (by omega)]
theorem ptSi_rd {p : Int} {o l : List Int} {k m : Nat} (h : k + m < o.length) : rd (ptSi p o k l m) ((k + m : Nat) : Int) = cf o (k + m) := by
  have := cf_pol (n := o.length) (g := fun i => if k ≤ i ∧ i < k + m then (cf o i - cf l (i - k)) % p else cf o i) (i := k + m)
  rw [if_pos h] at this
  show cf (ptSi p o k l m) (k + m) = _
  unfold ptSi; rw [this, if_neg (by omega)]
theorem ptAi_set {p : Int} {o l : List Int} {k m : Nat} (h : k + m < o.length) : (ptAi p o k l m).set (k + m) ((cf o (k + m) + cf l m) % p) = ptAi p o k l (m + 1) := by
  unfold ptAi
  rw [pol_set h]
  refine pol_congr fun i _ => ?_
  by_cases c : i = k + m
  · rw [if_pos c, if_pos (by omega), c, Nat.add_sub_cancel_left]
  · rw [if_neg c]
    by_cases d : k ≤ i ∧ i < k + m
    · rw [if_pos d, if_pos (by omega)]
    · rw [if_neg d, if_neg (by omega)]
theorem ptSi_set {p : Int} {o l : List Int} {k m : Nat} (h : k + m < o.length) : (ptSi p o k l m).set (k + m) ((cf o (k + m) - cf l m) % p) = ptSi p o k l (m + 1) := by
  unfold ptSi
  rw [pol_set h]
  refine pol_congr fun i _ => ?_
  by_cases c : i = k + m
  · rw [if_pos c, if_pos (by omega), c, Nat.add_sub_cancel_left]
  · rw [if_neg c]
    by_cases d : k ≤ i ∧ i < k + m
    · rw [if_pos d, if_pos (by omega)]
    · rw [if_neg d, if_neg (by omega)]
def smP (p : Int) (a b : List Int) : List Int := ptA p (pol (max a.length b.length) (cf a)) 0 b
theorem smP_len (p : Int) (a b : List Int) : (smP p a b).length = max a.length b.length := by unfold smP; rw [ptA_len, pol_len]
theorem smP_el {p : Int} (hp : 0 < p) {a b : List Int} (ea : El p a) : El p (smP p a b) := ptA_el hp _ _ (pol_el fun i _ => cf_el ea hp i)
theorem smP_cg (p : Int) (a b : List Int) : Cg p (ev (smP p a b)) (fun x => ev a x + ev b x) := by
  unfold smP
  refine (ptA_cg (by rw [pol_len]; omega)).trans (Cg.of fun x => ?_)
  rw [ev_congr (b := a) (fun i => by
    rw [cf_pol]; split
    · rfl
    · rw [cf_ge (by omega)])]
  simp
theorem Pf.sh (k : Nat) (l : List Int) : Pf fun x => x ^ k * ev l x := (Pf.pow Pf.X k).mul (Pf.of l)
theorem Cg.sh {p : Int} {φ : Int → Int} {l : List Int} (k : Nat) (h : Cg p (ev l) φ) : Cg p (fun x => x ^ k * ev l x) (fun x => x ^ k * φ x) :=
  Cg.mul (Cg.refl _) h (Pf.pow Pf.X k) (Pf.of l)
def midP (p : Int) (a b c d : List Int) : List Int := ptS p (ptS p (mulP p (smP p a b) (smP p c d)) 0 (mulP p a c)) 0 (mulP p b d)
theorem mul_len_le (p : Int) (a b : List Int) : (mulP p a b).length ≤ a.length + b.length - 1 := by
  unfold mulP; split
  · simp
  · rw [pol_len]; exact Nat.le_refl _
theorem len_pos {l : List Int} (h : l ≠ []) : 0 < l.length := List.length_pos_iff.2 h
theorem smP_ne {p : Int} {a b : List Int} (ha : a ≠ []) : smP p a b ≠ [] := fun e => by
  have h := smP_len p a b
  have := len_pos ha
  rw [e] at h; simp at h; omega
theorem midP_len {p : Int} {a b c d : List Int} (ha : a ≠ []) (hc : c ≠ []) : (midP p a b c d).length = max a.length b.length + max c.length d.length - 1 := by
  unfold midP
  rw [ptS_len, ptS_len, mulP_len (smP_ne ha) (smP_ne hc), smP_len, smP_len]
theorem midP_el {p : Int} (hp : 0 < p) (a b c d : List Int) : El p (midP p a b c d) := ptS_el hp _ _ (ptS_el hp _ _ (mulP_el hp _ _))
theorem midP_cg {p : Int} {a b c d : List Int} (ha : a ≠ []) (hc : c ≠ []) : Cg p (ev (midP p a b c d)) (fun x => ev a x * ev d x + ev b x * ev c x) := by
  have l1 : (mulP p a c).length ≤ (mulP p (smP p a b) (smP p c d)).length := by
    rw [mulP_len (smP_ne ha) (smP_ne hc), smP_len, smP_len]; have := mul_len_le p a c; omega
  have l2 : (mulP p b d).length ≤ (mulP p (smP p a b) (smP p c d)).length := by
    rw [mulP_len (smP_ne ha) (smP_ne hc), smP_len, smP_len]; have := mul_len_le p b d; omega
  have c0 : Cg p (ev (mulP p (smP p a b) (smP p c d))) (fun x => (ev a x + ev b x) * (ev c x + ev d x)) :=
    (mulP_cg p _ _).trans (Cg.mul (smP_cg p a b) (smP_cg p c d) ((Pf.of a).add (Pf.of b)) (Pf.of _))
  have c1 := (ptS_cg (p := p) (o := mulP p (smP p a b) (smP p c d)) (l := mulP p a c) (k := 0) (by omega)).trans (Cg.sub c0 (Cg.sh 0 (mulP_cg p a c)))
  have c2 := (ptS_cg (p := p) (o := ptS p (mulP p (smP p a b) (smP p c d)) 0 (mulP p a c)) (l := mulP p b d) (k := 0) (by rw [ptS_len]; omega)).trans (Cg.sub c1 (Cg.sh 0 (mulP_cg p b d)))
  exact c2.trans (Cg.of fun x => by rw [Int.pow_zero]; grind)
theorem cut_cg {p : Int} (hp : 0 < p) {m : List Int} (em : El p m) {K : Nat} {φ : Int → Int} {y : List Int} (h : Cg p (ev m) φ) (hy : ∀ x, ev y x = φ x) (ly : y.length ≤ K) : Cg p (ev (m.take K)) φ := by
  refine Cg.trans (Cg.of fun x => ev_congr (fun i => ?_) x) h
  rw [cf_take]; split
  · rfl
  · have k := (h.trans (Cg.of fun x => (hy x).symm)).cf i
    have r := cf_el em hp i
    rw [cf_ge (l := y) (by omega), Int.emod_eq_of_lt r.1 r.2] at k
    rw [k]; simp
theorem cv_none {a b : List Int} (e : b = []) : ∀ m i, cv a b m i = 0
  | 0, _ => rfl
  | m + 1, i => by
    rw [cv, cv_none e m i, e, cf_nil]; split <;> simp
theorem kara {p : Int} (hp : 0 < p) {P Q : List Int} (h : Nat) (h0 : 0 < h) (h1 : 2 * h ≤ P.length + Q.length - 1) (hP : 1 < P.length) (hQ : 1 < Q.length) (h2 : h ≤ max P.length Q.length) :
    ptA p (ptA p (ptA p (List.replicate (P.length + Q.length - 1) 0) 0 (mulP p (P.take h) (Q.take h))) (2 * h) (mulP p (P.drop h) (Q.drop h))) h
      ((midP p (P.take h) (P.drop h) (Q.take h) (Q.drop h)).take (P.length + Q.length - 1 - h)) = mulP p P Q := by
  have nP : P ≠ [] := fun e => by rw [e] at hP; simp at hP
  have nQ : Q ≠ [] := fun e => by rw [e] at hQ; simp at hQ
  have tl : ∀ l : List Int, (l.take h).length = min h l.length := fun l => List.length_take
  have dl : ∀ l : List Int, (l.drop h).length = l.length - h := fun l => List.length_drop
  have na : P.take h ≠ [] := fun e => by have := tl P; rw [e] at this; simp at this; omega
  have nc : Q.take h ≠ [] := fun e => by have := tl Q; rw [e] at this; simp at this; omega
  have sP := ev_split P h
  have sQ := ev_split Q h
  have ta := tl P
  have tc := tl Q
  have tb := dl P
  have td := dl Q
  generalize P.take h = a at *
  generalize Q.take h = c at *
  generalize P.drop h = b at *
  generalize Q.drop h = d at *
  have z0 : El p (List.replicate (P.length + Q.length - 1) (0 : Int)) := fun x hx => by rw [List.eq_of_mem_replicate hx]; exact ⟨Int.le_refl _, hp⟩
  have l0 : (List.replicate (P.length + Q.length - 1) (0 : Int)).length = P.length + Q.length - 1 := List.length_replicate
  have v0 : ∀ x, ev (List.replicate (P.length + Q.length - 1) (0 : Int)) x = 0 := fun x => by
    rw [ev_congr (b := []) (fun i => by
      rw [pol_zero, cf_pol, cf_nil]; split <;> rfl), ev_nil]
  generalize List.replicate (P.length + Q.length - 1) (0 : Int) = Z at *
  have lac := mul_len_le p a c
  have lbd := mul_len_le p b d
  have lbd0 : b = [] ∨ d = [] → (mulP p b d).length = 0 := fun e => by unfold mulP; rw [if_pos e]; rfl
  have lbd1 : (mulP p b d).length = 0 ∨ (0 < b.length ∧ 0 < d.length) := by
    by_cases e : b = [] ∨ d = []
    · exact .inl (lbd0 e)
    · exact .inr ⟨len_pos fun q => e (.inl q), len_pos fun q => e (.inr q)⟩
  have lm := midP_len (p := p) (b := b) (d := d) na nc
  have mc : Cg p (ev ((midP p a b c d).take (P.length + Q.length - 1 - h))) (fun x => ev a x * ev d x + ev b x * ev c x) := by
    refine cut_cg hp (midP_el hp a b c d) (midP_cg na nc) (y := M.pol (P.length + Q.length - 1 - h) fun i => cv a d a.length i + cv b c b.length i) (fun x => ?_) (by rw [pol_len]; exact Nat.le_refl _)
    have g1 : ∀ i, M.cf (M.pol (a.length + d.length) (cv a d a.length)) i = cv a d a.length i := fun i => by
      rw [cf_pol]; split
      · rfl
      · by_cases e : d = []
        · exact (cv_none e a.length i).symm
        · exact (cv_ge a d a.length i (by omega) e (by omega)).symm
    have g2 : ∀ i, M.cf (M.pol (b.length + c.length) (cv b c b.length)) i = cv b c b.length i := fun i => by
      rw [cf_pol]; split
      · rfl
      · exact (cv_ge b c b.length i (by omega) nc (by omega)).symm
    rw [ev_lin (s := 1) (t := 1) (a := M.pol (a.length + d.length) (cv a d a.length)) (b := M.pol (b.length + c.length) (cv b c b.length)) x (fun i => ?_), ev_cv x _ _ g1, ev_cv x _ _ g2, sm_ge _ (Nat.le_refl _), sm_ge _ (Nat.le_refl _)]
    · simp
    · rw [g1, g2, cf_pol]; split
      · simp
      · have k1 : cv a d a.length i = 0 := by
          by_cases e : d = []
          · exact cv_none e a.length i
          · have := len_pos e
            exact cv_ge a d a.length i (by omega) e (by omega)
        have k2 : cv b c b.length i = 0 := by
          by_cases e : b = []
          · rw [e]; rfl
          · have := len_pos e
            exact cv_ge b c b.length i (by omega) nc (by omega)
        rw [k1, k2]; simp
  have lt : ((midP p a b c d).take (P.length + Q.length - 1 - h)).length ≤ P.length + Q.length - 1 - h := by rw [List.length_take]; omega
  generalize (midP p a b c d).take (P.length + Q.length - 1 - h) = mid at *
  have c1 := (ptA_cg (p := p) (o := Z) (l := mulP p a c) (k := 0) (by omega)).trans (Cg.add (Cg.of v0) (Cg.sh 0 (mulP_cg p a c)))
  have c2 := (ptA_cg (p := p) (o := ptA p Z 0 (mulP p a c)) (l := mulP p b d) (k := 2 * h) (by rw [ptA_len]; omega)).trans (Cg.add c1 (Cg.sh (2 * h) (mulP_cg p b d)))
  have c3 := (ptA_cg (p := p) (o := ptA p (ptA p Z 0 (mulP p a c)) (2 * h) (mulP p b d)) (l := mid) (k := h) (by rw [ptA_len, ptA_len]; omega)).trans (Cg.add c2 (Cg.sh h mc))
  refine len_ext hp (by rw [ptA_len, ptA_len, ptA_len, l0, mulP_len nP nQ]) (ptA_el hp _ _ (ptA_el hp _ _ (ptA_el hp _ _ z0))) (mulP_el hp P Q) (c3.trans ((Cg.of fun x => ?_).trans (mulP_cg p P Q).symm))
  rw [sP x, sQ x, Int.pow_zero, show 2 * h = h + h by omega, Int.pow_add]
  grind
end Go.Proofs.Ytaegmhniepfdaaa.M
