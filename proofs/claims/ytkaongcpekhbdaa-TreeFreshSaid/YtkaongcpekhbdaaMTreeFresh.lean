/- Plain facts: numbers, fields, lists, polynomials. -/
import Derived.Laws.BitsLemmas
import Derived.IntWalk
import Derived.Test.YtkaongcpekhbdaaSTreeFresha
import Derived.KernelRfl
namespace Go.Proofs.Ytkaongcpekhbdaa.M
open Go.RowKit Go
theorem u64w (n : Int) : IntKind.u64.wrap n = n % 18446744073709551616 := by
  simp [IntKind.wrap, IntKind.bits, IntKind.signed]
theorem u64w_in (n : Int) (h0 : 0 ≤ n) (h1 : n < 18446744073709551616) : IntKind.u64.wrap n = n := by
  rw [u64w]; omega
theorem and32 (x : Int) (h0 : 0 ≤ x) (h1 : x < 18446744073709551616) : Go.bits .and .u64 x 4294967295 = x % 4294967296 :=
  bits_mask .u64 64 (by decide) (fun n a b => by rw [u64w]; simp at b; omega) 32 (by decide) x h0 (by simpa using h1)
theorem and1 (x : Int) (h0 : 0 ≤ x) (h1 : x < 18446744073709551616) : Go.bits .and .u64 x 1 = x % 2 :=
  bits_mask .u64 64 (by decide) (fun n a b => by rw [u64w]; simp at b; omega) 1 (by decide) x h0 (by simpa using h1)
theorem wf_u64 {x : Int} (h : (Lit.int .u64 x).wf = true) : 0 ≤ x ∧ x < 18446744073709551616 := by
  simp [Lit.wf, IntKind.min, IntKind.max, IntKind.signed, IntKind.bits] at h; omega
theorem mul_parts (a b : Int) : a * b = (a / 4294967296) * (b / 4294967296) * 18446744073709551616 + ((a / 4294967296) * (b % 4294967296) + (a % 4294967296) * (b / 4294967296)) * 4294967296 + (a % 4294967296) * (b % 4294967296) := by
  have ha : a = 4294967296 * (a / 4294967296) + a % 4294967296 := by omega
  have hb : b = 4294967296 * (b / 4294967296) + b % 4294967296 := by omega
  generalize a / 4294967296 = a1 at *
  generalize a % 4294967296 = a0 at *
  generalize b / 4294967296 = b1 at *
  generalize b % 4294967296 = b0 at *
  subst ha hb
  grind
theorem mul_half (x y : Int) (hx : 0 ≤ x) (hx1 : x < 4294967296) (hy : 0 ≤ y) (hy1 : y < 4294967296) : 0 ≤ x * y ∧ x * y ≤ 18446744065119617025 := by
  refine ⟨Int.mul_nonneg hx hy, ?_⟩
  have h := Int.mul_le_mul (show x ≤ 4294967295 by omega) (show y ≤ 4294967295 by omega) hy (by decide)
  simpa using h
end Go.Proofs.Ytkaongcpekhbdaa.M
namespace Go.Proofs.Ytkaongcpekhbdaa.M
open Go.RowKit Go Go.Proofs.YtkaongcpekhbdaaW.PrintWords Go.Proofs.YtkaongcpekhbdaaW.PrintLast Go.Proofs.YtkaongcpekhbdaaW.PrintMore
theorem Ev.pos {α : Type} {c : Prop} [Decidable c] {x y : Nat → Option α} {r : α} (h : c) (k : Ev x r) : Ev (fun n => if c then x n else y n) r := by
  simpa only [if_pos h] using k
theorem Ev.neg {α : Type} {c : Prop} [Decidable c] {x y : Nat → Option α} {r : α} (h : ¬ c) (k : Ev y r) : Ev (fun n => if c then x n else y n) r := by
  simpa only [if_neg h] using k
theorem Ev.ite {α : Type} {c : Prop} [Decidable c] {x y : Nat → Option α} {r : α} (h : c → Ev x r) (k : ¬ c → Ev y r) : Ev (fun n => if c then x n else y n) r := by
  by_cases hc : c
  · exact Ev.pos hc (h hc)
  · exact Ev.neg hc (k hc)
theorem Ev.bnd {α β : Type} {g : Option α} {f : Nat → α → Option β} {a : α} {r : β} (h : g = some a) (k : Ev (fun n => f n a) r) : Ev (fun n => g.bind (f n)) r := by
  subst h; exact k
theorem Ev.fix {α : Type} {g : Option α} {r : α} (h : g = some r) : Ev (fun _ => g) r := ⟨0, fun _ _ => h⟩
theorem Ev.cast {α : Type} {g : Nat → Option α} {r r' : α} (h : Ev g r) (e : r = r') : Ev g r' := e ▸ h
theorem emod_mul_l (a b p : Int) : (a % p * b) % p = a * b % p := by
  rw [Int.mul_emod, Int.emod_emod, ← Int.mul_emod]
theorem emod_mul_r (a b p : Int) : (a * (b % p)) % p = a * b % p := by
  rw [Int.mul_emod, Int.emod_emod, ← Int.mul_emod]
theorem emod_add_l (a b p : Int) : (a % p + b) % p = (a + b) % p := by
  rw [Int.add_emod, Int.emod_emod, ← Int.add_emod]
theorem emod_add_r (a b p : Int) : (a + b % p) % p = (a + b) % p := by
  rw [Int.add_emod, Int.emod_emod, ← Int.add_emod]
theorem emod_sub_r (a b p : Int) : (a - b % p) % p = (a - b) % p := by
  rw [Int.sub_emod, Int.emod_emod, ← Int.sub_emod]
theorem emod_pow_l (a p : Int) : ∀ n : Nat, (a % p) ^ n % p = a ^ n % p
  | 0 => by simp
  | n + 1 => by rw [Int.pow_succ, Int.pow_succ, Int.mul_emod, emod_pow_l a p n, Int.emod_emod, ← Int.mul_emod]
end Go.Proofs.Ytkaongcpekhbdaa.M
namespace Go.Proofs.Ytkaongcpekhbdaa.M
theorem nodup_le : ∀ (n : Nat) (l : List Nat), l.Nodup → (∀ x ∈ l, x < n) → l.length ≤ n
  | 0, l, _, h => by
    cases l with
    | nil => exact Nat.le_refl _
    | cons a l => exact absurd (h a List.mem_cons_self) (Nat.not_lt_zero _)
  | n + 1, l, hn, h => by
    have ih := nodup_le n (l.erase n) (hn.erase n) (fun x hx => by
      obtain ⟨h1, h2⟩ := hn.mem_erase_iff.1 hx
      have := h x h2
      omega)
    by_cases hm : n ∈ l
    · rw [List.length_erase_of_mem hm] at ih; omega
    · rw [List.erase_of_not_mem hm] at ih; omega
theorem onto (n : Nat) (f : Nat → Nat) (hf : ∀ i, i < n → f i < n) (hi : ∀ i j, i < j → j < n → f i ≠ f j) (x : Nat) (hx : x < n) : ∃ i, i < n ∧ f i = x := by
  refine Classical.byContradiction fun hno => ?_
  have h0 : ((List.range n).map f).Nodup := by
    rw [List.Nodup, List.pairwise_map, List.pairwise_iff_getElem]
    intro i j hi' hj' hij
    simp only [List.length_range] at hi' hj'
    simp only [List.getElem_range]
    exact hi i j hij hj'
  have h1 : (x :: (List.range n).map f).Nodup := by
    rw [List.nodup_cons]
    refine ⟨fun hm => ?_, h0⟩
    obtain ⟨i, hi1, hi2⟩ := List.mem_map.1 hm
    exact hno ⟨i, List.mem_range.1 hi1, hi2⟩
  have h2 := nodup_le n _ h1 (fun y hy => by
    rcases List.mem_cons.1 hy with rfl | hy
    · exact hx
    · obtain ⟨i, hi1, rfl⟩ := List.mem_map.1 hy
      exact hf i (List.mem_range.1 hi1))
  simp at h2
  omega
theorem pow_one_gcd (p g : Nat) (a b : Nat) : g ^ a % p = 1 % p → g ^ b % p = 1 % p → g ^ (Nat.gcd a b) % p = 1 % p := by
  induction a, b using Nat.gcd.induction with
  | H0 n => intro _ h; simpa using h
  | H1 m n hm ih =>
    intro h1 h2
    rw [Nat.gcd_rec]
    refine ih ?_ h1
    have e : g ^ n % p = g ^ (n % m) % p := by
      conv => lhs; rw [← Nat.div_add_mod n m, Nat.pow_add, Nat.pow_mul, Nat.mul_mod, Nat.pow_mod, h1, ← Nat.pow_mod, Nat.one_pow, ← Nat.mul_mod, Nat.one_mul]
    rw [← e]; exact h2
def pw (m : Nat) : Nat → Nat → Nat → Nat
  | 0, _, _ => 1
  | f + 1, a, n => if n = 0 then 1 else if n % 2 = 1 then a * pw m f (a * a % m) (n / 2) % m else pw m f (a * a % m) (n / 2)
theorem pw_eq (m : Nat) : ∀ f a n, n < 2 ^ f → pw m f a n % m = a ^ n % m
  | 0, a, n, h => by
    obtain rfl : n = 0 := by simp at h; omega
    simp [pw]
  | f + 1, a, n, h => by
    have ih := pw_eq m f (a * a % m) (n / 2) (by rw [Nat.pow_succ] at h; omega)
    have e : a ^ n = (a * a) ^ (n / 2) * a ^ (n % 2) := by
      conv => lhs; rw [← Nat.div_add_mod n 2, Nat.pow_add, Nat.pow_mul, Nat.pow_two]
    unfold pw
    by_cases h0 : n = 0
    · simp [h0]
    · rw [if_neg h0]
      by_cases h1 : n % 2 = 1
      · rw [if_pos h1, Nat.mod_mod, Nat.mul_mod, ih, ← Nat.pow_mod, ← Nat.mul_mod, e, h1, Nat.pow_one, Nat.mul_comm]
      · have h2 : n % 2 = 0 := by omega
        rw [if_neg h1, ih, ← Nat.pow_mod, e, h2, Nat.pow_zero, Nat.mul_one]
theorem cop (q m : Nat) (hq : ∀ d, d ∣ q → d = 1 ∨ d = q) (h : ¬ q ∣ m) : Nat.Coprime m q := by
  rcases hq (Nat.gcd m q) (Nat.gcd_dvd_right _ _) with e | e
  · exact e
  · exact absurd (e ▸ Nat.gcd_dvd_left m q) h
theorem fermat_of (p n g : Nat) (qs : List Nat) (hp : p = n + 1) (hn : 0 < n) (hg : g ^ n % p = 1 % p)
    (hq : ∀ q ∈ qs, g ^ (n / q) % p ≠ 1 % p) (hm : ∀ m, m ∣ n → m ≠ 1 → ∃ q ∈ qs, q ∣ m) (a : Nat) (ha : 0 < a) (hap : a < p) : a ^ n % p = 1 := by
  have hp1 : 1 % p = 1 := Nat.mod_eq_of_lt (by omega)
  have order : ∀ k, 0 < k → k < n → g ^ k % p ≠ 1 % p := by
    intro k hk hkn h
    have hd := pow_one_gcd p g k n h hg
    have h1 : Nat.gcd k n ∣ n := Nat.gcd_dvd_right _ _
    have h2 : Nat.gcd k n ≤ k := Nat.gcd_le_left _ hk
    obtain ⟨m, hm1⟩ := h1
    have hm2 : m ≠ 1 := by rintro rfl; omega
    obtain ⟨q, hq1, t, ht⟩ := hm m ⟨_, hm1.trans (Nat.mul_comm _ _)⟩ hm2
    refine hq q hq1 ?_
    have hq0 : 0 < q := by
      rcases Nat.eq_zero_or_pos q with rfl | h
      · simp at ht; subst ht; simp at hm1; omega
      · exact h
    have e : n / q = Nat.gcd k n * t := by
      refine Nat.div_eq_of_eq_mul_right hq0 ?_
      rw [Nat.mul_left_comm, ← ht]; exact hm1
    rw [e, Nat.pow_mul, Nat.pow_mod, hd, ← Nat.pow_mod, Nat.one_pow]
  have nz : ∀ i, i < n → g ^ i % p ≠ 0 := by
    intro i hi h
    have : g ^ n % p = 0 := by
      rw [show n = i + (n - i) by omega, Nat.pow_add, Nat.mul_mod, h]; simp
    omega
  have inj : ∀ i j, i < j → j < n → g ^ i % p - 1 ≠ g ^ j % p - 1 := by
    intro i j hij hj h
    have h0 := nz i (by omega)
    have h1 := nz j hj
    have e : g ^ i % p = g ^ j % p := by omega
    refine order (j - i) (by omega) (by omega) ?_
    have e1 : g ^ (j - i) % p = g ^ (j - i + n) % p := by
      rw [Nat.pow_add, Nat.mul_mod, hg, ← Nat.mul_mod, Nat.mul_one]
    rw [e1, show j - i + n = j + (n - i) by omega, Nat.pow_add, Nat.mul_mod, ← e, ← Nat.mul_mod, ← Nat.pow_add, show i + (n - i) = n by omega]
    exact hg
  obtain ⟨i, hi, e⟩ := onto n (fun i => g ^ i % p - 1) (fun i hi => by
      have h0 := nz i hi
      have h1 : g ^ i % p < p := Nat.mod_lt _ (by omega)
      show g ^ i % p - 1 < n
      omega) inj (a - 1) (by omega)
  have h0 := nz i hi
  have e1 : a = g ^ i % p := by
    have : g ^ i % p - 1 = a - 1 := e
    omega
  rw [e1, ← Nat.pow_mod, ← Nat.pow_mul, Nat.mul_comm, Nat.pow_mul, Nat.pow_mod, hg, ← Nat.pow_mod, Nat.one_pow, hp1]
theorem p2 : ∀ d, d ∣ 2 → d = 1 ∨ d = 2 := fun d h => by
  have h1 := Nat.le_of_dvd (by decide) h
  have h2 : d ≠ 0 := by
    rintro rfl
    simp at h
  omega
theorem prime_of (q s : Nat) (hs : q < s * s) (h : ∀ d, d < s → d ∣ q → d = 1) : ∀ d, d ∣ q → d = 1 ∨ d = q := by
  intro d hd
  obtain ⟨e, he⟩ := hd
  by_cases h1 : d < s
  · exact .inl (h d h1 ⟨e, he⟩)
  · by_cases h2 : e < s
    · have := h e h2 ⟨d, he.trans (Nat.mul_comm _ _)⟩
      subst this
      exact .inr (by omega)
    · have := Nat.mul_le_mul (show s ≤ d by omega) (show s ≤ e by omega)
      omega
theorem p3 : ∀ d, d ∣ 3 → d = 1 ∨ d = 3 := prime_of 3 2 (by decide) (by decide +kernel)
theorem p5 : ∀ d, d ∣ 5 → d = 1 ∨ d = 5 := prime_of 5 3 (by decide) (by decide +kernel)
theorem p17 : ∀ d, d ∣ 17 → d = 1 ∨ d = 17 := prime_of 17 5 (by decide) (by decide +kernel)
theorem p257 : ∀ d, d ∣ 257 → d = 1 ∨ d = 257 := prime_of 257 17 (by decide) (by decide +kernel)
theorem p65537 : ∀ d, d ∣ 65537 → d = 1 ∨ d = 65537 := prime_of 65537 257 (by decide) (by decide +kernel)
theorem pw_is (m f a n r : Nat) (h : n < 2 ^ f) (e : pw m f a n % m = r) : a ^ n % m = r := (pw_eq m f a n h).symm.trans e
theorem ne_of (m f a n q r : Nat) (h : n / q < 2 ^ f) (e : pw m f a (n / q) % m = r) (hr : r ≠ 1 % m) : a ^ (n / q) % m ≠ 1 % m := by
  rw [pw_is m f a (n / q) r h e]; exact hr
theorem fermat_small (a : Nat) (ha : 0 < a) (hap : a < 2013265921) : a ^ 2013265920 % 2013265921 = 1 := by
  refine fermat_of 2013265921 2013265920 31 [2, 3, 5] rfl (by decide) (pw_is 2013265921 31 31 2013265920 (1 % 2013265921) (by decide) (by decide +kernel)) ?_ ?_ a ha hap
  · intro q hq
    simp only [List.mem_cons, List.not_mem_nil, or_false] at hq
    rcases hq with rfl | rfl | rfl
    · exact ne_of 2013265921 31 31 2013265920 2 2013265920 (by decide) (by decide +kernel) (by decide)
    · exact ne_of 2013265921 31 31 2013265920 3 1314723123 (by decide) (by decide +kernel) (by decide)
    · exact ne_of 2013265921 31 31 2013265920 5 645581151 (by decide) (by decide +kernel) (by decide)
  · intro m hm h1
    refine Classical.byContradiction fun hno => h1 ?_
    have c : ∀ q, q ∈ [2, 3, 5] → ¬ q ∣ m := fun q hq hd => hno ⟨q, hq, hd⟩
    refine Nat.Coprime.eq_one_of_dvd (m := 2 ^ 27 * (3 * 5)) ?_ (by simpa using hm)
    exact ((cop 2 m p2 (c 2 (by decide))).pow_right 27).mul_right ((cop 3 m p3 (c 3 (by decide))).mul_right (cop 5 m p5 (c 5 (by decide))))
theorem fermat_large (a : Nat) (ha : 0 < a) (hap : a < 18446744069414584321) : a ^ 18446744069414584320 % 18446744069414584321 = 1 := by
  refine fermat_of 18446744069414584321 18446744069414584320 7 [2, 3, 5, 17, 257, 65537] rfl (by decide) (pw_is 18446744069414584321 64 7 18446744069414584320 (1 % 18446744069414584321) (by decide) (by decide +kernel)) ?_ ?_ a ha hap
  · intro q hq
    simp only [List.mem_cons, List.not_mem_nil, or_false] at hq
    rcases hq with rfl | rfl | rfl | rfl | rfl | rfl
    · exact ne_of 18446744069414584321 64 7 18446744069414584320 2 18446744069414584320 (by decide) (by decide +kernel) (by decide)
    · exact ne_of 18446744069414584321 64 7 18446744069414584320 3 18446744065119617025 (by decide) (by decide +kernel) (by decide)
    · exact ne_of 18446744069414584321 64 7 18446744069414584320 5 1373043270956696022 (by decide) (by decide +kernel) (by decide)
    · exact ne_of 18446744069414584321 64 7 18446744069414584320 17 16301593560560007290 (by decide) (by decide +kernel) (by decide)
    · exact ne_of 18446744069414584321 64 7 18446744069414584320 257 995085315851368103 (by decide) (by decide +kernel) (by decide)
    · exact ne_of 18446744069414584321 64 7 18446744069414584320 65537 8478886009461009681 (by decide) (by decide +kernel) (by decide)
  · intro m hm h1
    refine Classical.byContradiction fun hno => h1 ?_
    have c : ∀ q, q ∈ [2, 3, 5, 17, 257, 65537] → ¬ q ∣ m := fun q hq hd => hno ⟨q, hq, hd⟩
    refine Nat.Coprime.eq_one_of_dvd (m := 2 ^ 32 * (3 * (5 * (17 * (257 * 65537))))) ?_ (by simpa using hm)
    exact ((cop 2 m p2 (c 2 (by decide))).pow_right 32).mul_right ((cop 3 m p3 (c 3 (by decide))).mul_right ((cop 5 m p5 (c 5 (by decide))).mul_right ((cop 17 m p17 (c 17 (by decide))).mul_right ((cop 257 m p257 (c 257 (by decide))).mul_right (cop 65537 m p65537 (c 65537 (by decide)))))))
theorem fermat {p : Int} (hp : p = 2013265921 ∨ p = 18446744069414584321) {a : Int} (ha : 0 < a) (hap : a < p) : a ^ (p - 1).toNat % p = 1 := by
  obtain ⟨n, rfl⟩ := Int.eq_ofNat_of_zero_le (show 0 ≤ a by omega)
  rcases hp with rfl | rfl
  · have h := fermat_small n (by omega) (by omega)
    have : (((n ^ 2013265920 % 2013265921 : Nat)) : Int) = 1 := by rw [h]; rfl
    simpa using this
  · have h := fermat_large n (by omega) (by omega)
    have : (((n ^ 18446744069414584320 % 18446744069414584321 : Nat)) : Int) = 1 := by rw [h]; rfl
    simpa using this
end Go.Proofs.Ytkaongcpekhbdaa.M
namespace Go.Proofs.Ytkaongcpekhbdaa.M
open Go.RowKit Go Go.Proofs.YtkaongcpekhbdaaW.PrintWords Go.Proofs.YtkaongcpekhbdaaW.PrintLast Go.Proofs.YtkaongcpekhbdaaW.PrintMore
def P (f : Int) : Int := if f = 1 then 2013265921 else if f = 2 then 18446744069414584321 else 0
def wd (f : Int) : Bool := decide (f = 2)
def allIn (p : Int) (l : List Int) : Bool := l.all fun x => decide (x < p)
def ok (f : Int) (l : List Int) : Bool := decide (P f ≠ 0) && allIn (P f) l
@[reducible] def Pr (p : Int) : Prop := p = 2013265921 ∨ p = 18446744069414584321
theorem Pr.lo {p : Int} (h : Pr p) : 2013265921 ≤ p := by unfold Pr at h; omega
theorem Pr.hi {p : Int} (h : Pr p) : p ≤ 18446744069414584321 := by unfold Pr at h; omega
theorem P_pr {f : Int} (h : P f ≠ 0) : Pr (P f) := by unfold P at *; unfold Pr; split <;> (try split) <;> simp_all
theorem allIn_nil (p : Int) : allIn p [] = true := rfl
theorem allIn_cons (p x : Int) (l : List Int) : allIn p (x :: l) = (decide (x < p) && allIn p l) := rfl
theorem allIn_iff {p : Int} {l : List Int} : allIn p l = true ↔ ∀ x ∈ l, x < p := by unfold allIn; simp
theorem ok_iff {f : Int} {l : List Int} : ok f l = true ↔ P f ≠ 0 ∧ ∀ x ∈ l, x < P f := by unfold ok; simp [allIn_iff]
theorem ok_pr {f : Int} {l : List Int} (h : ok f l = true) : Pr (P f) := P_pr (ok_iff.1 h).1
def Wd (l : List Int) : Prop := ∀ x ∈ l, 0 ≤ x ∧ x < 18446744073709551616
def El (p : Int) (l : List Int) : Prop := ∀ x ∈ l, 0 ≤ x ∧ x < p
theorem Wd.el {p : Int} {l : List Int} (h : Wd l) (k : allIn p l = true) : El p l := fun x hx => ⟨(h x hx).1, allIn_iff.1 k x hx⟩
theorem Wd.of_wf {l : List Int} (h : ∀ x ∈ l, (Lit.int .u64 x).wf = true) : Wd l := fun x hx => wf_u64 (h x hx)
theorem El.wd {p : Int} {l : List Int} (h : El p l) (hp : p ≤ 18446744073709551616) : Wd l := fun x hx => ⟨(h x hx).1, Int.lt_of_lt_of_le (h x hx).2 hp⟩
theorem El.cons {p x : Int} {l : List Int} (h : 0 ≤ x ∧ x < p) (k : El p l) : El p (x :: l) := by
  intro y hy; rcases List.mem_cons.1 hy with rfl | hy
  · exact h
  · exact k y hy
theorem El.nil {p : Int} : El p [] := fun _ h => by cases h
theorem Wd.nil : Wd [] := fun _ h => by cases h
theorem Wd.cons {x : Int} {l : List Int} (h : 0 ≤ x ∧ x < 18446744073709551616) (k : Wd l) : Wd (x :: l) := by
  intro y hy; rcases List.mem_cons.1 hy with rfl | hy
  · exact h
  · exact k y hy
theorem rd_lt {l : List Int} {i : Nat} (h : i < l.length) : rd l (i : Int) = l[i] := by unfold rd; simp [h]
theorem drop_rd {l : List Int} {i : Nat} (h : i < l.length) : l.drop i = rd l (i : Int) :: l.drop (i + 1) := by
  rw [rd_lt h, List.drop_eq_getElem_cons h]
theorem take_rd {l : List Int} {i : Nat} (h : i < l.length) : l.take (i + 1) = l.take i ++ [rd l (i : Int)] := by
  rw [rd_lt h, List.take_succ_eq_append_getElem h]
theorem El.rd {p : Int} {l : List Int} (h : El p l) {i : Nat} (hi : i < l.length) : 0 ≤ rd l (i : Int) ∧ rd l (i : Int) < p := by
  rw [rd_lt hi]; exact h _ (List.getElem_mem hi)
theorem Wd.rd {l : List Int} (h : Wd l) {i : Nat} (hi : i < l.length) : 0 ≤ _root_.Go.Proofs.YtkaongcpekhbdaaW.PrintWords.rd l (i : Int) ∧ _root_.Go.Proofs.YtkaongcpekhbdaaW.PrintWords.rd l (i : Int) < 18446744073709551616 := by
  rw [rd_lt hi]; exact h _ (List.getElem_mem hi)
theorem w64_succ {i : Nat} (h : i < 4611686018427387904) : wrap64 ((i : Int) + 1) = ((i + 1 : Nat) : Int) := by unfold wrap64; omega
theorem w64_in {i : Int} (h : -9223372036854775808 ≤ i) (h1 : i < 9223372036854775808) : wrap64 i = i := by unfold wrap64; omega
end Go.Proofs.Ytkaongcpekhbdaa.M
namespace Go.Proofs.Ytkaongcpekhbdaa.M
open Go.RowKit Go Go.Proofs.YtkaongcpekhbdaaW.PrintWords Go.Proofs.YtkaongcpekhbdaaW.PrintLast Go.Proofs.YtkaongcpekhbdaaW.PrintMore
def inv (p a : Int) : Int := a ^ (p - 2).toNat % p
theorem inv_rng {p : Int} (hp : Pr p) (a : Int) : 0 ≤ inv p a ∧ inv p a < p := by
  have := hp.lo
  exact ⟨Int.emod_nonneg _ (by omega), Int.emod_lt_of_pos _ (by omega)⟩
theorem fermat_mod {p : Int} (hp : Pr p) {a : Int} (ha : a % p ≠ 0) : a ^ (p - 1).toNat % p = 1 := by
  have h := hp.lo
  have h0 : 0 ≤ a % p := Int.emod_nonneg _ (by omega)
  have h1 : a % p < p := Int.emod_lt_of_pos _ (by omega)
  rw [← emod_pow_l]
  exact fermat hp (by omega) h1
theorem inv_mul {p : Int} (hp : Pr p) {a : Int} (ha : a % p ≠ 0) : a * inv p a % p = 1 := by
  have h := hp.lo
  unfold inv
  rw [emod_mul_r, Int.mul_comm, ← Int.pow_succ, show (p - 2).toNat.succ = (p - 1).toNat by omega]
  exact fermat_mod hp ha
theorem mul_inv {p : Int} (hp : Pr p) {a : Int} (ha : a % p ≠ 0) : inv p a * a % p = 1 := by
  rw [Int.mul_comm]; exact inv_mul hp ha
theorem one_mod {p : Int} (hp : Pr p) : (1 : Int) % p = 1 := by have := hp.lo; exact Int.emod_eq_of_lt (by omega) (by omega)
theorem no_zero {p : Int} (hp : Pr p) {a b : Int} (ha : a % p ≠ 0) (hb : b % p ≠ 0) : a * b % p ≠ 0 := by
  intro e
  apply hb
  have : inv p a * (a * b) % p = b % p := by rw [← Int.mul_assoc, ← emod_mul_l, mul_inv hp ha, Int.one_mul]
  rw [← this, ← emod_mul_r, e]; simp
theorem rd_set {l : List Int} {i j : Nat} {x : Int} (h : i < l.length) : rd (l.set i x) (j : Int) = if i = j then x else rd l (j : Int) := by
  unfold rd
  simp only [Int.toNat_natCast, List.getD_eq_getElem?_getD, List.getElem?_set]
  by_cases e : i = j
  · subst e; simp [h]
  · simp [e]
theorem ext_rd {a b : List Int} (h : a.length = b.length) (k : ∀ i, i < a.length → rd a (i : Int) = rd b (i : Int)) : a = b := by
  refine List.ext_getElem h fun i h1 h2 => ?_
  have := k i h1
  rwa [rd_lt h1, rd_lt h2] at this
end Go.Proofs.Ytkaongcpekhbdaa.M
namespace Go.Proofs.Ytkaongcpekhbdaa.M
open Go.RowKit Go Go.Proofs.YtkaongcpekhbdaaW.PrintWords Go.Proofs.YtkaongcpekhbdaaW.PrintLast Go.Proofs.YtkaongcpekhbdaaW.PrintMore
def tl (l : List Int) : Nat → Nat
  | 0 => 0
  | n + 1 => if rd l (n : Int) = 0 then tl l n else n + 1
def trim (l : List Int) : List Int := l.take (tl l l.length)
theorem tl_le (l : List Int) : ∀ n, tl l n ≤ n
  | 0 => Nat.le_refl _
  | n + 1 => by
    rw [tl]; split
    · exact Nat.le_succ_of_le (tl_le l n)
    · exact Nat.le_refl _
theorem trim_len (l : List Int) : (trim l).length = tl l l.length := by
  unfold trim; rw [List.length_take]; exact Nat.min_eq_left (tl_le _ _)
theorem trim_le (l : List Int) : (trim l).length ≤ l.length := by rw [trim_len]; exact tl_le _ _
def cf (l : List Int) (i : Nat) : Int := rd l (i : Int)
theorem cf_ge {l : List Int} {i : Nat} (h : l.length ≤ i) : cf l i = 0 := by unfold cf rd; simp [h]
theorem cf_lt {l : List Int} {i : Nat} (h : i < l.length) : cf l i = l[i] := rd_lt h
theorem tl_zero (l : List Int) : ∀ n i, tl l n ≤ i → i < n → cf l i = 0
  | 0, _, _, h => absurd h (Nat.not_lt_zero _)
  | n + 1, i, h1, h2 => by
    rw [tl] at h1
    split at h1
    · rename_i c
      by_cases e : i = n
      · rw [e]; exact c
      · exact tl_zero l n i h1 (by omega)
    · omega
theorem tl_top (l : List Int) : ∀ n, tl l n ≠ 0 → cf l (tl l n - 1) ≠ 0
  | 0, h => absurd rfl h
  | n + 1, h => by
    rw [tl] at h ⊢
    split
    · rename_i c
      rw [if_pos c] at h
      exact tl_top l n h
    · rename_i c
      exact c
theorem cf_take {l : List Int} {n i : Nat} : cf (l.take n) i = if i < n then cf l i else 0 := by
  unfold cf rd
  simp only [Int.toNat_natCast, List.getD_eq_getElem?_getD, List.getElem?_take]
  split <;> rfl
theorem cf_trim (l : List Int) (i : Nat) : cf (trim l) i = cf l i := by
  unfold trim
  rw [cf_take]
  split
  · rfl
  · by_cases h : i < l.length
    · exact (tl_zero l _ i (by omega) h).symm
    · exact (cf_ge (by omega)).symm
theorem trim_top {l : List Int} (h : trim l ≠ []) : cf l ((trim l).length - 1) ≠ 0 := by
  rw [trim_len]
  refine tl_top l _ ?_
  intro e
  apply h
  rw [← List.length_eq_zero_iff, trim_len, e]
theorem ext_cf {a b : List Int} (h : a.length = b.length) (k : ∀ i, cf a i = cf b i) : a = b := ext_rd h fun i _ => k i
theorem trim_ext {a b : List Int} (h : ∀ i, cf a i = cf b i) : trim a = trim b := by
  have key : ∀ a b : List Int, (∀ i, cf a i = cf b i) → (trim a).length ≤ (trim b).length := by
    intro a b h
    by_cases c : trim a = []
    · rw [c]; exact Nat.zero_le _
    · have h1 := trim_top c
      rw [h, ← cf_trim] at h1
      have : (trim a).length ≠ 0 := fun e => c (List.length_eq_zero_iff.1 e)
      have h2 : (trim a).length - 1 < (trim b).length := Nat.lt_of_not_le fun e => h1 (cf_ge e)
      omega
  refine ext_cf (Nat.le_antisymm (key a b h) (key b a fun i => (h i).symm)) fun i => ?_
  rw [cf_trim, cf_trim, h]
theorem trim_trim (l : List Int) : trim (trim l) = trim l := trim_ext (cf_trim l)
theorem trim_nil : trim [] = [] := rfl
theorem trim_el {p : Int} {l : List Int} (h : El p l) : El p (trim l) := fun x hx => h x (List.mem_of_mem_take hx)
end Go.Proofs.Ytkaongcpekhbdaa.M
namespace Go.Proofs.Ytkaongcpekhbdaa.M
open Go.RowKit Go Go.Proofs.YtkaongcpekhbdaaW.PrintWords Go.Proofs.YtkaongcpekhbdaaW.PrintLast Go.Proofs.YtkaongcpekhbdaaW.PrintMore
def pol (n : Nat) (g : Nat → Int) : List Int := (List.range n).map g
theorem pol_len {n : Nat} {g : Nat → Int} : (pol n g).length = n := by simp [pol]
theorem cf_pol {n : Nat} {g : Nat → Int} {i : Nat} : cf (pol n g) i = if i < n then g i else 0 := by
  by_cases h : i < n
  · rw [if_pos h, cf_lt (by rw [pol_len]; exact h)]; simp [pol]
  · rw [if_neg h, cf_ge (by rw [pol_len]; omega)]
theorem pol_ext {n : Nat} {g : Nat → Int} {l : List Int} (h : l.length = n) (k : ∀ i, i < n → cf l i = g i) : l = pol n g :=
  ext_cf (by rw [pol_len, h]) fun i => by
    rw [cf_pol]; split
    · exact k i ‹_›
    · exact cf_ge (by omega)
theorem pol_congr {n : Nat} {g g' : Nat → Int} (k : ∀ i, i < n → g i = g' i) : pol n g = pol n g' :=
  pol_ext pol_len fun i hi => by rw [cf_pol, if_pos hi, k i hi]
theorem pol_set {n m : Nat} {g : Nat → Int} {v : Int} (h : m < n) : (pol n g).set m v = pol n (fun i => if i = m then v else g i) :=
  pol_ext (by rw [List.length_set, pol_len]) fun i hi => by
    have e := rd_set (l := pol n g) (i := m) (j := i) (x := v) (by rw [pol_len]; exact h)
    have c := cf_pol (n := n) (g := g) (i := i)
    rw [if_pos hi] at c
    unfold cf at *
    rw [e, c]
    by_cases q : m = i
    · rw [if_pos q, if_pos q.symm]
    · rw [if_neg q, if_neg (fun z => q z.symm)]
theorem pol_zero (n : Nat) : List.replicate n (0 : Int) = pol n (fun _ => 0) :=
  pol_ext (by simp) fun i hi => by rw [cf_lt (by simpa using hi)]; simp
theorem pol_el {p : Int} {n : Nat} {g : Nat → Int} (k : ∀ i, i < n → 0 ≤ g i ∧ g i < p) : El p (pol n g) := by
  intro x hx
  obtain ⟨i, hi, rfl⟩ := List.mem_map.1 hx
  exact k i (List.mem_range.1 hi)
theorem cf_el {p : Int} {l : List Int} (h : El p l) (hp : 0 < p) (i : Nat) : 0 ≤ cf l i ∧ cf l i < p := by
  by_cases c : i < l.length
  · exact h.rd c
  · rw [cf_ge (by omega)]; exact ⟨Int.le_refl _, hp⟩
theorem cf_nil (i : Nat) : cf [] i = 0 := cf_ge (Nat.zero_le _)
def bad (f : Int) (a b : List Int) : Int := if ok f a = true ∧ ok f b = true then (if a.length ≤ 4096 ∧ b.length ≤ 4096 then 0 else 4) else 2
theorem bad_zero {f : Int} {a b : List Int} (h : bad f a b = 0) : ok f a = true ∧ ok f b = true ∧ a.length ≤ 4096 ∧ b.length ≤ 4096 := by
  unfold bad at h
  split at h
  · rename_i c
    split at h
    · rename_i d; exact ⟨c.1, c.2, d.1, d.2⟩
    · cases h
  · cases h
def cv (a b : List Int) : Nat → Nat → Int
  | 0, _ => 0
  | m + 1, n => cv a b m n + (if m ≤ n then cf a m * cf b (n - m) else 0)
def mulP (p : Int) (a b : List Int) : List Int := if a = [] ∨ b = [] then [] else pol (a.length + b.length - 1) fun n => cv a b a.length n % p
def row (p : Int) (a b : List Int) (m j n : Nat) : Int := (cv a b m n + (if m ≤ n ∧ n < m + j then cf a m * cf b (n - m) else 0)) % p
theorem row_zero (p : Int) (a b : List Int) (m n : Nat) : row p a b m 0 n = cv a b m n % p := by
  unfold row; rw [if_neg (by omega), Int.add_zero]
theorem row_last (p : Int) (a b : List Int) (m n : Nat) : row p a b m b.length n = cv a b (m + 1) n % p := by
  unfold row; rw [cv]
  by_cases h : m ≤ n
  · rw [if_pos h]
    by_cases k : n < m + b.length
    · rw [if_pos ⟨h, k⟩]
    · rw [if_neg (fun z => k z.2), cf_ge (show b.length ≤ n - m by omega)]; simp
  · rw [if_neg h, if_neg (fun z => h z.1)]
theorem row_step (p : Int) (a b : List Int) (m j : Nat) : (row p a b m j (m + j) + cf a m * cf b j % p) % p = row p a b m (j + 1) (m + j) := by
  unfold row
  rw [if_neg (by omega), if_pos (by omega), Int.add_zero, show m + j - m = j by omega, emod_add_l, emod_add_r]
theorem row_other (p : Int) (a b : List Int) (m j n : Nat) (h : n ≠ m + j) : row p a b m (j + 1) n = row p a b m j n := by
  unfold row
  by_cases c : m ≤ n ∧ n < m + j
  · rw [if_pos c, if_pos ⟨c.1, by omega⟩]
  · rw [if_neg c, if_neg (fun z => c ⟨z.1, by omega⟩)]
theorem row_set {p : Int} {a b : List Int} {m j N : Nat} (h : m + j < N) : (pol N (row p a b m j)).set (m + j) ((row p a b m j (m + j) + cf a m * cf b j % p) % p) = pol N (row p a b m (j + 1)) := by
  rw [pol_set h, row_step]
  refine pol_congr fun i _ => ?_
  by_cases c : i = m + j
  · rw [if_pos c, c]
  · rw [if_neg c, row_other p a b m j i c]
theorem row_rng {p : Int} (hp : 0 < p) (a b : List Int) (m j n : Nat) : 0 ≤ row p a b m j n ∧ row p a b m j n < p := ⟨Int.emod_nonneg _ (by omega), Int.emod_lt_of_pos _ hp⟩
theorem cv_top (a b : List Int) : ∀ m, m < a.length → cv a b m (a.length + b.length - 2) = 0
  | 0, _ => rfl
  | m + 1, h => by
    rw [cv, cv_top a b m (by omega)]
    split
    · rw [cf_ge (l := b) (by omega)]; simp
    · simp
theorem mulP_top {p : Int} (hp : Pr p) {a b : List Int} (ha : trim a = a) (hb : trim b = b) (ea : El p a) (eb : El p b) : trim (mulP p a b) = mulP p a b := by
  unfold mulP
  split
  · rfl
  · rename_i c
    have ca : a ≠ [] := fun e => c (.inl e)
    have cb : b ≠ [] := fun e => c (.inr e)
    have la : a.length ≠ 0 := fun e => ca (List.length_eq_zero_iff.1 e)
    have lb : b.length ≠ 0 := fun e => cb (List.length_eq_zero_iff.1 e)
    have ta := trim_top (l := a) (by rw [ha]; exact ca)
    have tb := trim_top (l := b) (by rw [hb]; exact cb)
    rw [ha] at ta; rw [hb] at tb
    have hp0 := hp.lo
    have ra := cf_el ea (by omega) (a.length - 1)
    have rb := cf_el eb (by omega) (b.length - 1)
    have top : cv a b a.length (a.length + b.length - 2) % p ≠ 0 := by
      obtain ⟨m, hm⟩ : ∃ m, a.length = m + 1 := ⟨a.length - 1, by omega⟩
      have z := cv_top a b m (by omega)
      have e : cv a b a.length (a.length + b.length - 2) = cf a (a.length - 1) * cf b (b.length - 1) := by
        conv => lhs; arg 3; rw [hm]
        rw [cv, z, if_pos (by omega), Int.zero_add, show a.length - 1 = m by omega, show a.length + b.length - 2 - m = b.length - 1 by omega]
      rw [e]
      exact no_zero hp (by rw [Int.emod_eq_of_lt ra.1 ra.2]; exact ta) (by rw [Int.emod_eq_of_lt rb.1 rb.2]; exact tb)
    generalize hL : pol (a.length + b.length - 1) (fun n => cv a b a.length n % p) = L
    have hlen : L.length = a.length + b.length - 1 := by rw [← hL, pol_len]
    have htop : cf L (L.length - 1) ≠ 0 := by
      rw [hlen, ← hL, cf_pol, if_pos (by omega), show a.length + b.length - 1 - 1 = a.length + b.length - 2 by omega]
      exact top
    have h1 : (trim L).length = L.length := by
      refine Nat.le_antisymm (trim_le L) (Nat.le_of_not_lt fun q => htop ?_)
      rw [← cf_trim]
      exact cf_ge (by omega)
    exact ext_cf h1 fun i => cf_trim L i
def Pmul (f : Int) (a b : List Int) : List Int × Int :=
  if bad f a b = 0 then (if trim a = [] ∨ trim b = [] then ([], 0) else if (trim a).length + (trim b).length - 1 > 4096 then ([], 4) else (mulP (P f) (trim a) (trim b), 0)) else ([], bad f a b)
end Go.Proofs.Ytkaongcpekhbdaa.M
namespace Go.Proofs.Ytkaongcpekhbdaa.M
open Go.RowKit Go Go.Proofs.YtkaongcpekhbdaaW.PrintWords Go.Proofs.YtkaongcpekhbdaaW.PrintLast Go.Proofs.YtkaongcpekhbdaaW.PrintMore
def sm (l : List Int) (x : Int) : Nat → Int
  | 0 => 0
  | m + 1 => sm l x m + cf l m * x ^ m
theorem cf_cons_zero (c : Int) (r : List Int) : cf (c :: r) 0 = c := rfl
theorem cf_cons_succ (c : Int) (r : List Int) (m : Nat) : cf (c :: r) (m + 1) = cf r m := by
  unfold cf rd; simp
theorem sm_cons (c : Int) (r : List Int) (x : Int) : ∀ m, sm (c :: r) x (m + 1) = c + x * sm r x m
  | 0 => by simp [sm, cf_cons_zero]
  | m + 1 => by
    rw [sm, sm_cons c r x m, cf_cons_succ, sm, Int.pow_succ]
    grind
theorem horner (p x : Int) : ∀ l : List Int, l.foldr (fun c s => (s * x % p + c) % p) 0 = sm l x l.length % p
  | [] => by simp [sm]
  | c :: r => by
    rw [List.foldr_cons, horner p x r, List.length_cons, sm_cons, emod_mul_l, emod_add_l]
    congr 1; grind
end Go.Proofs.Ytkaongcpekhbdaa.M
namespace Go.Proofs.Ytkaongcpekhbdaa.M
open Go.RowKit Go Go.Proofs.YtkaongcpekhbdaaW.PrintWords Go.Proofs.YtkaongcpekhbdaaW.PrintLast Go.Proofs.YtkaongcpekhbdaaW.PrintMore
def ev (l : List Int) (x : Int) : Int := sm l x l.length
theorem sm_ge {l : List Int} {x : Int} : ∀ n, l.length ≤ n → sm l x n = ev l x := by
  intro n h
  induction n with
  | zero => unfold ev; rw [show l.length = 0 by omega]
  | succ n ih =>
    by_cases c : l.length = n + 1
    · unfold ev; rw [c]
    · rw [sm, ih (by omega), cf_ge (by omega)]; simp
theorem sm_congr {a b : List Int} {x : Int} (h : ∀ i, cf a i = cf b i) : ∀ n, sm a x n = sm b x n
  | 0 => rfl
  | n + 1 => by rw [sm, sm, sm_congr h n, h]
theorem ev_congr {a b : List Int} (h : ∀ i, cf a i = cf b i) (x : Int) : ev a x = ev b x := by
  rw [← sm_ge (max a.length b.length) (by omega), ← sm_ge (l := b) (max a.length b.length) (by omega), sm_congr h]
theorem ev_nil (x : Int) : ev [] x = 0 := rfl
theorem ev_cons (c : Int) (r : List Int) (x : Int) : ev (c :: r) x = c + x * ev r x := by
  unfold ev; rw [List.length_cons, sm_cons]
theorem ev_trim (l : List Int) (x : Int) : ev (trim l) x = ev l x := ev_congr (cf_trim l) x
theorem sm_lin {a b c : List Int} {s t : Int} {x : Int} (h : ∀ i, cf c i = s * cf a i + t * cf b i) : ∀ n, sm c x n = s * sm a x n + t * sm b x n
  | 0 => by simp [sm]
  | n + 1 => by rw [sm, sm, sm, sm_lin h n, h]; grind
theorem ev_lin {a b c : List Int} {s t : Int} (x : Int) (h : ∀ i, cf c i = s * cf a i + t * cf b i) : ev c x = s * ev a x + t * ev b x := by
  rw [← sm_ge (max a.length (max b.length c.length)) (by omega), ← sm_ge (l := a) (max a.length (max b.length c.length)) (by omega), ← sm_ge (l := b) (max a.length (max b.length c.length)) (by omega), sm_lin h]
theorem sm_shift {a c : List Int} {k : Int} {m : Nat} {x : Int} (h : ∀ i, cf c i = if m ≤ i then k * cf a (i - m) else 0) : ∀ n, sm c x (n + m) = k * x ^ m * sm a x n := by
  have z : ∀ n, n ≤ m → sm c x n = 0 := by
    intro n
    induction n with
    | zero => intro _; rfl
    | succ n ih => intro hn; rw [sm, ih (by omega), h, if_neg (by omega)]; simp
  intro n
  induction n with
  | zero => rw [Nat.zero_add, z m (Nat.le_refl _)]; simp [sm]
  | succ n ih =>
    rw [show n + 1 + m = (n + m) + 1 by omega, sm, ih, h, if_pos (by omega), Nat.add_sub_cancel, sm, Int.pow_add]
    grind
theorem ev_shift {a c : List Int} {k : Int} {m : Nat} (x : Int) (h : ∀ i, cf c i = if m ≤ i then k * cf a (i - m) else 0) : ev c x = k * x ^ m * ev a x := by
  rw [← sm_ge (max a.length c.length + m) (by omega), sm_shift h, sm_ge _ (by omega)]
theorem ev_cv {a b : List Int} (x : Int) : ∀ (m : Nat) (c : List Int), (∀ i, cf c i = cv a b m i) → ev c x = sm a x m * ev b x
  | 0, c, h => by
    rw [ev_congr (b := []) (fun i => by rw [h, cf_nil]; rfl), ev_nil, sm]; simp
  | m + 1, c, h => by
    have zcv : ∀ (k i : Nat), k + b.length ≤ i → cv a b k i = 0 := by
      intro k
      induction k with
      | zero => intro i _; rfl
      | succ k ih =>
        intro i hi
        rw [cv, ih i (by omega)]
        split
        · rw [cf_ge (l := b) (by omega)]; simp
        · simp
    have h1 : ∀ i, cf (pol (m + b.length) (cv a b m)) i = cv a b m i := fun i => by
      rw [cf_pol]; split
      · rfl
      · exact (zcv m i (by omega)).symm
    have e1 := ev_cv x m _ h1
    have h2 : ∀ i, cf (pol (m + b.length) fun i => if m ≤ i then cf a m * cf b (i - m) else 0) i = if m ≤ i then cf a m * cf b (i - m) else 0 := fun i => by
      rw [cf_pol]; split
      · rfl
      · split
        · rw [cf_ge (l := b) (by omega)]; simp
        · rfl
    have e2 := ev_shift x h2
    have e3 := ev_lin (c := c) (a := pol (m + b.length) (cv a b m)) (b := pol (m + b.length) fun i => if m ≤ i then cf a m * cf b (i - m) else 0) (s := 1) (t := 1) x (fun i => by rw [h, cv, h1 i, h2 i]; simp)
    rw [e3, e1, e2, sm]
    grind
theorem ev_zero : ∀ (l : List Int), (∃ N, ∀ x, N < x → ev l x = 0) → ∀ i, cf l i = 0
  | [], _, i => cf_nil i
  | c :: r, ⟨N, h⟩, i => by
    have hc : c = 0 := by
      let x : Int := max (max N c.natAbs) 0 + 1
      have hx : N < x := by omega
      have hx2 : (c.natAbs : Int) < x := by omega
      have e := h x hx
      rw [ev_cons] at e
      have d : x ∣ c := ⟨- ev r x, by grind⟩
      have d2 := Int.natAbs_dvd_natAbs.2 d
      by_cases z : c = 0
      · exact z
      · have := Nat.le_of_dvd (by omega) d2
        omega
    have hr := ev_zero r ⟨max N 0, fun x hx => by
      have e := h x (by omega)
      rw [ev_cons, hc, Int.zero_add] at e
      rcases Int.mul_eq_zero.1 e with e | e
      · omega
      · exact e⟩
    cases i with
    | zero => rw [cf_cons_zero]; exact hc
    | succ i => rw [cf_cons_succ]; exact hr i
def Pf (φ : Int → Int) : Prop := ∃ l, ∀ x, φ x = ev l x
theorem Pf.of (l : List Int) : Pf (ev l) := ⟨l, fun _ => rfl⟩
theorem Pf.const (c : Int) : Pf fun _ => c := ⟨[c], fun x => by rw [ev_cons, ev_nil]; simp⟩
theorem Pf.X : Pf fun x => x := ⟨[0, 1], fun x => by simp [ev_cons, ev_nil]⟩
theorem Pf.lin {φ ψ : Int → Int} (s t : Int) (h : Pf φ) (k : Pf ψ) : Pf fun x => s * φ x + t * ψ x := by
  obtain ⟨a, ha⟩ := h
  obtain ⟨b, hb⟩ := k
  refine ⟨pol (max a.length b.length) fun i => s * cf a i + t * cf b i, fun x => ?_⟩
  dsimp only
  rw [ha, hb]
  refine (ev_lin x fun i => ?_).symm
  rw [cf_pol]; split
  · rfl
  · rw [cf_ge (l := a) (by omega), cf_ge (l := b) (by omega)]; simp
theorem Pf.congr {φ ψ : Int → Int} (h : Pf φ) (e : ∀ x, ψ x = φ x) : Pf ψ := by
  obtain ⟨a, ha⟩ := h
  exact ⟨a, fun x => (e x).trans (ha x)⟩
theorem Pf.add {φ ψ : Int → Int} (h : Pf φ) (k : Pf ψ) : Pf fun x => φ x + ψ x := (Pf.lin 1 1 h k).congr fun x => by simp
theorem Pf.sub {φ ψ : Int → Int} (h : Pf φ) (k : Pf ψ) : Pf fun x => φ x - ψ x := (Pf.lin 1 (-1) h k).congr fun x => by grind
theorem Pf.neg {φ : Int → Int} (h : Pf φ) : Pf fun x => - φ x := (Pf.lin (-1) 0 h h).congr fun x => by grind
theorem Pf.mulL {ψ : Int → Int} (k : Pf ψ) : ∀ a : List Int, Pf fun x => ev a x * ψ x
  | [] => (Pf.const 0).congr fun x => by rw [ev_nil]; simp
  | c :: r => by
    have ih := Pf.mulL k r
    have sh : Pf fun x => x * (ev r x * ψ x) := by
      obtain ⟨l, hl⟩ := ih
      exact ⟨0 :: l, fun x => by rw [ev_cons, ← hl x]; simp⟩
    exact (Pf.lin c 1 k sh).congr fun x => by rw [ev_cons]; grind
theorem Pf.mul {φ ψ : Int → Int} (h : Pf φ) (k : Pf ψ) : Pf fun x => φ x * ψ x := by
  obtain ⟨a, ha⟩ := h
  exact (Pf.mulL k a).congr fun x => by rw [ha]
def Cg (p : Int) (φ ψ : Int → Int) : Prop := ∃ δ, Pf δ ∧ ∀ x, φ x = ψ x + p * δ x
theorem Cg.refl {p : Int} (φ : Int → Int) : Cg p φ φ := ⟨fun _ => 0, Pf.const 0, fun x => by simp⟩
theorem Cg.of {p : Int} {φ ψ : Int → Int} (h : ∀ x, φ x = ψ x) : Cg p φ ψ := ⟨fun _ => 0, Pf.const 0, fun x => by rw [h]; simp⟩
theorem Cg.symm {p : Int} {φ ψ : Int → Int} (h : Cg p φ ψ) : Cg p ψ φ := by
  obtain ⟨d, hd, e⟩ := h
  exact ⟨fun x => - d x, hd.neg, fun x => by rw [e]; grind⟩
theorem Cg.trans {p : Int} {φ ψ χ : Int → Int} (h : Cg p φ ψ) (k : Cg p ψ χ) : Cg p φ χ := by
  obtain ⟨d, hd, e⟩ := h
  obtain ⟨d2, hd2, e2⟩ := k
  exact ⟨fun x => d x + d2 x, hd.add hd2, fun x => by dsimp only; rw [e, e2]; grind⟩
theorem Cg.add {p : Int} {φ ψ φ' ψ' : Int → Int} (h : Cg p φ ψ) (k : Cg p φ' ψ') : Cg p (fun x => φ x + φ' x) (fun x => ψ x + ψ' x) := by
  obtain ⟨d, hd, e⟩ := h
  obtain ⟨d2, hd2, e2⟩ := k
  exact ⟨fun x => d x + d2 x, hd.add hd2, fun x => by dsimp only; rw [e, e2]; grind⟩
theorem Cg.sub {p : Int} {φ ψ φ' ψ' : Int → Int} (h : Cg p φ ψ) (k : Cg p φ' ψ') : Cg p (fun x => φ x - φ' x) (fun x => ψ x - ψ' x) := by
  obtain ⟨d, hd, e⟩ := h
  obtain ⟨d2, hd2, e2⟩ := k
  exact ⟨fun x => d x - d2 x, hd.sub hd2, fun x => by dsimp only; rw [e, e2]; grind⟩
theorem Cg.mul {p : Int} {φ ψ φ' ψ' : Int → Int} (h : Cg p φ ψ) (k : Cg p φ' ψ') (hψ : Pf ψ) (hφ' : Pf φ') : Cg p (fun x => φ x * φ' x) (fun x => ψ x * ψ' x) := by
  obtain ⟨d, hd, e⟩ := h
  obtain ⟨d2, hd2, e2⟩ := k
  exact ⟨fun x => d x * φ' x + ψ x * d2 x, (hd.mul hφ').add (hψ.mul hd2), fun x => by dsimp only; rw [e x, e2 x]; grind⟩
theorem Cg.at {p : Int} {φ ψ : Int → Int} (h : Cg p φ ψ) (x : Int) : φ x % p = ψ x % p := by
  obtain ⟨d, _, e⟩ := h
  rw [e]; simp
theorem Cg.of_cf {p : Int} {a b : List Int} (h : ∀ i, cf a i % p = cf b i % p) : Cg p (ev a) (ev b) := by
  refine ⟨ev (pol (max a.length b.length) fun i => (cf a i - cf b i) / p), Pf.of _, fun x => ?_⟩
  have e : ∀ i, cf (pol (max a.length b.length) fun i => (cf a i - cf b i) / p) i = (cf a i - cf b i) / p := fun i => by
    rw [cf_pol]; split
    · rfl
    · rw [cf_ge (l := a) (by omega), cf_ge (l := b) (by omega)]; simp
  have k := ev_lin (c := a) (s := 1) (t := p) (a := b) (b := pol (max a.length b.length) fun i => (cf a i - cf b i) / p) x (fun i => by
    rw [e]
    have d : p ∣ cf a i - cf b i := Int.dvd_of_emod_eq_zero (by rw [Int.sub_emod, h]; simp)
    rw [Int.mul_ediv_cancel' d]; grind)
  rw [k]; grind
theorem Cg.cf {p : Int} {a b : List Int} (h : Cg p (ev a) (ev b)) (i : Nat) : cf a i % p = cf b i % p := by
  obtain ⟨d, ⟨l, hl⟩, e⟩ := h
  have z : ∀ j, M.cf (pol (max a.length (max b.length l.length)) fun j => M.cf a j - M.cf b j - p * M.cf l j) j = M.cf a j - M.cf b j - p * M.cf l j := fun j => by
    rw [cf_pol]; split
    · rfl
    · rw [cf_ge (l := a) (by omega), cf_ge (l := b) (by omega), cf_ge (l := l) (by omega)]; simp
  have k1 : ∀ j, M.cf (pol (max a.length b.length) fun j => M.cf a j - M.cf b j) j = M.cf a j - M.cf b j := fun j => by
    rw [cf_pol]; split
    · rfl
    · rw [cf_ge (l := a) (by omega), cf_ge (l := b) (by omega)]; simp
  have y := ev_zero (pol (max a.length (max b.length l.length)) fun j => M.cf a j - M.cf b j - p * M.cf l j) ⟨0, fun x _ => by
    rw [ev_lin (s := 1) (t := -p) (a := pol (max a.length b.length) fun j => M.cf a j - M.cf b j) (b := l) x (fun j => by rw [z, k1]; grind),
      ev_lin (c := pol (max a.length b.length) fun j => M.cf a j - M.cf b j) (s := 1) (t := -1) (a := a) (b := b) x (fun j => by rw [k1]; grind), e, hl]
    grind⟩ i
  rw [z] at y
  have e2 : M.cf a i = M.cf b i + p * M.cf l i := by omega
  rw [e2]; simp
theorem Cg.same {p : Int} (hp : 0 < p) {a b : List Int} (h : Cg p (ev a) (ev b)) (ea : El p a) (eb : El p b) (ta : trim a = a) (tb : trim b = b) : a = b := by
  rw [← ta, ← tb]
  refine trim_ext fun i => ?_
  have k := h.cf i
  rwa [Int.emod_eq_of_lt (cf_el ea hp i).1 (cf_el ea hp i).2, Int.emod_eq_of_lt (cf_el eb hp i).1 (cf_el eb hp i).2] at k
theorem Cg.trim {p : Int} (l : List Int) : Cg p (ev (M.trim l)) (ev l) := Cg.of (ev_trim l)
theorem Cg.pol {p : Int} {n : Nat} {g : Nat → Int} {l : List Int} (h : ∀ i, M.cf l i % p = (if i < n then g i else 0) % p) : Cg p (ev (M.pol n g)) (ev l) :=
  Cg.of_cf fun i => by rw [cf_pol, h]
theorem cv_ge (a b : List Int) : ∀ (k i : Nat), k + b.length ≤ i + 1 → b ≠ [] → k ≤ i + 1 → cv a b k i = 0
  | 0, _, _, _, _ => rfl
  | k + 1, i, h, hb, hk => by
    rw [cv, cv_ge a b k i (by omega) hb (by omega)]
    have : b.length ≠ 0 := fun e => hb (List.length_eq_zero_iff.1 e)
    split
    · rw [cf_ge (l := b) (by omega)]; simp
    · simp
theorem mulP_cg (p : Int) (a b : List Int) : Cg p (ev (mulP p a b)) (fun x => ev a x * ev b x) := by
  unfold mulP
  split
  · rename_i h
    refine Cg.of fun x => ?_
    rcases h with rfl | rfl <;> simp [ev_nil]
  · rename_i h
    have hb : b ≠ [] := fun z => h (.inr z)
    have hb0 : b.length ≠ 0 := fun e => hb (List.length_eq_zero_iff.1 e)
    have ha0 : a.length ≠ 0 := fun e => h (.inl (List.length_eq_zero_iff.1 e))
    have e : ∀ i, M.cf (M.pol (a.length + b.length - 1) (cv a b a.length)) i = cv a b a.length i := fun i => by
      rw [cf_pol]; split
      · rfl
      · exact (cv_ge a b a.length i (by omega) hb (by omega)).symm
    refine (Cg.of_cf (b := M.pol (a.length + b.length - 1) (cv a b a.length)) fun i => ?_).trans (Cg.of fun x => ev_cv x _ _ e)
    rw [cf_pol, cf_pol]; split
    · rw [Int.emod_emod]
    · rfl
structure Cn (p : Int) (l : List Int) : Prop where
  el : El p l
  tr : trim l = l
theorem Cn.nil {p : Int} : Cn p [] := ⟨El.nil, trim_nil⟩
theorem Cn.trim {p : Int} {l : List Int} (h : El p l) : Cn p (M.trim l) := ⟨trim_el h, trim_trim l⟩
theorem mulP_el {p : Int} (hp : 0 < p) (a b : List Int) : El p (mulP p a b) := by
  unfold mulP; split
  · exact El.nil
  · exact pol_el fun i _ => ⟨Int.emod_nonneg _ (by omega), Int.emod_lt_of_pos _ hp⟩
theorem mulP_cn {p : Int} (hp : Pr p) {a b : List Int} (ha : Cn p a) (hb : Cn p b) : Cn p (mulP p a b) := ⟨mulP_el (by have := hp.lo; omega) a b, mulP_top hp ha.tr hb.tr ha.el hb.el⟩
theorem mulP_len {p : Int} {a b : List Int} (ha : a ≠ []) (hb : b ≠ []) : (mulP p a b).length = a.length + b.length - 1 := by
  unfold mulP; rw [if_neg (fun z => by rcases z with z | z <;> contradiction), pol_len]
theorem Cn.ext {p : Int} (hp : 0 < p) {a b : List Int} (ha : Cn p a) (hb : Cn p b) (h : Cg p (ev a) (ev b)) : a = b := h.same hp ha.el hb.el ha.tr hb.tr
theorem Cn.top {p : Int} {l : List Int} (h : Cn p l) (hl : l ≠ []) : M.cf l (l.length - 1) ≠ 0 := by
  have t := trim_top (l := l) (by rw [h.tr]; exact hl)
  rwa [h.tr] at t
end Go.Proofs.Ytkaongcpekhbdaa.M
namespace Go.Proofs.Ytkaongcpekhbdaa.M
open Go.RowKit Go Go.Proofs.YtkaongcpekhbdaaW.PrintWords Go.Proofs.YtkaongcpekhbdaaW.PrintLast Go.Proofs.YtkaongcpekhbdaaW.PrintMore
def stepR (p c : Int) (d : Nat) (q r : List Int) : List Int := trim (pol r.length fun i => if d ≤ i then (cf r i - c * cf q (i - d)) % p else cf r i)
def dm (p top : Int) (q : List Int) : Nat → (Nat → Int) → List Int → (Nat → Int) × List Int
  | 0, g, r => (g, r)
  | n + 1, g, r => if r.length < q.length then (g, r) else
      dm p top q n (fun i => if i = r.length - q.length then cf r (r.length - 1) * top % p else g i) (stepR p (cf r (r.length - 1) * top % p) (r.length - q.length) q r)
theorem stepR_cn {p : Int} (hp : 0 < p) (c : Int) (d : Nat) (q : List Int) {r : List Int} (h : Cn p r) : Cn p (stepR p c d q r) := by
  refine Cn.trim (pol_el fun i _ => ?_)
  split
  · exact ⟨Int.emod_nonneg _ (by omega), Int.emod_lt_of_pos _ hp⟩
  · exact cf_el h.el hp i
theorem stepR_len {p : Int} (hp : Pr p) {top : Int} {q r : List Int} (hq0 : q ≠ []) (hr : Cn p r) (hl : q.length ≤ r.length) (ht : cf q (q.length - 1) * top % p = 1) :
    (stepR p (cf r (r.length - 1) * top % p) (r.length - q.length) q r).length < r.length := by
  have hlo := hp.lo
  have q0 : q.length ≠ 0 := fun e => hq0 (List.length_eq_zero_iff.1 e)
  have le : (stepR p (cf r (r.length - 1) * top % p) (r.length - q.length) q r).length ≤ r.length := Nat.le_trans (trim_le _) (by rw [pol_len]; exact Nat.le_refl _)
  refine Nat.lt_of_le_of_ne le fun e => ?_
  have hc := stepR_cn (by omega) (cf r (r.length - 1) * top % p) (r.length - q.length) q hr
  have t := hc.top (fun z => by rw [z] at e; simp at e; omega)
  rw [e] at t
  apply t
  unfold stepR
  rw [cf_trim, cf_pol, if_pos (by omega), if_pos (by omega), show r.length - 1 - (r.length - q.length) = q.length - 1 by omega]
  have k : (cf r (r.length - 1) * top % p) * cf q (q.length - 1) % p = cf r (r.length - 1) % p := by
    rw [emod_mul_l, Int.mul_assoc, Int.mul_comm top, ← emod_mul_r, ht, Int.mul_one]
  rw [← emod_sub_r, k, emod_sub_r, Int.sub_self, Int.zero_emod]
theorem stepR_cg (p c : Int) (d : Nat) (q r : List Int) (h : d + q.length ≤ r.length) : Cg p (ev (stepR p c d q r)) (fun x => ev r x - c * x ^ d * ev q x) := by
  refine (Cg.trim _).trans ?_
  have e : ∀ i, cf (pol r.length fun i => if d ≤ i then cf r i - c * cf q (i - d) else cf r i) i = if d ≤ i then cf r i - c * cf q (i - d) else cf r i := fun i => by
    rw [cf_pol]; split
    · rfl
    · rw [cf_ge (l := r) (by omega)]
      split
      · rw [cf_ge (l := q) (by omega)]; simp
      · rfl
  have s : ∀ i, cf (pol r.length fun i => if d ≤ i then c * cf q (i - d) else 0) i = if d ≤ i then c * cf q (i - d) else 0 := fun i => by
    rw [cf_pol]; split
    · rfl
    · split
      · rw [cf_ge (l := q) (by omega)]; simp
      · rfl
  refine (Cg.of_cf (b := pol r.length fun i => if d ≤ i then cf r i - c * cf q (i - d) else cf r i) fun i => ?_).trans (Cg.of fun x => ?_)
  · rw [cf_pol, cf_pol]; split
    · split
      · rw [Int.emod_emod]
      · rfl
    · rfl
  · rw [ev_lin (s := 1) (t := -1) (a := r) (b := pol r.length fun i => if d ≤ i then c * cf q (i - d) else 0) x (fun j => by rw [e, s]; split <;> grind), ev_shift x s]
    grind
theorem ev_put {N d : Nat} {c : Int} {g : Nat → Int} (hd : d < N) (hg : g d = 0) (x : Int) : ev (pol N fun i => if i = d then c else g i) x = ev (pol N g) x + c * x ^ d := by
  have s : ∀ i, cf (pol N fun i => if i = d then c else 0) i = if d ≤ i then c * cf [1] (i - d) else 0 := fun i => by
    rw [cf_pol]
    by_cases h : i = d
    · rw [if_pos (by omega), if_pos h, if_pos (by omega), h, Nat.sub_self]; simp [cf_cons_zero]
    · rw [if_neg h]
      by_cases h2 : d ≤ i
      · rw [if_pos h2, cf_ge (l := [1]) (by simp; omega)]; simp
      · rw [if_neg h2]; simp
  rw [ev_lin (s := 1) (t := 1) (a := pol N g) (b := pol N fun i => if i = d then c else 0) x (fun j => by
    rw [cf_pol, cf_pol, cf_pol]
    by_cases h : j = d
    · subst h; simp [hg]
    · simp [h]), ev_shift x s]
  simp [ev_cons, ev_nil]
theorem dm_inv {p : Int} (hp : Pr p) {q : List Int} (hq0 : q ≠ []) {top : Int} (ht : cf q (q.length - 1) * top % p = 1) (L : Nat) : ∀ (n : Nat) (g : Nat → Int) (r : List Int), Cn p r → r.length ≤ n → r.length ≤ L →
    (∀ i, (i + q.length ≤ r.length ∨ L < i + q.length) → g i = 0) → (∀ i, 0 ≤ g i ∧ g i < p) →
    Cn p (dm p top q n g r).2 ∧ (dm p top q n g r).2.length < q.length ∧ (∀ i, L < i + q.length → (dm p top q n g r).1 i = 0) ∧ (∀ i, 0 ≤ (dm p top q n g r).1 i ∧ (dm p top q n g r).1 i < p) ∧
      ∀ N, L + 1 ≤ N + q.length → Cg p (fun x => ev (pol N (dm p top q n g r).1) x * ev q x + ev (dm p top q n g r).2 x) (fun x => ev (pol N g) x * ev q x + ev r x) := by
  have hlo := hp.lo
  have q0 : q.length ≠ 0 := fun e => hq0 (List.length_eq_zero_iff.1 e)
  intro n
  induction n with
  | zero =>
    intro g r hr hn hL hg hb
    exact ⟨hr, by show r.length < _; omega, fun i hi => hg i (.inr hi), hb, fun N _ => Cg.refl _⟩
  | succ n ih =>
    intro g r hr hn hL hg hb
    rw [dm]
    by_cases c : r.length < q.length
    · rw [if_pos c]
      exact ⟨hr, c, fun i hi => hg i (.inr hi), hb, fun N _ => Cg.refl _⟩
    · rw [if_neg c]
      have hl := stepR_len hp hq0 hr (by omega) ht
      have hc := stepR_cn (by omega) (cf r (r.length - 1) * top % p) (r.length - q.length) q hr
      obtain ⟨a1, a2, a3, a4, a5⟩ := ih (fun i => if i = r.length - q.length then cf r (r.length - 1) * top % p else g i) _ hc (by omega) (by omega)
        (fun i hi => by
          rw [if_neg (by omega)]
          exact hg i (by omega))
        (fun i => by
          split
          · exact ⟨Int.emod_nonneg _ (by omega), Int.emod_lt_of_pos _ (by omega)⟩
          · exact hb i)
      refine ⟨a1, a2, a3, a4, fun N hN => (a5 N hN).trans ?_⟩
      have k := stepR_cg p (cf r (r.length - 1) * top % p) (r.length - q.length) q r (by omega)
      refine ((Cg.refl (p := p) fun x => ev (pol N fun i => if i = r.length - q.length then cf r (r.length - 1) * top % p else g i) x * ev q x).add k).trans (Cg.of fun x => ?_)
      rw [ev_put (by omega) (hg _ (by omega))]
      grind
def dmP (p : Int) (a b : List Int) : List Int × List Int :=
  (trim (pol (a.length + 1) (dm p (inv p (cf b (b.length - 1))) b a.length (fun _ => 0) a).1), (dm p (inv p (cf b (b.length - 1))) b a.length (fun _ => 0) a).2)
def Pdm (f : Int) (a b : List Int) : List Int × List Int × Int :=
  if bad f a b = 0 then (if trim b = [] then ([], [], 5) else ((dmP (P f) (trim a) (trim b)).1, (dmP (P f) (trim a) (trim b)).2, 0)) else ([], [], bad f a b)
theorem top_inv {p : Int} (hp : Pr p) {b : List Int} (hb : Cn p b) (hb0 : b ≠ []) : cf b (b.length - 1) * inv p (cf b (b.length - 1)) % p = 1 := by
  have hlo := hp.lo
  have r := cf_el hb.el (by omega) (b.length - 1)
  exact inv_mul hp (by rw [Int.emod_eq_of_lt r.1 r.2]; exact hb.top hb0)
theorem dmP_inv {p : Int} (hp : Pr p) {a b : List Int} (ha : Cn p a) (hb : Cn p b) (hb0 : b ≠ []) :
    Cn p (dmP p a b).2 ∧ (dmP p a b).2.length < b.length ∧ (∀ i, a.length < i + b.length → (dm p (inv p (cf b (b.length - 1))) b a.length (fun _ => 0) a).1 i = 0) ∧ (∀ i, 0 ≤ (dm p (inv p (cf b (b.length - 1))) b a.length (fun _ => 0) a).1 i ∧ (dm p (inv p (cf b (b.length - 1))) b a.length (fun _ => 0) a).1 i < p) ∧
      ∀ N, a.length + 1 ≤ N + b.length → Cg p (fun x => ev (pol N (dm p (inv p (cf b (b.length - 1))) b a.length (fun _ => 0) a).1) x * ev b x + ev (dmP p a b).2 x) (fun x => ev (pol N fun _ => 0) x * ev b x + ev a x) :=
  dm_inv hp hb0 (top_inv hp hb hb0) a.length a.length (fun _ => 0) a ha (Nat.le_refl _) (Nat.le_refl _) (fun _ _ => rfl) (fun _ => ⟨Int.le_refl _, by have := hp.lo; omega⟩)
theorem dmP_spec {p : Int} (hp : Pr p) {a b : List Int} (ha : Cn p a) (hb : Cn p b) (hb0 : b ≠ []) :
    Cn p (dmP p a b).1 ∧ Cn p (dmP p a b).2 ∧ (dmP p a b).2.length < b.length ∧ ((dmP p a b).1 = [] ∨ (dmP p a b).1.length + b.length ≤ a.length + 1) ∧ Cg p (fun x => ev (dmP p a b).1 x * ev b x + ev (dmP p a b).2 x) (ev a) := by
  have hlo := hp.lo
  obtain ⟨a1, a2, a3, a4, a5⟩ := dmP_inv hp ha hb hb0
  have c1 : Cn p (dmP p a b).1 := Cn.trim (pol_el fun i _ => a4 i)
  refine ⟨c1, a1, a2, ?_, ?_⟩
  · by_cases c : (dmP p a b).1 = []
    · exact .inl c
    · have t := c1.top c
      have l : (dmP p a b).1.length ≠ 0 := fun e => c (List.length_eq_zero_iff.1 e)
      have h : ¬ a.length < (dmP p a b).1.length - 1 + b.length := fun h => t (by
        unfold dmP; dsimp only
        rw [cf_trim, cf_pol]; split
        · exact a3 _ h
        · rfl)
      exact .inr (by omega)
  · refine (Cg.of fun x => ?_).trans ((a5 (a.length + 1) (by omega)).trans (Cg.of fun x => ?_))
    · unfold dmP; dsimp only; rw [ev_trim]
    · rw [ev_congr (a := pol (a.length + 1) fun _ => 0) (b := []) (fun i => by rw [cf_pol, cf_nil]; split <;> rfl), ev_nil]; simp
theorem bad_good {f : Int} (hp : P f ≠ 0) {a b : List Int} (ea : El (P f) a) (eb : El (P f) b) (la : a.length ≤ 4096) (lb : b.length ≤ 4096) : bad f a b = 0 := by
  unfold bad
  rw [if_pos ⟨ok_iff.2 ⟨hp, fun x hx => (ea x hx).2⟩, ok_iff.2 ⟨hp, fun x hx => (eb x hx).2⟩⟩, if_pos ⟨la, lb⟩]
theorem Pmul_good {f : Int} (hp : P f ≠ 0) {a b : List Int} (ea : El (P f) a) (eb : El (P f) b) (la : a.length ≤ 4096) (lb : b.length ≤ 4096) (h : trim a = [] ∨ trim b = [] ∨ (trim a).length + (trim b).length ≤ 4097) : Pmul f a b = (mulP (P f) (trim a) (trim b), 0) := by
  unfold Pmul; rw [if_pos (bad_good hp ea eb la lb)]
  split
  · rename_i c; unfold mulP; rw [if_pos c]
  · rename_i c
    rw [if_neg]
    rcases h with h | h | h
    · exact absurd (.inl h) c
    · exact absurd (.inr h) c
    · omega
theorem Pdm_good {f : Int} (hp : P f ≠ 0) {a b : List Int} (ea : El (P f) a) (eb : El (P f) b) (la : a.length ≤ 4096) (lb : b.length ≤ 4096) (h : trim b ≠ []) : Pdm f a b = ((dmP (P f) (trim a) (trim b)).1, (dmP (P f) (trim a) (trim b)).2, 0) := by
  unfold Pdm; rw [if_pos (bad_good hp ea eb la lb), if_neg h]
end Go.Proofs.Ytkaongcpekhbdaa.M
namespace Go.Proofs.Ytkaongcpekhbdaa.M
open Go.RowKit Go Go.Proofs.YtkaongcpekhbdaaW.PrintWords Go.Proofs.YtkaongcpekhbdaaW.PrintLast Go.Proofs.YtkaongcpekhbdaaW.PrintMore
def fac (p x : Int) : List Int := [(0 - x) % p, 1]
def Z (p : Int) (xs : List Int) : List Int := xs.foldl (fun q x => mulP p q (fac p x)) [1]
def pe : List Int → Int → Int
  | [], _ => 1
  | x :: r, t => (t - x) * pe r t
theorem pe_app (b : List Int) (t : Int) : ∀ a, pe (a ++ b) t = pe a t * pe b t
  | [] => by simp [pe]
  | x :: a => by rw [List.cons_append, pe, pe, pe_app b t a, Int.mul_assoc]
theorem pe_pf : ∀ xs, Pf (pe xs)
  | [] => Pf.const 1
  | x :: r => (Pf.X.sub (Pf.const x)).mul (pe_pf r)
theorem pe_zero {x : Int} : ∀ {xs : List Int}, x ∈ xs → pe xs x = 0
  | y :: r, h => by
    rw [pe]
    rcases List.mem_cons.1 h with rfl | h
    · rw [Int.sub_self, Int.zero_mul]
    · rw [pe_zero h, Int.mul_zero]
theorem one_cn {p : Int} (hp : Pr p) : Cn p [1] := ⟨El.cons (by have := hp.lo; omega) El.nil, rfl⟩
theorem fac_cn {p : Int} (hp : Pr p) (x : Int) : Cn p (fac p x) := by
  have hlo := hp.lo
  exact ⟨El.cons ⟨Int.emod_nonneg _ (by omega), Int.emod_lt_of_pos _ (by omega)⟩ (El.cons (by omega) El.nil), rfl⟩
theorem fac_cg (p x : Int) : Cg p (ev (fac p x)) (fun t => t - x) := by
  refine ⟨fun _ => - ((0 - x) / p), Pf.const _, fun t => ?_⟩
  have h := Int.emod_add_mul_ediv (0 - x) p
  unfold fac
  rw [ev_cons, ev_cons, ev_nil]
  grind
theorem Z_fold {p : Int} (hp : Pr p) : ∀ (xs q : List Int), Cn p q → q ≠ [] →
    Cn p (xs.foldl (fun q x => mulP p q (fac p x)) q) ∧ (xs.foldl (fun q x => mulP p q (fac p x)) q).length = q.length + xs.length ∧ Cg p (ev (xs.foldl (fun q x => mulP p q (fac p x)) q)) (fun t => ev q t * pe xs t)
  | [], q, hq, _ => ⟨hq, rfl, Cg.of fun t => by simp [pe]⟩
  | x :: r, q, hq, h0 => by
    have l0 : q.length ≠ 0 := fun e => h0 (List.length_eq_zero_iff.1 e)
    have l1 := mulP_len (p := p) h0 (b := fac p x) (by simp [fac])
    have l2 : (fac p x).length = 2 := rfl
    obtain ⟨a1, a2, a3⟩ := Z_fold hp r (mulP p q (fac p x)) (mulP_cn hp hq (fac_cn hp x)) (fun e => by rw [e] at l1; simp at l1; omega)
    refine ⟨a1, ?_, ?_⟩
    · rw [List.foldl_cons, a2, l1, List.length_cons]; omega
    · rw [List.foldl_cons]
      refine a3.trans ?_
      refine (((mulP_cg p q (fac p x)).trans ((Cg.refl (ev q)).mul (fac_cg p x) (Pf.of q) (Pf.of _))).mul (Cg.refl (pe r)) ((Pf.of q).mul (Pf.X.sub (Pf.const x))) (pe_pf r)).trans (Cg.of fun t => ?_)
      rw [pe, Int.mul_assoc]
theorem Z_spec {p : Int} (hp : Pr p) (xs : List Int) : Cn p (Z p xs) ∧ (Z p xs).length = xs.length + 1 ∧ Cg p (ev (Z p xs)) (pe xs) := by
  obtain ⟨a1, a2, a3⟩ := Z_fold hp xs [1] (one_cn hp) (by simp)
  exact ⟨a1, by unfold Z; rw [a2]; simp; omega, a3.trans (Cg.of fun t => by simp [ev_cons, ev_nil])⟩
theorem Z_app {p : Int} (hp : Pr p) (a b : List Int) : mulP p (Z p a) (Z p b) = Z p (a ++ b) := by
  obtain ⟨a1, a2, a3⟩ := Z_spec hp a
  obtain ⟨b1, b2, b3⟩ := Z_spec hp b
  obtain ⟨c1, c2, c3⟩ := Z_spec hp (a ++ b)
  refine (mulP_cn hp a1 b1).ext (by have := hp.lo; omega) c1 ?_
  refine (mulP_cg p _ _).trans ((a3.mul b3 (pe_pf a) (Pf.of _)).trans ((Cg.of fun t => ?_).trans c3.symm))
  rw [pe_app]
theorem Z_one {p : Int} (hp : Pr p) (x : Int) : Z p [x] = fac p x := by
  obtain ⟨a1, a2, a3⟩ := Z_spec hp [x]
  exact a1.ext (by have := hp.lo; omega) (fac_cn hp x) (a3.trans ((Cg.of fun t => by simp [pe]).trans (fac_cg p x).symm))
theorem Z_ne {p : Int} (hp : Pr p) (xs : List Int) : Z p xs ≠ [] := fun e => by
  have := (Z_spec hp xs).2.1
  rw [e] at this; simp at this
def chunks (s : Nat) : Nat → List Int → List (List Int)
  | 0, _ => []
  | n + 1, xs => if xs = [] then [] else xs.take s :: chunks s n (xs.drop s)
theorem chunks_nil (s : Nat) : ∀ n, chunks s n [] = []
  | 0 => rfl
  | n + 1 => by rw [chunks, if_pos rfl]
theorem chunks_more {s : Nat} (hs : 0 < s) : ∀ (n m : Nat) (xs : List Int), xs.length ≤ n → xs.length ≤ m → chunks s n xs = chunks s m xs
  | 0, m, xs, h, _ => by
    have : xs = [] := List.length_eq_zero_iff.1 (by omega)
    rw [this, chunks_nil, chunks_nil]
  | n + 1, 0, xs, _, h => by
    have : xs = [] := List.length_eq_zero_iff.1 (by omega)
    rw [this, chunks_nil, chunks_nil]
  | n + 1, m + 1, xs, h, h' => by
    rw [chunks, chunks]
    by_cases e : xs = []
    · rw [if_pos e, if_pos e]
    · have l0 : xs.length ≠ 0 := fun z => e (List.length_eq_zero_iff.1 z)
      rw [if_neg e, if_neg e, chunks_more hs n m (xs.drop s) (by rw [List.length_drop]; omega) (by rw [List.length_drop]; omega)]
def ch (s : Nat) (xs : List Int) : List (List Int) := chunks s xs.length xs
theorem ch_nil (s : Nat) : ch s [] = [] := rfl
theorem ch_cons {s : Nat} (hs : 0 < s) {xs : List Int} (h : xs ≠ []) : ch s xs = xs.take s :: ch s (xs.drop s) := by
  have l0 : xs.length ≠ 0 := fun z => h (List.length_eq_zero_iff.1 z)
  obtain ⟨n, hn⟩ : ∃ n, xs.length = n + 1 := ⟨xs.length - 1, by omega⟩
  unfold ch
  rw [hn, chunks, if_neg h]
  congr 1
  exact chunks_more hs _ _ _ (by rw [List.length_drop]; omega) (Nat.le_refl _)
theorem ch_one {s : Nat} (hs : 0 < s) {xs : List Int} (h : xs ≠ []) (hl : xs.length ≤ s) : ch s xs = [xs] := by
  rw [ch_cons hs h, List.take_of_length_le hl, List.drop_of_length_le hl, ch_nil]
theorem ch_two {s : Nat} (hs : 0 < s) {xs : List Int} (hl : s < xs.length) : ch s xs = xs.take s :: (xs.drop s).take s :: ch s (xs.drop (2 * s)) := by
  have h0 : xs ≠ [] := fun e => by rw [e] at hl; simp at hl
  have h1 : xs.drop s ≠ [] := fun e => by have := congrArg List.length e; rw [List.length_drop] at this; simp at this; omega
  rw [ch_cons hs h0, ch_cons hs h1, List.drop_drop, show s + s = 2 * s by omega]
theorem ch_len {s : Nat} (hs : 0 < s) (xs : List Int) : 1 < (ch s xs).length ↔ s < xs.length := by
  by_cases h0 : xs = []
  · subst h0; rw [ch_nil]; simp
  · by_cases hl : xs.length ≤ s
    · rw [ch_one hs h0 hl]; simp; omega
    · rw [ch_two hs (by omega)]; simp; omega
theorem ch_le {s : Nat} (hs : 0 < s) : ∀ (n : Nat) (xs : List Int), xs.length ≤ n → (ch s xs).length ≤ n
  | n, xs, h => by
    by_cases h0 : xs = []
    · subst h0; simp [ch_nil]
    · have l0 : xs.length ≠ 0 := fun z => h0 (List.length_eq_zero_iff.1 z)
      match n, h with
      | 0, h => omega
      | n + 1, h =>
        rw [ch_cons hs h0, List.length_cons]
        have := ch_le hs n (xs.drop s) (by rw [List.length_drop]; omega)
        omega
theorem ch_mem {s : Nat} (hs : 0 < s) : ∀ (n : Nat) (xs : List Int), xs.length ≤ n → ∀ c ∈ ch s xs, c.length ≤ s ∧ c.length ≤ n
  | n, xs, h, c, hc => by
    by_cases h0 : xs = []
    · subst h0; rw [ch_nil] at hc; cases hc
    · have l0 : xs.length ≠ 0 := fun z => h0 (List.length_eq_zero_iff.1 z)
      match n, h with
      | 0, h => omega
      | n + 1, h =>
        rw [ch_cons hs h0] at hc
        rcases List.mem_cons.1 hc with rfl | hc
        · rw [List.length_take]; omega
        · have := ch_mem hs n (xs.drop s) (by rw [List.length_drop]; omega) c hc
          omega
theorem ch_single : ∀ (xs : List Int), ch 1 xs = xs.map fun x => [x]
  | [] => rfl
  | x :: r => by
    rw [ch_cons (by omega) (by simp), List.map_cons]
    show [x] :: ch 1 r = _
    rw [ch_single r]
def nx (p : Int) : List (List Int) → List (List Int)
  | [] => []
  | [a] => [trim a]
  | a :: b :: r => mulP p a b :: nx p r
theorem nx_ch {p : Int} (hp : Pr p) {s : Nat} (hs : 0 < s) : ∀ (n : Nat) (xs : List Int), xs.length ≤ n → nx p ((ch s xs).map (Z p)) = (ch (2 * s) xs).map (Z p)
  | n, xs, h => by
    by_cases h0 : xs = []
    · subst h0; rw [ch_nil, ch_nil]; rfl
    · have l0 : xs.length ≠ 0 := fun z => h0 (List.length_eq_zero_iff.1 z)
      by_cases hl : xs.length ≤ s
      · rw [ch_one hs h0 hl, ch_one (by omega) h0 (by omega)]
        show [trim (Z p xs)] = [Z p xs]
        rw [(Z_spec hp xs).1.tr]
      · match n, h with
        | 0, h => omega
        | n + 1, h =>
          rw [ch_two hs (by omega), ch_cons (s := 2 * s) (by omega) h0]
          show mulP p (Z p (xs.take s)) (Z p ((xs.drop s).take s)) :: nx p ((ch s (xs.drop (2 * s))).map (Z p)) = Z p (xs.take (2 * s)) :: (ch (2 * s) (xs.drop (2 * s))).map (Z p)
          rw [Z_app hp, nx_ch hp hs n (xs.drop (2 * s)) (by rw [List.length_drop]; omega), show 2 * s = s + s by omega, List.take_add]
def lvls (p : Int) : Nat → Nat → List Int → List (List (List Int))
  | 0, _, _ => []
  | d + 1, s, xs => if xs.length ≤ s then [] else (ch (2 * s) xs).map (Z p) :: lvls p d (2 * s) xs
def treeP (p : Int) (xs : List Int) : List (List (List Int)) := (ch 1 xs).map (Z p) :: lvls p xs.length 1 xs
theorem lvls_last {p : Int} {xs : List Int} (h0 : xs ≠ []) : ∀ (d s : Nat), 0 < s → xs.length ≤ s + d → ((ch s xs).map (Z p) :: lvls p d s xs).getLast? = some [Z p xs]
  | 0, s, hs, h => by rw [lvls, ch_one hs h0 (by omega)]; rfl
  | d + 1, s, hs, h => by
    rw [lvls]
    by_cases c : xs.length ≤ s
    · rw [if_pos c, ch_one hs h0 c]; rfl
    · rw [if_neg c, List.getLast?_cons_cons]
      exact lvls_last h0 d (2 * s) (by omega) (by omega)
end Go.Proofs.Ytkaongcpekhbdaa.M
