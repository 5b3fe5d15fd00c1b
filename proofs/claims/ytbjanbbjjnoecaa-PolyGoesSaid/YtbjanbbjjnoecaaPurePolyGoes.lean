/- PolyGoes: values go through sums, products and Into. For every field number, every two lists of words and every word. -/
import Derived.Test.YtbjanbbjjnoecaaMPolyGoes
import Derived.Test.YtbjanbbjjnoecaaPPolyGoesx
namespace Go.Proofs.Ytbjanbbjjnoecaa.FPolyGoes
open Go.RowKit Go Go.Proofs.YtbjanbbjjnoecaaW.PrintWords Go.Proofs.YtbjanbbjjnoecaaW.PrintLast Go.Proofs.YtbjanbbjjnoecaaW.PrintMore Go.Proofs.Ytbjanbbjjnoecaa.M Go.Proofs.Ytbjanbbjjnoecaa.PPolyGoes
theorem trimmed_loop (l : List Int) (hl : l.length < 4611686018427387904) : ∀ n : Nat, n ≤ l.length → Ev (fun k => poly_trimmed.l0 k l (n : Int)) (l.take (tl l n)) := by
  intro n
  induction n with
  | zero =>
    intro _
    refine Ev.step (fun k => by rw [poly_trimmed.l0]) ?_
    exact Ev.neg (by omega) (Ev.pos (by omega) (Ev.pos (by omega) (Ev.fix rfl)))
  | succ n ih =>
    intro hn
    have e : wrap64 (((n + 1 : Nat) : Int) - 1) = (n : Int) := by rw [w64_in (by omega) (by omega)]; omega
    refine Ev.step (fun k => by rw [poly_trimmed.l0]) ?_
    rw [e]
    refine Ev.pos (by omega) (Ev.pos (by omega) (Ev.pos (by omega) (Ev.ite (fun c => ?_) (fun c => ?_))))
    · rw [tl, if_pos c]; exact ih (by omega)
    · rw [tl, if_neg c]; exact Ev.pos (by omega) (Ev.pos (by omega) (Ev.fix rfl))
theorem trimmed_eq (l : List Int) (hl : l.length < 4611686018427387904) : Ev (fun k => poly_trimmed.f k l) (trim l) := by
  unfold poly_trimmed.f
  exact trimmed_loop l hl l.length (Nat.le_refl _)
end Go.Proofs.Ytbjanbbjjnoecaa.FPolyGoes
namespace Go.Proofs.Ytbjanbbjjnoecaa.FPolyGoes
open Go.RowKit Go Go.Proofs.YtbjanbbjjnoecaaW.PrintWords Go.Proofs.YtbjanbbjjnoecaaW.PrintLast Go.Proofs.YtbjanbbjjnoecaaW.PrintMore Go.Proofs.Ytbjanbbjjnoecaa.M Go.Proofs.Ytbjanbbjjnoecaa.PPolyGoes
def PF (p : Int) (w : Bool) : Prop := (p = 2013265921 ∧ w = false) ∨ (p = 18446744069414584321 ∧ w = true)
theorem PF.lo {p : Int} {w : Bool} (h : PF p w) : 2013265921 ≤ p := by unfold PF at h; omega
theorem PF.hi {p : Int} {w : Bool} (h : PF p w) : p ≤ 18446744069414584321 := by unfold PF at h; omega
theorem addLo_eq (a b : Int) (ha : 0 ≤ a) (hb : 0 ≤ b) : addLo a b = (a + b) % 18446744073709551616 := by unfold addLo; omega
theorem addHi_eq (a b : Int) (ha : 0 ≤ a) (hb : 0 ≤ b) : addHi a b = (a + b) / 18446744073709551616 := by unfold addHi; omega
theorem subLo_eq (a b : Int) (ha : 0 ≤ a) (hb : 0 ≤ b) (hb1 : b < 18446744073709551616) : subLo a b = (a - b) % 18446744073709551616 := by unfold subLo; omega
theorem subHi_eq (a b : Int) (ha : 0 ≤ a) (hb : 0 ≤ b) : subHi a b = if a < b then 1 else 0 := by
  unfold subHi; split <;> split <;> omega
theorem add_eq {p : Int} {w : Bool} (h : PF p w) {a b : Int} (ha : 0 ≤ a) (ha1 : a < p) (hb : 0 ≤ b) (hb1 : b < p) : field_reckoner_add.f p w a b = some ((a + b) % p) := by
  have h1 := h.lo; have h2 := h.hi
  have e : (a + b) % p = if a + b < p then a + b else a + b - p := by
    split
    · exact Int.emod_eq_of_lt (by omega) (by omega)
    · rw [← Int.sub_emod_right]; exact Int.emod_eq_of_lt (by omega) (by omega)
  unfold field_reckoner_add.f
  rw [addLo_eq _ _ ha hb, addHi_eq _ _ ha hb, e]
  simp only [u64w]
  (repeat' split) <;> (congr 1; omega)
theorem sub_eq {p : Int} {w : Bool} (h : PF p w) {a b : Int} (ha : 0 ≤ a) (ha1 : a < p) (hb : 0 ≤ b) (hb1 : b < p) : field_reckoner_sub.f p w a b = some ((a - b) % p) := by
  have h1 := h.lo; have h2 := h.hi
  have e : (a - b) % p = if a < b then a - b + p else a - b := by
    split
    · rw [← Int.add_emod_right]; exact Int.emod_eq_of_lt (by omega) (by omega)
    · exact Int.emod_eq_of_lt (by omega) (by omega)
  unfold field_reckoner_sub.f
  rw [subLo_eq _ _ ha hb (by omega), subHi_eq _ _ ha hb, e]
  simp only [u64w]
  (repeat' split) <;> first | (exfalso; omega) | (congr 1; omega)
theorem mul64_eq {a b : Int} (ha : 0 ≤ a) (ha1 : a < 18446744073709551616) (hb : 0 ≤ b) (hb1 : b < 18446744073709551616) :
    bits_Mul64.f a b = some (a * b / 18446744073709551616, a * b % 18446744073709551616) := by
  have e := mul_parts a b
  have k1 := mul_half (a / 4294967296) (b / 4294967296) (by omega) (by omega) (by omega) (by omega)
  have k2 := mul_half (a / 4294967296) (b % 4294967296) (by omega) (by omega) (by omega) (by omega)
  have k3 := mul_half (a % 4294967296) (b / 4294967296) (by omega) (by omega) (by omega) (by omega)
  have k4 := mul_half (a % 4294967296) (b % 4294967296) (by omega) (by omega) (by omega) (by omega)
  unfold bits_Mul64.f
  rw [and32 a ha ha1, and32 b hb hb1]
  generalize a / 4294967296 * (b / 4294967296) = t11 at *
  generalize a / 4294967296 * (b % 4294967296) = t10 at *
  generalize a % 4294967296 * (b / 4294967296) = t01 at *
  generalize a % 4294967296 * (b % 4294967296) = t00 at *
  rw [e]
  rw [u64w_in t11 (by omega) (by omega), u64w_in t10 (by omega) (by omega), u64w_in t01 (by omega) (by omega), u64w_in t00 (by omega) (by omega)]
  rw [u64w_in (t10 + t00 / 4294967296) (by omega) (by omega), and32 (t10 + t00 / 4294967296) (by omega) (by omega)]
  obtain ⟨q, hq⟩ : ∃ q, q = t00 / 4294967296 := ⟨_, rfl⟩
  obtain ⟨r, hr⟩ : ∃ r, r = t00 % 4294967296 := ⟨_, rfl⟩
  have et : t00 = q * 4294967296 + r := by omega
  have qb : 0 ≤ q ∧ q ≤ 4294967294 := by omega
  have rb : 0 ≤ r ∧ r < 4294967296 := by omega
  rw [← hq]
  clear hq hr
  subst et
  obtain ⟨s1, hs1⟩ : ∃ s1, s1 = (t10 + q) / 4294967296 := ⟨_, rfl⟩
  obtain ⟨s0, hs0⟩ : ∃ s0, s0 = (t10 + q) % 4294967296 := ⟨_, rfl⟩
  have es : t10 = s1 * 4294967296 + s0 - q := by omega
  have sb : 0 ≤ s0 ∧ s0 < 4294967296 := by omega
  have sb1 : 0 ≤ s1 ∧ s1 < 4294967296 := by omega
  rw [← hs1, ← hs0]
  clear hs1 hs0
  subst es
  obtain ⟨v1, hv1⟩ : ∃ v1, v1 = (s0 + t01) / 4294967296 := ⟨_, rfl⟩
  obtain ⟨v0, hv0⟩ : ∃ v0, v0 = (s0 + t01) % 4294967296 := ⟨_, rfl⟩
  have ev : t01 = v1 * 4294967296 + v0 - s0 := by omega
  have vb : 0 ≤ v0 ∧ v0 < 4294967296 := by omega
  have vb1 : 0 ≤ v1 ∧ v1 < 4294967296 := by omega
  rw [u64w_in (s0 + t01) (by omega) (by omega), ← hv1]
  clear hv1 hv0
  subst ev
  rw [u64w_in (t11 + s1) (by omega) (by omega), u64w_in (t11 + s1 + v1) (by omega) (by omega)]
  have e2 : t11 * 18446744073709551616 + (s1 * 4294967296 + s0 - q + (v1 * 4294967296 + v0 - s0)) * 4294967296 + (q * 4294967296 + r) = (t11 + s1 + v1) * 18446744073709551616 + (v0 * 4294967296 + r) := by omega
  rw [e2, u64w]
  simp only [Option.some.injEq, Prod.mk.injEq]
  exact ⟨by omega, trivial⟩
theorem mul_lt {p a b : Int} (ha : 0 ≤ a) (ha1 : a < p) (hb : 0 ≤ b) (hb1 : b < p) : 0 ≤ a * b ∧ a * b < p * p := by
  refine ⟨Int.mul_nonneg ha hb, ?_⟩
  have h := Int.mul_le_mul (show a ≤ p - 1 by omega) (show b ≤ p - 1 by omega) hb (by omega)
  have : (p - 1) * (p - 1) = p * p - 2 * p + 1 := by grind
  omega
theorem emod_rng {p : Int} (x : Int) (hp : 0 < p) : 0 ≤ x % p ∧ x % p < p := ⟨Int.emod_nonneg _ (by omega), Int.emod_lt_of_pos _ hp⟩
theorem mul_eq {p : Int} {w : Bool} (h : PF p w) {a b : Int} (ha : 0 ≤ a) (ha1 : a < p) (hb : 0 ≤ b) (hb1 : b < p) : field_reckoner_mul.f p w a b = some (a * b % p) := by
  have h1 := h.lo; have h2 := h.hi
  obtain ⟨m0, m1⟩ := mul_lt ha ha1 hb hb1
  unfold field_reckoner_mul.f
  rw [mul64_eq ha (by omega) hb (by omega)]
  simp only [Option.bind_some]
  rcases h with ⟨rfl, rfl⟩ | ⟨rfl, rfl⟩
  · simp only [Bool.false_eq_true, if_false, bits_Rem64.f, bits_Div64.f]
    generalize a * b = m at *
    have e0 : m / 18446744073709551616 = 0 := by omega
    have e1 : m % 18446744073709551616 = m := by omega
    rw [e0, e1]
    simp [Int.tmod_eq_emod_of_nonneg m0]
  · simp only [if_true]
    generalize a * b = m at *
    have hhi : 0 ≤ m / 18446744073709551616 ∧ m / 18446744073709551616 < 18446744073709551616 := by omega
    rw [and32 _ hhi.1 hhi.2]
    have hP : PF 18446744069414584321 true := .inr ⟨rfl, rfl⟩
    rw [u64w_in (m / 18446744073709551616 % 4294967296 * 4294967296) (by omega) (by omega), u64w_in (m / 18446744073709551616 % 4294967296 * 4294967296 - m / 18446744073709551616 % 4294967296) (by omega) (by omega)]
    split
    · rw [u64w_in _ (by omega) (by omega), sub_eq hP (by omega) (by omega) (by omega) (by omega)]
      simp only [Option.bind_some]
      rw [add_eq hP (emod_rng _ (by omega)).1 (emod_rng _ (by omega)).2 (by omega) (by omega)]
      simp only [Option.bind_some, Option.some.injEq]
      omega
    · rw [sub_eq hP (by omega) (by omega) (by omega) (by omega)]
      simp only [Option.bind_some]
      rw [add_eq hP (emod_rng _ (by omega)).1 (emod_rng _ (by omega)).2 (by omega) (by omega)]
      simp only [Option.bind_some, Option.some.injEq]
      omega
theorem of_eq (f : Int) : field_of.f f = if f = 1 then some (2013265921, false, true) else if f = 2 then some (18446744069414584321, true, true) else some (0, false, false) := rfl
end Go.Proofs.Ytbjanbbjjnoecaa.FPolyGoes
namespace Go.Proofs.Ytbjanbbjjnoecaa.FPolyGoes
open Go.RowKit Go Go.Proofs.YtbjanbbjjnoecaaW.PrintWords Go.Proofs.YtbjanbbjjnoecaaW.PrintLast Go.Proofs.YtbjanbbjjnoecaaW.PrintMore Go.Proofs.Ytbjanbbjjnoecaa.M Go.Proofs.Ytbjanbbjjnoecaa.PPolyGoes
theorem pf_of {f : Int} (h : P f ≠ 0) : PF (P f) (wd f) := by
  unfold PF P wd at *
  by_cases h1 : f = 1
  · subst h1; simp
  · by_cases h2 : f = 2
    · subst h2; simp
    · simp [h1, h2] at h
theorem of_is (f : Int) : field_of.f f = some (P f, wd f, decide (P f ≠ 0)) := by
  unfold field_of.f P wd
  by_cases h1 : f = 1
  · subst h1; simp
  · by_cases h2 : f = 2
    · subst h2; simp
    · simp [h1, h2]
theorem in_loop (p : Int) (w : Bool) (l : List Int) (hl : l.length < 4611686018427387904) : ∀ (d i : Nat), i + d = l.length →
    Ev (fun k => field_reckoner_in.l0 k l (l.length : Int) (i : Int) p w) (allIn p (l.drop i)) := by
  intro d
  induction d with
  | zero =>
    intro i hi
    refine Ev.step (fun k => by rw [field_reckoner_in.l0]) ?_
    refine Ev.neg (by omega) (Ev.fix ?_)
    rw [List.drop_eq_nil_of_le (by omega), allIn_nil]
  | succ d ih =>
    intro i hi
    have hlt : i < l.length := by omega
    refine Ev.step (fun k => by rw [field_reckoner_in.l0]) ?_
    refine Ev.pos (by omega) (Ev.pos (by omega) (Ev.pos (by omega) ?_))
    rw [drop_rd hlt, allIn_cons]
    refine Ev.ite (fun c => ?_) (fun c => ?_)
    · refine Ev.fix ?_
      rw [decide_eq_false (by omega), Bool.false_and]
    · rw [decide_eq_true (by omega), Bool.true_and, w64_succ (by omega)]
      exact ih (i + 1) (by omega)
theorem in_eq (p : Int) (w : Bool) (l : List Int) (hl : l.length < 4611686018427387904) : Ev (fun k => field_reckoner_in.f k p w l) (allIn p l) := by
  have := in_loop p w l hl l.length 0 (by omega)
  simpa [field_reckoner_in.f] using this
theorem asked_eq (f : Int) (l : List Int) (hl : l.length < 4611686018427387904) :
    Ev (fun k => field_asked.f k f l) (if ok f l then (P f, wd f, 0) else (0, false, 2)) := by
  unfold field_asked.f
  refine Ev.bnd (of_is f) ?_
  by_cases hp : P f = 0
  · have e : ok f l = false := by unfold ok; simp [hp]
    simp only [hp, e]
    exact Ev.fix (by simp)
  · refine Ev.pos (by simpa using hp) ?_
    refine Ev.bind (in_eq (P f) (wd f) l hl) ?_
    have e : ok f l = allIn (P f) l := by unfold ok; simp [hp]
    rw [e]
    refine Ev.ite (fun c => ?_) (fun c => ?_)
    · exact Ev.fix (by rw [if_pos c])
    · exact Ev.fix (by rw [if_neg c])
theorem asked_yes {f : Int} {l : List Int} (hl : l.length < 4611686018427387904) (h : ok f l = true) : Ev (fun k => field_asked.f k f l) (P f, wd f, 0) :=
  Ev.cast (asked_eq f l hl) (by rw [if_pos h])
theorem asked_no {f : Int} {l : List Int} (hl : l.length < 4611686018427387904) (h : ¬ ok f l = true) : Ev (fun k => field_asked.f k f l) (0, false, 2) :=
  Ev.cast (asked_eq f l hl) (by rw [if_neg h])
theorem ok2 {f a b : Int} (h : ok f [a, b] = true) : PF (P f) (wd f) ∧ a < P f ∧ b < P f := by
  have := ok_iff.1 h
  exact ⟨pf_of this.1, this.2 a (by simp), this.2 b (by simp)⟩
theorem ok1 {f a : Int} (h : ok f [a] = true) : PF (P f) (wd f) ∧ a < P f := by
  have := ok_iff.1 h
  exact ⟨pf_of this.1, this.2 a (by simp)⟩
theorem Add_eq (f a b : Int) (ha : 0 ≤ a) (hb : 0 ≤ b) : Ev (fun k => field_Add.f k f a b) (if ok f [a, b] then ((a + b) % P f, 0) else (0, 2)) := by
  unfold field_Add.f
  refine Ev.bind (asked_eq f _ (by simp)) ?_
  by_cases h : ok f [a, b] = true
  · simp only [h, if_true]
    obtain ⟨hp, h1, h2⟩ := ok2 h
    exact Ev.bnd (add_eq hp ha h1 hb h2) (Ev.fix rfl)
  · simp only [h]
    exact Ev.fix (by simp)
theorem Mul_eq (f a b : Int) (ha : 0 ≤ a) (hb : 0 ≤ b) : Ev (fun k => field_Mul.f k f a b) (if ok f [a, b] then (a * b % P f, 0) else (0, 2)) := by
  unfold field_Mul.f
  refine Ev.bind (asked_eq f _ (by simp)) ?_
  by_cases h : ok f [a, b] = true
  · simp only [h, if_true]
    obtain ⟨hp, h1, h2⟩ := ok2 h
    exact Ev.bnd (mul_eq hp ha h1 hb h2) (Ev.fix rfl)
  · simp only [h]
    exact Ev.fix (by simp)
theorem In_eq (f : Int) (l : List Int) (hl : l.length < 4611686018427387904) : Ev (fun k => field_In.f k f l) (ok f l) := by
  unfold field_In.f
  refine Ev.bind (asked_eq f _ hl) ?_
  by_cases h : ok f l = true
  · simp only [h]; exact Ev.fix (by simp)
  · simp only [h]; exact Ev.fix (by simp)
end Go.Proofs.Ytbjanbbjjnoecaa.FPolyGoes
namespace Go.Proofs.Ytbjanbbjjnoecaa.FPolyGoes
open Go.RowKit Go Go.Proofs.YtbjanbbjjnoecaaW.PrintWords Go.Proofs.YtbjanbbjjnoecaaW.PrintLast Go.Proofs.YtbjanbbjjnoecaaW.PrintMore Go.Proofs.Ytbjanbbjjnoecaa.M Go.Proofs.Ytbjanbbjjnoecaa.PPolyGoes
theorem rP (f : Int) : cr1_P.f f = some (P f) := by
  unfold cr1_P.f P; split <;> (try split) <;> rfl
theorem rSum {p a b : Int} (hp : 0 < p) (hp1 : p < 18446744073709551616) (ha : 0 ≤ a) (ha1 : a < p) (hb : 0 ≤ b) (hb1 : b < p) : cr1_Sum.f p a b = some ((a + b) % p) := by
  have e : (a + b) % p = if a + b < p then a + b else a + b - p := by
    split
    · exact Int.emod_eq_of_lt (by omega) (by omega)
    · rw [← Int.sub_emod_right]; exact Int.emod_eq_of_lt (by omega) (by omega)
  unfold cr1_Sum.f
  rw [e]
  simp only [u64w]
  (repeat' split) <;> first | (exfalso; omega) | (congr 1; omega)
theorem shr_eq (b : Int) (i : Nat) (hi : i < 64) : shr .u64 b (IntKind.u64.wrap (i : Int)) = b / 2 ^ i := by
  unfold shr
  rw [u64w_in _ (by omega) (by omega)]
  simp [IntKind.bits, Nat.min_eq_left (show i ≤ 64 by omega)]
theorem bit_split (b : Int) (i : Nat) : b % 2 ^ (i + 1) = (b / 2 ^ i % 2) * 2 ^ i + b % 2 ^ i := by
  have h : (2 : Int) ^ (i + 1) = 2 ^ i * 2 := Int.pow_succ _ _
  have hp : (0 : Int) < 2 ^ i := Int.pow_pos (by decide)
  have h1 := Int.emod_add_mul_ediv b (2 ^ i)
  have h2 := Int.emod_add_mul_ediv (b / 2 ^ i) 2
  have h3 := Int.emod_nonneg b (show (2 : Int) ^ i ≠ 0 by omega)
  have h4 := Int.emod_lt_of_pos b hp
  have h5 : (b / 2 ^ i % 2) * 2 ^ i + b % 2 ^ i < 2 ^ (i + 1) := by
    have : b / 2 ^ i % 2 = 0 ∨ b / 2 ^ i % 2 = 1 := by omega
    rcases this with e | e <;> rw [e, h] <;> omega
  have h6 : 0 ≤ (b / 2 ^ i % 2) * 2 ^ i + b % 2 ^ i := by
    have := Int.mul_nonneg (show 0 ≤ b / 2 ^ i % 2 by omega) (show (0 : Int) ≤ 2 ^ i by omega)
    omega
  have h7 : b = (b / 2 ^ i % 2) * 2 ^ i + b % 2 ^ i + 2 ^ (i + 1) * (b / 2 ^ i / 2) := by
    rw [h]
    generalize b / 2 ^ i = q at *
    generalize b % 2 ^ i = r at *
    generalize (2 : Int) ^ i = t at *
    generalize q % 2 = c at *
    generalize q / 2 = e at *
    subst h2
    rw [← h1]
    grind
  conv => lhs; rw [h7, Int.add_mul_emod_self_left]
  exact Int.emod_eq_of_lt h6 h5
theorem times_loop {p : Int} (hp : 0 < p) (hp1 : p < 18446744073709551616) {a b : Int} (ha : 0 ≤ a) (ha1 : a < p) (hb : 0 ≤ b) (hb1 : b < 18446744073709551616) : ∀ (d : Nat) (s : Int), d ≤ 64 → 0 ≤ s → s < p →
    Ev (fun k => cr1_Times.l0 k p a b s ((d : Int) - 1)) ((s * 2 ^ d + (b % 2 ^ d) * a) % p) := by
  intro d
  induction d with
  | zero =>
    intro s _ hs hs1
    refine Ev.step (fun k => by rw [cr1_Times.l0]) ?_
    refine Ev.neg (by omega) (Ev.fix ?_)
    simp [Int.emod_one, Int.emod_eq_of_lt hs hs1]
  | succ d ih =>
    intro s hd hs hs1
    have r1 : 0 ≤ (s + s) % p ∧ (s + s) % p < p := ⟨Int.emod_nonneg _ (by omega), Int.emod_lt_of_pos _ hp⟩
    have r2 : 0 ≤ ((s + s) % p + a) % p ∧ ((s + s) % p + a) % p < p := ⟨Int.emod_nonneg _ (by omega), Int.emod_lt_of_pos _ hp⟩
    have hi : wrap64 (((d + 1 : Nat) : Int) - 1 - 1) = (d : Int) - 1 := by rw [w64_in (by omega) (by omega)]; omega
    have hx : (((d + 1 : Nat) : Int) - 1) = ((d : Nat) : Int) := by omega
    refine Ev.step (fun k => by rw [cr1_Times.l0]) ?_
    refine Ev.pos (by omega) (Ev.bnd (rSum hp hp1 hs hs1 hs hs1) ?_)
    rw [hi, hx, shr_eq b d (by omega)]
    have hbd : 0 ≤ b / 2 ^ d := Int.ediv_nonneg hb (Int.le_of_lt (Int.pow_pos (by decide)))
    have hbd1 : b / 2 ^ d ≤ b := Int.ediv_le_self _ hb
    rw [and1 _ hbd (by omega), bit_split b d]
    have h2 : (2 : Int) ^ (d + 1) = 2 ^ d * 2 := Int.pow_succ _ _
    refine Ev.pos (by rw [u64w]; omega) (Ev.ite (fun c => ?_) (fun c => ?_))
    · refine Ev.bnd (rSum hp hp1 r1.1 r1.2 ha ha1) (Ev.cast (ih _ (by omega) r2.1 r2.2) ?_)
      rw [c, ← emod_add_l ((((s + s) % p + a) % p) * 2 ^ d), emod_mul_l, ← emod_mul_l, emod_add_l (s + s) a p, emod_mul_l, emod_add_l, h2]
      congr 1; grind
    · have c0 : b / 2 ^ d % 2 = 0 := by omega
      refine Ev.cast (ih _ (by omega) r1.1 r1.2) ?_
      rw [c0, ← emod_add_l ((s + s) % p * 2 ^ d), emod_mul_l, emod_add_l, h2]
      congr 1; grind
theorem rTimes {p : Int} (hp : 0 < p) (hp1 : p < 18446744073709551616) {a b : Int} (ha : 0 ≤ a) (ha1 : a < p) (hb : 0 ≤ b) (hb1 : b < 18446744073709551616) : Ev (fun k => cr1_Times.f k p a b) (a * b % p) := by
  have h := times_loop hp hp1 ha ha1 hb hb1 64 0 (by omega) (by omega) hp
  refine Ev.cast h ?_
  rw [Int.emod_eq_of_lt hb (by simpa using hb1)]
  congr 1; grind
theorem rIn_loop (p : Int) (l : List Int) (hl : l.length < 4611686018427387904) : ∀ (d i : Nat), i + d = l.length →
    Ev (fun k => cr1_In.l0 k l p (i : Int)) (allIn p (l.drop i) && p != 0) := by
  intro d
  induction d with
  | zero =>
    intro i hi
    refine Ev.step (fun k => by rw [cr1_In.l0]) ?_
    refine Ev.neg (by omega) (Ev.fix ?_)
    rw [List.drop_eq_nil_of_le (by omega), allIn_nil, Bool.true_and]
  | succ d ih =>
    intro i hi
    have hlt : i < l.length := by omega
    refine Ev.step (fun k => by rw [cr1_In.l0]) ?_
    refine Ev.pos (by omega) (Ev.pos (by omega) ?_)
    rw [drop_rd hlt, allIn_cons]
    refine Ev.ite (fun c => ?_) (fun c => ?_)
    · refine Ev.fix ?_
      rw [decide_eq_false (by omega), Bool.false_and, Bool.false_and]
    · rw [decide_eq_true (by omega), Bool.true_and, w64_succ (by omega)]
      exact ih (i + 1) (by omega)
theorem rIn (f : Int) (l : List Int) (hl : l.length < 4611686018427387904) : Ev (fun k => cr1_In.f k f l) (ok f l) := by
  unfold cr1_In.f
  refine Ev.bnd (rP f) ?_
  have := rIn_loop (P f) l hl l.length 0 (by omega)
  refine Ev.cast this ?_
  unfold ok
  rw [List.drop_zero, Bool.and_comm]
  congr 1
  by_cases h : P f = 0 <;> simp [h]
theorem rSame_loop (a b : List Int) (hl : a.length < 4611686018427387904) (he : a.length = b.length) : ∀ (d i : Nat), i + d = a.length →
    Ev (fun k => cr1_Same.l0 k a b (i : Int)) (decide (a.drop i = b.drop i)) := by
  intro d
  induction d with
  | zero =>
    intro i hi
    refine Ev.step (fun k => by rw [cr1_Same.l0]) ?_
    refine Ev.neg (by omega) (Ev.fix ?_)
    rw [List.drop_eq_nil_of_le (by omega), List.drop_eq_nil_of_le (by omega)]; simp
  | succ d ih =>
    intro i hi
    refine Ev.step (fun k => by rw [cr1_Same.l0]) ?_
    refine Ev.pos (by omega) (Ev.pos (by omega) ?_)
    rw [drop_rd (l := a) (by omega), drop_rd (l := b) (by omega), w64_succ (by omega)]
    have hb : (i : Int) < (b.length : Int) := by omega
    by_cases c : rd a (i : Int) = rd b (i : Int)
    · refine Ev.cast (r := decide (a.drop (i + 1) = b.drop (i + 1))) ?_ (by simp [c])
      simp only [hb, c, if_true]
      exact ih (i + 1) (by omega)
    · refine Ev.cast (r := false) ?_ (by simp [c])
      simp only [hb, c, if_true, if_false]
      exact Ev.fix rfl
theorem rSame (a b : List Int) (hl : a.length < 4611686018427387904) : Ev (fun k => cr1_Same.f k a b) (decide (a = b)) := by
  unfold cr1_Same.f
  by_cases he : a.length = b.length
  · have h := rSame_loop a b hl he a.length 0 (by omega)
    rw [List.drop_zero, List.drop_zero] at h
    have he' : (a.length : Int) = (b.length : Int) := by omega
    simp only [he', if_true]
    exact h
  · refine Ev.cast (r := false) ?_ (by rw [decide_eq_false]; rintro rfl; exact he rfl)
    have he' : ¬ (a.length : Int) = (b.length : Int) := by omega
    simp only [he', if_false]
    exact Ev.fix rfl
end Go.Proofs.Ytbjanbbjjnoecaa.FPolyGoes
namespace Go.Proofs.Ytbjanbbjjnoecaa.FPolyGoes
open Go.RowKit Go Go.Proofs.YtbjanbbjjnoecaaW.PrintWords Go.Proofs.YtbjanbbjjnoecaaW.PrintLast Go.Proofs.YtbjanbbjjnoecaaW.PrintMore Go.Proofs.Ytbjanbbjjnoecaa.M Go.Proofs.Ytbjanbbjjnoecaa.PPolyGoes
theorem ok_two {f a b : Int} (hp : P f ≠ 0) (ha : a < P f) (hb : b < P f) : ok f [a, b] = true := ok_iff.2 ⟨hp, by simp [ha, hb]⟩
theorem ok_nil {f : Int} : ok f [] = true ↔ P f ≠ 0 := by rw [ok_iff]; simp
theorem mx_nat (a b : Nat) : mx (a : Int) (b : Int) = ((max a b : Nat) : Int) := by unfold mx; split <;> omega
theorem pol_succ (n : Nat) (g : Nat → Int) : pol (n + 1) g = pol n g ++ [g n] := by simp [pol, List.range_succ]
theorem kadd_eq {f a b : Int} (hp : P f ≠ 0) (ha : 0 ≤ a ∧ a < P f) (hb : 0 ≤ b ∧ b < P f) : Ev (fun k => poly_reckoner_add.f k f a b) ((a + b) % P f) := by
  unfold poly_reckoner_add.f
  refine Ev.bind (Add_eq f a b ha.1 hb.1) ?_
  rw [if_pos (ok_two hp ha.2 hb.2)]
  exact Ev.fix rfl
theorem kmul_eq {f a b : Int} (hp : P f ≠ 0) (ha : 0 ≤ a ∧ a < P f) (hb : 0 ≤ b ∧ b < P f) : Ev (fun k => poly_reckoner_mul.f k f a b) (a * b % P f) := by
  unfold poly_reckoner_mul.f
  refine Ev.bind (Mul_eq f a b ha.1 hb.1) ?_
  rw [if_pos (ok_two hp ha.2 hb.2)]
  exact Ev.fix rfl
theorem trimmed_own_loop (l : List Int) (hl : l.length < 4611686018427387904) : ∀ n : Nat, n ≤ l.length → Ev (fun k => poly_trimmed_own.l0 k l (n : Int)) (l.take (tl l n)) := by
  intro n
  induction n with
  | zero =>
    intro _
    refine Ev.step (fun k => by rw [poly_trimmed_own.l0]) ?_
    exact Ev.neg (by omega) (Ev.pos (by omega) (Ev.pos (by omega) (Ev.fix rfl)))
  | succ n ih =>
    intro hn
    have e : wrap64 (((n + 1 : Nat) : Int) - 1) = (n : Int) := by rw [w64_in (by omega) (by omega)]; omega
    refine Ev.step (fun k => by rw [poly_trimmed_own.l0]) ?_
    rw [e]
    refine Ev.pos (by omega) (Ev.pos (by omega) (Ev.pos (by omega) (Ev.ite (fun c => ?_) (fun c => ?_))))
    · rw [tl, if_pos c]; exact ih (by omega)
    · rw [tl, if_neg c]; exact Ev.pos (by omega) (Ev.pos (by omega) (Ev.fix rfl))
theorem trimmed_own_eq (l : List Int) (hl : l.length < 4611686018427387904) : Ev (fun k => poly_trimmed_own.f k l) (trim l) := by
  unfold poly_trimmed_own.f
  exact trimmed_own_loop l hl l.length (Nat.le_refl _)
def bads (f : Int) : List (List Int) → Int → Int
  | [], e => e
  | l :: r, e => if ok f l = true then bads f r (if l.length > 4096 then 4 else e) else 2
theorem rd_L1_lt {L : List (List Int)} {i : Nat} (h : i < L.length) : rd_L1 L (i : Int) = L[i] := by
  unfold rd_L1; rw [Int.toNat_natCast, List.getD_eq_getElem?_getD, List.getElem?_eq_getElem h]; rfl
theorem may_loop (f : Int) (L : List (List Int)) (hL : ∀ l ∈ L, l.length < 4611686018427387904) (hn : L.length < 4611686018427387904) : ∀ (d i : Nat) (e : Int), i + d = L.length →
    Ev (fun k => poly_may.l0 k f e L (L.length : Int) (i : Int)) (bads f (L.drop i) e) := by
  intro d
  induction d with
  | zero =>
    intro i e h
    refine Ev.step (fun k => by rw [poly_may.l0]) ?_
    rw [List.drop_of_length_le (by omega)]
    exact Ev.neg (by omega) (Ev.fix rfl)
  | succ d ih =>
    intro i e h
    have hi : i < L.length := by omega
    refine Ev.step (fun k => by rw [poly_may.l0]) ?_
    rw [rd_L1_lt hi, w64_succ (by omega), List.drop_eq_getElem_cons hi, bads]
    refine Ev.pos (by omega) (Ev.pos (by omega) (Ev.pos (by omega) (Ev.bind (In_eq f _ (hL _ (List.getElem_mem hi))) (Ev.ite (fun c => ?_) (fun c => ?_)))))
    · rw [if_pos c]
      refine Ev.ite (fun q => ?_) (fun q => ?_)
      · rw [if_pos (by omega)]; exact ih (i + 1) 4 (by omega)
      · rw [if_neg (by omega)]; exact ih (i + 1) e (by omega)
    · rw [if_neg c]; exact Ev.fix rfl
theorem may_eq (f : Int) (L : List (List Int)) (hL : ∀ l ∈ L, l.length < 4611686018427387904) (hn : L.length < 4611686018427387904) : Ev (fun k => poly_may.f k f L) (if P f = 0 then 2 else bads f L 0) := by
  unfold poly_may.f
  refine Ev.bind (In_eq f [] (by simp)) (Ev.ite (fun c => ?_) (fun c => ?_))
  · rw [if_neg (ok_nil.1 c)]
    exact may_loop f L hL hn L.length 0 0 (by omega)
  · rw [if_pos (Classical.not_not.1 fun z => c (ok_nil.2 z))]; exact Ev.fix rfl
theorem may2_eq (f : Int) (a b : List Int) (ha : a.length < 4611686018427387904) (hb : b.length < 4611686018427387904) : Ev (fun k => poly_may.f k f [a, b]) (bad f a b) := by
  refine Ev.cast (may_eq f [a, b] (by simp [ha, hb]) (by simp)) ?_
  unfold bad
  by_cases z : P f = 0
  · rw [if_pos z, if_neg (fun c => (ok_iff.1 c.1).1 z)]
  · rw [if_neg z]
    by_cases ca : ok f a = true
    · by_cases cb : ok f b = true
      · simp only [bads, if_pos ca, if_pos cb, if_pos (And.intro ca cb)]
        by_cases la : a.length ≤ 4096
        · by_cases lb : b.length ≤ 4096
          · rw [if_neg (by omega), if_neg (by omega), if_pos ⟨la, lb⟩]
          · rw [if_pos (by omega), if_neg (fun q => lb q.2)]
        · rw [if_neg (show ¬ (a.length ≤ 4096 ∧ b.length ≤ 4096) from fun q => la q.1), if_pos (show a.length > 4096 by omega)]
          split <;> rfl
      · rw [if_neg (fun c => cb c.2)]; simp only [bads, if_pos ca, if_neg cb]
    · rw [if_neg (fun c => ca c.1)]; simp only [bads, if_neg ca]
theorem padded (a b : List Int) : a.take (List.replicate (max a.length b.length) (0 : Int)).length ++ (List.replicate (max a.length b.length) (0 : Int)).drop a.length = pol (max a.length b.length) (cf a) := by
  refine pol_ext (by simp; omega) fun i hi => ?_
  rw [List.take_of_length_le (by simp; omega)]
  unfold cf rd
  rw [Int.toNat_natCast, List.getD_eq_getElem?_getD, List.getD_eq_getElem?_getD]
  by_cases c : i < a.length
  · rw [List.getElem?_append_left c]
  · rw [List.getElem?_append_right (by omega), List.getElem?_eq_none (l := a) (by omega), List.getElem?_drop, List.getElem?_replicate]
    split <;> rfl
theorem put_loop_add {f : Int} (hp : Pr (P f)) (hp0 : P f ≠ 0) (a b : List Int) (ea : El (P f) a) (eb : El (P f) b) (N : Nat) (hN : N < 17592186044416) : ∀ (d m : Nat), m + d = N →
    Ev (fun k => poly_placed_add.l0 k b f (pol N fun i => if i < m then (cf a i + cf b i) % P f else cf a i) (N : Int) (m : Int)) (trim (pol N fun i => (cf a i + cf b i) % P f), 0) := by
  have hlo := hp.lo
  intro d
  induction d with
  | zero =>
    intro m h
    refine Ev.step (fun k => by rw [poly_placed_add.l0]) ?_
    have e : (pol N fun i => if i < m then (cf a i + cf b i) % P f else cf a i) = pol N fun i => (cf a i + cf b i) % P f := pol_congr fun i hi => by rw [if_pos (by omega)]
    rw [e]
    exact Ev.neg (by omega) (Ev.bind (trimmed_own_eq _ (by rw [pol_len]; omega)) (Ev.fix rfl))
  | succ d ih =>
    intro m h
    have hm : m < N := by omega
    have e : (pol N fun i => if i < m then (cf a i + cf b i) % P f else cf a i).set m ((cf a m + cf b m) % P f) = pol N fun i => if i < m + 1 then (cf a i + cf b i) % P f else cf a i := by
      rw [pol_set hm]
      refine pol_congr fun i _ => ?_
      by_cases c : i = m
      · rw [if_pos c, if_pos (by omega), c]
      · rw [if_neg c]
        by_cases q : i < m
        · rw [if_pos q, if_pos (by omega)]
        · rw [if_neg q, if_neg (by omega)]
    have r : rd (pol N fun i => if i < m then (cf a i + cf b i) % P f else cf a i) (m : Int) = cf a m := by
      have := cf_pol (n := N) (g := fun i => if i < m then (cf a i + cf b i) % P f else cf a i) (i := m)
      rw [if_pos hm] at this; unfold cf at this ⊢
      rw [this]; simp
    have go : Ev (fun k => (poly_reckoner_add.f k f (cf a m) (cf b m)).bind fun t => poly_placed_add.l0 k b f ((pol N fun i => if i < m then (cf a i + cf b i) % P f else cf a i).set m t) (N : Int) (wrap64 ((m : Int) + 1))) (trim (pol N fun i => (cf a i + cf b i) % P f), 0) := by
      refine Ev.bind (kadd_eq hp0 (cf_el ea (by omega) m) (cf_el eb (by omega) m)) ?_
      rw [e, w64_succ (by omega)]
      exact ih (m + 1) (by omega)
    refine Ev.step (fun k => by rw [poly_placed_add.l0]) ?_
    simp only [r, pol_len, Int.toNat_natCast]
    refine Ev.pos (by omega) (Ev.ite (fun c => ?_) (fun c => ?_))
    · exact Ev.pos (by omega) (Ev.pos (by omega) go)
    · have z : cf b m = 0 := cf_ge (by omega)
      rw [z] at go
      exact Ev.pos (by omega) (Ev.pos (by omega) go)
theorem PAdd_eq (f : Int) (a b : List Int) (wa : Wd a) (wb : Wd b) (ha : a.length < 17592186044416) (hb : b.length < 17592186044416) : Ev (fun k => poly_Add.f k f a b) (Padd f a b) := by
  unfold poly_Add.f poly_placed_add.f
  refine Ev.bind (a := Padd f a b) (Ev.bind (may2_eq f a b (by omega) (by omega)) ?_) (Ev.fix rfl)
  unfold Padd
  refine Ev.ite (fun c => ?_) (fun c => ?_)
  · rw [if_pos c]
    obtain ⟨ka, kb, la, lb⟩ := bad_zero c
    rw [mx_nat]
    simp only [Int.toNat_natCast]
    refine Ev.pos (by omega) (Ev.pos (by omega) (Ev.bnd rfl (Ev.bnd rfl ?_)))
    rw [padded a b, pol_len]
    have h := put_loop_add (ok_pr ka) (ok_iff.1 ka).1 a b (wa.el (by unfold ok at ka; simp at ka; exact ka.2)) (wb.el (by unfold ok at kb; simp at kb; exact kb.2)) (max a.length b.length) (by omega) (max a.length b.length) 0 (by omega)
    unfold sumP
    simpa using h
  · rw [if_neg c]; exact Ev.fix rfl
end Go.Proofs.Ytbjanbbjjnoecaa.FPolyGoes
namespace Go.Proofs.Ytbjanbbjjnoecaa.FPolyGoes
open Go.RowKit Go Go.Proofs.YtbjanbbjjnoecaaW.PrintWords Go.Proofs.YtbjanbbjjnoecaaW.PrintLast Go.Proofs.YtbjanbbjjnoecaaW.PrintMore Go.Proofs.Ytbjanbbjjnoecaa.M Go.Proofs.Ytbjanbbjjnoecaa.PPolyGoes
theorem ok_all {f : Int} {l : List Int} (h : ok f l = true) : allIn (P f) l = true := by unfold ok at h; simp at h; exact h.2
theorem rBad (f : Int) (a b : List Int) (ha : a.length < 4611686018427387904) (hb : b.length < 4611686018427387904) : Ev (fun k => cr3_Bad.f k f a b) (bad f a b) := by
  unfold cr3_Bad.f bad
  refine Ev.bind (rIn f a ha) (Ev.ite (fun c => ?_) (fun c => ?_))
  · refine Ev.bind (rIn f b hb) ?_
    refine Ev.step (fun k => by rw [cr3_Bad.j0]) ?_
    by_cases cb : ok f b = true
    · rw [if_pos (And.intro c cb), cb]
      refine Ev.neg (by simp) (Ev.ite (fun q => ?_) (fun q => Ev.ite (fun r => ?_) (fun r => ?_)))
      · rw [if_neg (fun z => by have := z.1; omega)]; exact Ev.fix rfl
      · rw [if_neg (fun z => by have := z.2; omega)]; exact Ev.fix rfl
      · rw [if_pos ⟨by omega, by omega⟩]; exact Ev.fix rfl
    · rw [if_neg (show ¬ (ok f a = true ∧ ok f b = true) from fun z => cb z.2), show ok f b = false by simpa using cb]
      exact Ev.pos rfl (Ev.fix rfl)
  · rw [if_neg (fun z => c z.1)]
    refine Ev.step (fun k => by rw [cr3_Bad.j0]) ?_
    exact Ev.pos rfl (Ev.fix rfl)
theorem rd_pol {n i : Nat} {g : Nat → Int} (h : i < n) : rd (pol n g) (i : Int) = g i := by
  have := cf_pol (n := n) (g := g) (i := i); rw [if_pos h] at this; exact this
theorem prod_inner {f : Int} (hp0 : P f ≠ 0) (a b : List Int) (ea : El (P f) a) (eb : El (P f) b) (N m : Nat) (hm : m < a.length) (hN : N = a.length + b.length - 1) (hs : N < 17592186044416) {R : List Int}
    (hk : Ev (fun k => poly_reckoner_product.l0 k b (pol N (row (P f) a b m b.length)) a (a.length : Int) ((m + 1 : Nat) : Int) f) R) : ∀ (d j : Nat), j + d = b.length →
    Ev (fun k => poly_reckoner_product.l1 k b (pol N (row (P f) a b m j)) (m : Int) (cf a m) a (a.length : Int) (m : Int) b (b.length : Int) (j : Int) f) R := by
  have hp := P_pr hp0
  have hlo := hp.lo; have hhi := hp.hi
  intro d
  induction d with
  | zero =>
    intro j h
    refine Ev.step (fun k => by rw [poly_reckoner_product.l1]) ?_
    have e : j = b.length := by omega
    subst e
    rw [show wrap64 ((m : Int) + 1) = ((m + 1 : Nat) : Int) from w64_succ (by omega)]
    exact Ev.neg (by omega) hk
  | succ d ih =>
    intro j h
    refine Ev.step (fun k => by rw [poly_reckoner_product.l1]) ?_
    rw [show wrap64 ((j : Int) + 1) = ((j + 1 : Nat) : Int) from w64_succ (by omega), show wrap64 ((m : Int) + (j : Int)) = ((m + j : Nat) : Int) by rw [w64_in (by omega) (by omega)]; omega, rd_pol (by omega), show rd b (j : Int) = cf b j from rfl]
    have ra := cf_el ea (by omega) m; have rb := cf_el eb (by omega) j
    refine Ev.pos (by omega) (Ev.pos (by omega) (Ev.pos (by omega) (Ev.pos (by omega) (Ev.pos (by rw [pol_len]; omega) (Ev.bind (kmul_eq hp0 ra rb) (Ev.bind (kadd_eq hp0 (row_rng (by omega) a b m j (m + j)) (emod_rng _ (by omega))) ?_))))))
    rw [Int.toNat_natCast, row_set (by omega)]
    exact ih (j + 1) (by omega)
theorem prod_outer {f : Int} (hp0 : P f ≠ 0) (a b : List Int) (ea : El (P f) a) (eb : El (P f) b) (N : Nat) (hN : N = a.length + b.length - 1) (hs : N < 17592186044416) : ∀ (d m : Nat), m + d = a.length →
    Ev (fun k => poly_reckoner_product.l0 k b (pol N fun n => cv a b m n % P f) a (a.length : Int) (m : Int) f) (pol N fun n => cv a b a.length n % P f) := by
  intro d
  induction d with
  | zero =>
    intro m h
    refine Ev.step (fun k => by rw [poly_reckoner_product.l0]) ?_
    have e : m = a.length := by omega
    subst e
    exact Ev.neg (by omega) (Ev.fix rfl)
  | succ d ih =>
    intro m h
    refine Ev.step (fun k => by rw [poly_reckoner_product.l0]) ?_
    refine Ev.pos (by omega) (Ev.pos (by omega) (Ev.pos (by omega) ?_))
    have e : (pol N fun n => cv a b m n % P f) = pol N (row (P f) a b m 0) := pol_congr fun n _ => (row_zero _ a b m n).symm
    have e2 : pol N (row (P f) a b m b.length) = pol N fun n => cv a b (m + 1) n % P f := pol_congr fun n _ => row_last _ a b m n
    rw [e]
    refine prod_inner hp0 a b ea eb N m (by omega) hN hs ?_ b.length 0 (Nat.zero_add _)
    rw [e2]
    exact ih (m + 1) (by omega)
theorem product_eq {f : Int} (hp0 : P f ≠ 0) (a b : List Int) (ea : El (P f) a) (eb : El (P f) b) (ha : a.length < 4398046511104) (hb : b.length < 4398046511104) : Ev (fun k => poly_reckoner_product.f k f a b) (mulP (P f) a b) := by
  unfold poly_reckoner_product.f mulP
  refine Ev.ite (fun c => ?_) (fun c => ?_)
  · refine Ev.step (fun k => by rw [poly_reckoner_product.j0]) ?_
    rw [if_pos (.inl (List.length_eq_zero_iff.1 (by omega)))]
    exact Ev.pos rfl (Ev.fix rfl)
  · refine Ev.step (fun k => by rw [poly_reckoner_product.j0]) ?_
    refine Ev.ite (fun q => ?_) (fun q => ?_)
    · rw [if_pos (.inr (List.length_eq_zero_iff.1 (by have := beq_iff_eq.1 q; omega)))]
      exact Ev.fix rfl
    · have hb0 : 0 < b.length := Nat.pos_of_ne_zero fun z => q (by simp [z])
      rw [if_neg (fun z => by rcases z with z | z <;> simp [z] at c hb0)]
      have e : wrap64 (wrap64 ((a.length : Int) + (b.length : Int)) - 1) = ((a.length + b.length - 1 : Nat) : Int) := by rw [w64_in (i := (a.length : Int) + b.length) (by omega) (by omega), w64_in (by omega) (by omega)]; omega
      rw [e, Int.toNat_natCast, pol_zero]
      refine Ev.pos (by omega) (Ev.pos (by omega) ?_)
      have h := prod_outer hp0 a b ea eb (a.length + b.length - 1) rfl (by omega) a.length 0 (Nat.zero_add _)
      simpa [cv] using h
theorem PMul_eq (f : Int) (a b : List Int) (wa : Wd a) (wb : Wd b) (ha : a.length < 17592186044416) (hb : b.length < 17592186044416) : Ev (fun k => poly_Mul.f k f a b) (Pmul f a b) := by
  unfold poly_Mul.f Pmul
  refine Ev.bind (may2_eq f a b (by omega) (by omega)) (Ev.ite (fun c => ?_) (fun c => ?_))
  · rw [if_pos c]
    obtain ⟨ka, kb, la, lb⟩ := bad_zero c
    have ta := trim_le a; have tb := trim_le b
    have ea := trim_el (wa.el (ok_all ka)); have eb := trim_el (wb.el (ok_all kb))
    have pr := product_eq (ok_iff.1 ka).1 (trim a) (trim b) ea eb (by omega) (by omega)
    refine Ev.bind (trimmed_eq a (by omega)) (Ev.bind (trimmed_eq b (by omega)) ?_)
    have nil : ∀ l : List Int, (¬ (l.length : Int) > 0) → l = [] := fun l q => List.length_eq_zero_iff.1 (by omega)
    refine Ev.ite (fun q => Ev.ite (fun r => ?_) (fun r => ?_)) (fun q => ?_)
    · rw [if_neg (fun z => by rcases z with z | z <;> simp [z] at q r)]
      have e : wrap64 (wrap64 (((trim a).length : Int) + ((trim b).length : Int)) - 1) = (((trim a).length + (trim b).length - 1 : Nat) : Int) := by rw [w64_in (i := ((trim a).length : Int) + (trim b).length) (by omega) (by omega), w64_in (by omega) (by omega)]; omega
      rw [e]
      refine Ev.ite (fun s => ?_) (fun s => ?_)
      · rw [if_pos (by omega)]; exact Ev.fix rfl
      · rw [if_neg (by omega)]; exact Ev.bind pr (Ev.fix rfl)
    · have z : trim a = [] ∨ trim b = [] := .inr (nil _ r)
      rw [if_pos z]
      refine Ev.bind pr (Ev.fix ?_)
      unfold mulP; rw [if_pos z]
    · have z : trim a = [] ∨ trim b = [] := .inl (nil _ q)
      rw [if_pos z]
      refine Ev.bind pr (Ev.fix ?_)
      unfold mulP; rw [if_pos z]
  · rw [if_neg c]; exact Ev.fix rfl
end Go.Proofs.Ytbjanbbjjnoecaa.FPolyGoes
namespace Go.Proofs.Ytbjanbbjjnoecaa.FPolyGoes
open Go.RowKit Go Go.Proofs.YtbjanbbjjnoecaaW.PrintWords Go.Proofs.YtbjanbbjjnoecaaW.PrintLast Go.Proofs.YtbjanbbjjnoecaaW.PrintMore Go.Proofs.Ytbjanbbjjnoecaa.M Go.Proofs.Ytbjanbbjjnoecaa.PPolyGoes
def valE (f : Int) (a : List Int) (x : Int) : Int × Int := if bad f a [x] = 0 then (sm a x a.length % P f, 0) else (0, bad f a [x])
theorem PEval_eq (f x : Int) (a : List Int) (hx : 0 ≤ x) (wa : Wd a) (ha : a.length < 17592186044416) : Ev (fun k => poly_Eval.f k f a x) (valE f a x) := by
  unfold poly_Eval.f valE
  refine Ev.bind (In_eq f [x] (by simp)) (Ev.ite (fun q => ?_) (fun q => ?_))
  · have hp := (ok_iff.1 q).1
    have hx2 : x < P f := (ok_iff.1 q).2 x (by simp)
    have e : (if P f = 0 then 2 else bads f [a] 0) = bad f a [x] := by
      rw [if_neg hp]
      unfold bad
      by_cases ca : ok f a = true
      · rw [if_pos ⟨ca, q⟩]
        simp only [bads, if_pos ca]
        by_cases l : a.length ≤ 4096
        · rw [if_neg (by omega), if_pos ⟨l, by simp⟩]
        · rw [if_pos (by omega), if_neg (fun z => l z.1)]
      · rw [if_neg (fun z => ca z.1)]
        simp only [bads, if_neg ca]
    have m := may_eq f [a] (by simp; omega) (by simp)
    rw [e] at m
    refine Ev.bind m (Ev.ite (fun b => ?_) (fun b => ?_))
    · rw [if_pos b]
      obtain ⟨ka, _, la, _⟩ := bad_zero b
      have ea := wa.el (ok_all ka)
      refine Ev.pos ?_ (Ev.fix ?_)
      · rw [Bool.and_eq_true]
        refine ⟨by unfold inF; simp [hx, hx2], List.all_eq_true.2 fun c hc => ?_⟩
        have := ea c hc
        unfold inF; simp [this]
      · rw [← horner]; rfl
    · rw [if_neg b]; exact Ev.fix rfl
  · have e : bad f a [x] = 2 := by unfold bad; rw [if_neg (fun z => q z.2)]
    rw [e, if_neg (by omega)]; exact Ev.fix rfl
end Go.Proofs.Ytbjanbbjjnoecaa.FPolyGoes
namespace Go.Proofs.Ytbjanbbjjnoecaa.FPolyGoes
open Go.RowKit Go Go.Proofs.YtbjanbbjjnoecaaW.PrintWords Go.Proofs.YtbjanbbjjnoecaaW.PrintLast Go.Proofs.YtbjanbbjjnoecaaW.PrintMore Go.Proofs.Ytbjanbbjjnoecaa.M Go.Proofs.Ytbjanbbjjnoecaa.PPolyGoes
theorem anchored3 : Ev (fun k => conclavelaw03_anchored.f k) true := by
  unfold conclavelaw03_anchored.f
  have w1 : Wd [1, 1] := Wd.cons (by omega) (Wd.cons (by omega) Wd.nil)
  have w2 : Wd [2013265921] := Wd.cons (by omega) Wd.nil
  have e1 : Pmul 2 [1, 1] [1, 1] = ([1, 2, 1], 0) := by kernel_rfl
  have e2 : valE 1 [2013265921] 1 = (0, 2) := by kernel_rfl
  have h1 := PMul_eq 2 [1, 1] [1, 1] w1 w1 (by simp) (by simp)
  have h2 := PEval_eq 1 1 [2013265921] (by omega) w2 (by simp)
  rw [e1] at h1
  rw [e2] at h2
  exact Ev.bind h1 (Ev.bind h2 (Ev.pos rfl (Ev.pos rfl (Ev.bind (rSame _ _ (by simp)) (Ev.fix (by simp))))))
end Go.Proofs.Ytbjanbbjjnoecaa.FPolyGoes
namespace Go.Proofs.Ytbjanbbjjnoecaa.FPolyGoes
open Go.RowKit Go Go.Proofs.YtbjanbbjjnoecaaW.PrintWords Go.Proofs.YtbjanbbjjnoecaaW.PrintLast Go.Proofs.YtbjanbbjjnoecaaW.PrintMore Go.Proofs.Ytbjanbbjjnoecaa.M Go.Proofs.Ytbjanbbjjnoecaa.PPolyGoes
theorem bad_el {f : Int} {a b : List Int} (wa : Wd a) (wb : Wd b) (h : bad f a b = 0) : Pr (P f) ∧ P f ≠ 0 ∧ El (P f) a ∧ El (P f) b ∧ a.length ≤ 4096 ∧ b.length ≤ 4096 := by
  obtain ⟨ka, kb, la, lb⟩ := bad_zero h
  exact ⟨ok_pr ka, (ok_iff.1 ka).1, wa.el (ok_all ka), wb.el (ok_all kb), la, lb⟩
end Go.Proofs.Ytbjanbbjjnoecaa.FPolyGoes
namespace Go.Proofs.Ytbjanbbjjnoecaa.FPolyGoes
open Go.RowKit Go Go.Proofs.YtbjanbbjjnoecaaW.PrintWords Go.Proofs.YtbjanbbjjnoecaaW.PrintLast Go.Proofs.YtbjanbbjjnoecaaW.PrintMore Go.Proofs.Ytbjanbbjjnoecaa.M Go.Proofs.Ytbjanbbjjnoecaa.PPolyGoes
theorem iev_mod (p : Int) (x : Int) : ∀ l : List Int, ev l (x % p) % p = ev l x % p
  | [] => rfl
  | c :: r => by rw [ev_cons, ev_cons, ← emod_add_r, emod_mul_l, ← emod_mul_r, iev_mod p x r, emod_mul_r, emod_add_r]
theorem set_cg {p : Int} {r : List Int} (h : 0 < r.length) (c : Int) : Cg p (ev (r.set 0 ((rd r 0 + c) % p))) (fun x => ev r x + c) := by
  cases r with
  | nil => simp at h
  | cons a t =>
    refine ⟨fun _ => -((a + c) / p), Pf.const _, fun x => ?_⟩
    show ev ((a + c) % p :: t) x = ev (a :: t) x + c + p * -((a + c) / p)
    rw [ev_cons, ev_cons, Int.emod_def]
    grind
theorem row_cg (f : Int) (s q : List Int) : Cg (P f) (ev (into_row f s q)) (fun x => ev s x * ev q x) := by
  have h : Cg (P f) (ev (mulP (P f) (trim s) q)) (fun x => ev s x * ev q x) := (mulP_cg _ _ _).trans (Cg.of fun x => by rw [ev_trim])
  unfold into_row
  split
  · rename_i c
    rw [c] at h
    exact Cg.trans (Cg.of fun x => by simp [ev_cons, ev_nil]) h
  · exact h
theorem step_cg {f : Int} (hp : P f ≠ 0) {m : Nat} {s q : List Int} (h : into_G f m s) (lq : q.length ≤ 4096) (c : Int) : Cg (P f) (ev (into_step f q c s)) (fun x => ev s x * ev q x + c) := by
  obtain ⟨_, _, h3⟩ := into_row_facts hp h lq
  rw [into_step_eq]
  exact (set_cg h3 c).trans ((row_cg f s q).add (Cg.refl fun _ => c))
theorem Pf_comp (q : List Int) : ∀ l : List Int, Pf fun x => ev l (ev q x)
  | [] => (Pf.const 0).congr fun _ => rfl
  | c :: r => ((Pf.const c).add ((Pf.of q).mul (Pf_comp q r))).congr fun _ => ev_cons _ _ _
theorem into_foldr {f : Int} (hp : P f ≠ 0) {q : List Int} (lq : q.length ≤ 4096) : ∀ l : List Int, into_G f l.length (l.foldr (into_step f q) []) ∧ Cg (P f) (ev (l.foldr (into_step f q) [])) (fun x => ev l (ev q x))
  | [] => ⟨⟨El.nil, by simp⟩, Cg.of fun _ => rfl⟩
  | c :: l => by
    obtain ⟨h1, h2⟩ := into_foldr hp lq l
    refine ⟨into_G_step hp h1 lq c, (step_cg hp h1 lq c).trans ?_⟩
    refine (Cg.add (Cg.mul h2 (Cg.refl (ev q)) (Pf_comp q l) (Pf.of q)) (Cg.refl fun _ => c)).trans (Cg.of fun x => ?_)
    rw [ev_cons]; grind
theorem into_len {f : Int} {q : List Int} : ∀ l : List Int, l ≠ [] → (l.foldr (into_step f q) []).length ≤ (l.length - 1) * (q.length - 1) + 1
  | [], h => absurd rfl h
  | c :: l, _ => by
    show (into_step f q c (l.foldr (into_step f q) [])).length ≤ l.length * (q.length - 1) + 1
    rw [into_step_eq, List.length_set]
    unfold into_row
    split
    · simp
    · rename_i z
      have zl : trim (l.foldr (into_step f q) []) ≠ [] := fun e => z (by unfold mulP; rw [if_pos (.inl e)])
      have zq : q ≠ [] := fun e => z (by unfold mulP; rw [if_pos (.inr e)])
      have nl : l ≠ [] := fun e => zl (by rw [e]; rfl)
      rw [mulP_len zl zq]
      have ih := into_len (f := f) (q := q) l nl
      have t := trim_le (l.foldr (into_step f q) [])
      have lq := List.length_pos_iff.2 zq
      obtain ⟨m, hm⟩ : ∃ m, l.length = m + 1 := ⟨l.length - 1, by have := List.length_pos_iff.2 nl; omega⟩
      rw [hm, Nat.add_sub_cancel] at ih
      rw [hm, Nat.add_mul, Nat.one_mul]
      omega
def Pin (f : Int) (a b : List Int) : List Int × Int :=
  if bad f a b = 0 then (if (trim a).length > 1 ∧ (trim b).length > 1 ∧ ((trim a).length - 1) * ((trim b).length - 1) ≥ 4096 then ([], 4) else (into_all f (trim a) (trim b), 0)) else ([], bad f a b)
theorem into_ok_of {f : Int} (hp : P f ≠ 0) {p q : List Int} (ep : El (P f) p) (eq : El (P f) q) (lp : p.length ≤ 4096) (lq : q.length ≤ 4096) : into_ok f p q = true := by
  unfold into_ok
  simp only [Bool.and_eq_true, List.all_eq_true, decide_eq_true_eq]
  exact ⟨⟨⟨⟨fun x hx => into_in_iff.2 (ep x hx), fun x hx => into_in_iff.2 (eq x hx)⟩, lp⟩, lq⟩, hp⟩
theorem less_mul (x y : Nat) (hx : 1 ≤ x) (hy : 1 ≤ y) : ((x : Int) - 1) * ((y : Int) - 1) = (((x - 1) * (y - 1) : Nat) : Int) := by
  rw [Int.natCast_mul, show ((x - 1 : Nat) : Int) = (x : Int) - 1 by omega, show ((y - 1 : Nat) : Int) = (y : Int) - 1 by omega]
theorem mul_small {x y : Nat} (hx : x ≤ 4096) (hy : y ≤ 4096) : (x - 1) * (y - 1) ≤ 16777216 := Nat.le_trans (Nat.mul_le_mul (show x - 1 ≤ 4096 by omega) (show y - 1 ≤ 4096 by omega)) (by decide)
theorem Into_eq (f : Int) (a b : List Int) (wa : Wd a) (wb : Wd b) (ha : a.length < 17592186044416) (hb : b.length < 17592186044416) : Ev (fun k => poly_Into.f k f a b) (Pin f a b) := by
  unfold poly_Into.f Pin
  refine Ev.bind (may2_eq f a b (by omega) (by omega)) (Ev.ite (fun c => ?_) (fun c => ?_))
  · rw [if_pos c]
    obtain ⟨hp, hp0, ea, eb, la, lb⟩ := bad_el wa wb c
    have ta := trim_le a; have tb := trim_le b
    have ok := into_ok_of hp0 (trim_el ea) (trim_el eb) (by omega) (by omega)
    have go : Ev (fun k => poly_Into.j0 k f (trim a) [] false (trim b)) (into_all f (trim a) (trim b), 0) :=
      Ev.step (fun k => by rw [poly_Into.j0]) (Ev.neg (by decide) (Ev.pos ok (Ev.fix rfl)))
    refine Ev.bind (trimmed_eq a (by omega)) (Ev.bind (trimmed_eq b (by omega)) ?_)
    rw [show wrap64 (((trim a).length : Int) - 1) = ((trim a).length : Int) - 1 from w64_in (by omega) (by omega), show wrap64 (((trim b).length : Int) - 1) = ((trim b).length : Int) - 1 from w64_in (by omega) (by omega)]
    refine Ev.ite (fun s => Ev.ite (fun t => ?_) (fun t => ?_)) (fun s => ?_)
    · have ms := mul_small (x := (trim a).length) (y := (trim b).length) (by omega) (by omega)
      rw [less_mul _ _ (by omega) (by omega), w64_in (by omega) (by omega)]
      by_cases u : ((trim a).length - 1) * ((trim b).length - 1) ≥ 4096
      · rw [if_pos ⟨by omega, by omega, u⟩, decide_eq_true (show ((((trim a).length - 1) * ((trim b).length - 1) : Nat) : Int) ≥ 4096 by omega)]
        exact Ev.step (fun k => by rw [poly_Into.j0]) (Ev.pos rfl (Ev.fix rfl))
      · rw [if_neg (fun z => u z.2.2), decide_eq_false (show ¬ ((((trim a).length - 1) * ((trim b).length - 1) : Nat) : Int) ≥ 4096 by omega)]
        exact go
    · rw [if_neg (fun z => by have := z.2.1; omega)]; exact go
    · rw [if_neg (fun z => by have := z.1; omega)]; exact go
  · rw [if_neg c]; exact Ev.fix rfl
theorem into_all_cn {f : Int} (hp0 : P f ≠ 0) (p : List Int) {q : List Int} (lq : q.length ≤ 4096) : Cn (P f) (into_all f p q) ∧ Cg (P f) (ev (into_all f p q)) (fun x => ev p (ev q x)) := by
  obtain ⟨h1, h2⟩ := into_foldr hp0 lq p
  exact ⟨Cn.trim h1.1, (Cg.trim _).trans h2⟩
theorem into_all_len {f : Int} (p q : List Int) : (into_all f p q).length ≤ (p.length - 1) * (q.length - 1) + 1 := by
  have t := trim_le (p.foldr (into_step f q) [])
  by_cases h : p = []
  · subst h; exact Nat.zero_le _
  · have := into_len (f := f) (q := q) p h
    show (trim (p.foldr (into_step f q) [])).length ≤ _
    omega
end Go.Proofs.Ytbjanbbjjnoecaa.FPolyGoes
namespace Go.Proofs.Ytbjanbbjjnoecaa.Pure
open Go.RowKit Go.Proofs.Ytbjanbbjjnoecaa.PPolyGoes Go.Proofs.YtbjanbbjjnoecaaW.PrintWords Go.Proofs.YtbjanbbjjnoecaaW.PrintLast Go.Proofs.Ytbjanbbjjnoecaa.M Go.Proofs.Ytbjanbbjjnoecaa.FPolyGoes
theorem val_good {f x : Int} (hp0 : P f ≠ 0) {a : List Int} (ea : El (P f) a) (la : a.length ≤ 4096) (hx : 0 ≤ x ∧ x < P f) : valE f a x = (ev a x % P f, 0) := by
  unfold valE
  rw [if_pos (bad_good hp0 ea (El.cons hx El.nil) la (by simp))]
  rfl
theorem val_none (a : List Int) (x : Int) : valE 0 a x = (0, 2) := by
  have h : ok 0 a = false := rfl
  have e : bad 0 a [x] = 2 := by unfold bad; rw [h, if_neg (fun z => by cases z.1)]
  unfold valE
  rw [e]; rfl
theorem goes_not (f x : Int) (p q : List Int) (hx : 0 ≤ x) (wp : Wd p) (hp : p.length < 17592186044416) : Ev (fun k => conclavelaw03_PolyGoes.j0 k x f p q true) true := by
  have g := PEval_eq 0 x p hx wp hp
  rw [val_none] at g
  exact Ev.step (fun k => by rw [conclavelaw03_PolyGoes.j0]) (Ev.pos rfl (Ev.bind g (Ev.bind anchored3 (Ev.pos rfl (Ev.fix rfl)))))
theorem mul_room {x y : Nat} (h : x * y ≤ 4000) (hx : 0 < x) (hy : 0 < y) : x + y ≤ 4001 ∧ (x - 1) * (y - 1) ≤ 4000 := by
  refine ⟨?_, Nat.le_trans (Nat.mul_le_mul (Nat.sub_le _ _) (Nat.sub_le _ _)) h⟩
  obtain ⟨a, rfl⟩ : ∃ a, x = a + 1 := ⟨x - 1, by omega⟩
  obtain ⟨b, rfl⟩ : ∃ b, y = b + 1 := ⟨y - 1, by omega⟩
  have e : (a + 1) * (b + 1) = a * b + a + b + 1 := by rw [Nat.add_mul, Nat.mul_add, Nat.mul_add]; omega
  have := Nat.zero_le (a * b)
  omega
theorem PolyGoes : conclavelaw03_PolyGoes.Pure := by
  intro f p q x _ _ ha wa _ hb wb hx
  refine Ev.rounds (g := fun k => conclavelaw03_PolyGoes.f k f p q x) ?_
  have w1 := Wd.of_wf wa; have w2 := Wd.of_wf wb
  have x0 := wf_u64 hx
  have no := goes_not f x p q x0.1 w1 (by omega)
  unfold conclavelaw03_PolyGoes.f
  refine Ev.bind (rBad f p q (by omega) (by omega)) (Ev.ite (fun c => ?_) (fun _ => no))
  refine Ev.bind (rBad f [x] [] (by simp) (by simp)) (Ev.ite (fun d => ?_) (fun _ => no))
  obtain ⟨hp, hp0, ea, eb, la, lb⟩ := bad_el w1 w2 c
  have hlo := hp.lo; have hhi := hp.hi
  have hxx : 0 ≤ x ∧ x < P f := ⟨x0.1, (ok_iff.1 (bad_zero d).1).2 x (by simp)⟩
  have mm : p.length * q.length ≤ 16777216 := Nat.le_trans (Nat.mul_le_mul la lb) (by decide)
  rw [show ((p.length : Int) * (q.length : Int)) = ((p.length * q.length : Nat) : Int) from (Int.natCast_mul _ _).symm, w64_in (by omega) (by omega)]
  by_cases u : p.length * q.length ≤ 4000
  · rw [decide_eq_false (show ¬ ((p.length * q.length : Nat) : Int) > 4000 by omega)]
    have ta := trim_le p; have tb := trim_le q
    have ca := Cn.trim (p := P f) ea; have cb := Cn.trim (p := P f) eb
    have room : trim p = [] ∨ trim q = [] ∨ ((trim p).length + (trim q).length ≤ 4097 ∧ ((trim p).length - 1) * ((trim q).length - 1) ≤ 4000) := by
      by_cases y : trim p = []
      · exact .inl y
      · by_cases z : trim q = []
        · exact .inr (.inl z)
        · have h := mul_room (Nat.le_trans (Nat.mul_le_mul ta tb) u) (List.length_pos_iff.2 y) (List.length_pos_iff.2 z)
          exact .inr (.inr ⟨by omega, h.2⟩)
    have nl : ¬ ((trim p).length > 1 ∧ (trim q).length > 1 ∧ ((trim p).length - 1) * ((trim q).length - 1) ≥ 4096) := by
      rintro ⟨h1, h2, h3⟩
      rcases room with e | e | ⟨_, e⟩
      · rw [e] at h1; simp at h1
      · rw [e] at h2; simp at h2
      · omega
    have hlen : ((trim p).length - 1) * ((trim q).length - 1) ≤ 4095 := by
      rcases room with e | e | ⟨_, e⟩
      · rw [e]; simp
      · rw [e]; simp
      · omega
    have g1 := PAdd_eq f p q w1 w2 (by omega) (by omega)
    rw [Padd_good hp0 ea eb la lb] at g1
    have g2 := PMul_eq f p q w1 w2 (by omega) (by omega)
    rw [Pmul_good hp0 ea eb la lb (room.imp id (fun h => h.imp id (fun h => h.1)))] at g2
    have g3 := Into_eq f p q w1 w2 (by omega) (by omega)
    have e3 : Pin f p q = (into_all f (trim p) (trim q), 0) := by unfold Pin; rw [if_pos c, if_neg nl]
    rw [e3] at g3
    obtain ⟨c3, v3⟩ := into_all_cn hp0 (trim p) (q := trim q) (by omega)
    have l3 := into_all_len (f := f) (trim p) (trim q)
    have cs := sumP_cn (p := P f) (by omega) p q
    have ls : (sumP (P f) p q).length ≤ 4096 := by
      unfold sumP; exact Nat.le_trans (trim_le _) (by rw [pol_len]; omega)
    have cm := mulP_cn hp ca cb
    have lm : (mulP (P f) (trim p) (trim q)).length ≤ 4096 := by
      by_cases z : trim p = [] ∨ trim q = []
      · unfold mulP; rw [if_pos z]; exact Nat.zero_le _
      · rw [mulP_len (fun e => z (.inl e)) (fun e => z (.inr e))]
        rcases room with e | e | ⟨e, _⟩
        · exact absurd (.inl e) z
        · exact absurd (.inr e) z
        · omega
    have U := emod_rng (p := P f) (ev p x) (by omega)
    have V := emod_rng (p := P f) (ev q x) (by omega)
    have wd : ∀ l : List Int, El (P f) l → Wd l := fun l e => e.wd (by omega)
    have h1 := PEval_eq f x p hxx.1 w1 (by omega)
    have h2 := PEval_eq f x q hxx.1 w2 (by omega)
    have h3 := PEval_eq f x (sumP (P f) p q) hxx.1 (wd _ cs.el) (by omega)
    have h4 := PEval_eq f x (mulP (P f) (trim p) (trim q)) hxx.1 (wd _ cm.el) (by omega)
    have h5 := PEval_eq f x (into_all f (trim p) (trim q)) hxx.1 (wd _ c3.el) (by omega)
    have h6 := PEval_eq f (ev q x % P f) p V.1 w1 (by omega)
    rw [val_good hp0 ea la hxx] at h1
    rw [val_good hp0 eb lb hxx] at h2
    rw [val_good hp0 cs.el ls hxx] at h3
    rw [val_good hp0 cm.el lm hxx] at h4
    rw [val_good hp0 c3.el (by omega) hxx] at h5
    rw [val_good hp0 ea la V] at h6
    have k1 : ev (sumP (P f) p q) x % P f = (ev p x % P f + ev q x % P f) % P f := by rw [(sumP_cg (P f) p q).at x, emod_add_l, emod_add_r]
    have k2 : ev (mulP (P f) (trim p) (trim q)) x % P f = ev p x % P f * (ev q x % P f) % P f := by rw [(mulP_cg (P f) (trim p) (trim q)).at x, ev_trim, ev_trim, emod_mul_l, emod_mul_r]
    have k3 : ev (into_all f (trim p) (trim q)) x % P f = ev p (ev q x % P f) % P f := by rw [v3.at x, ev_trim, ev_trim, iev_mod]
    have go : Ev (fun k => conclavelaw03_PolyGoes.j0 k x f p q false) true := by
      refine Ev.step (fun k => by rw [conclavelaw03_PolyGoes.j0]) ?_
      refine Ev.neg (by decide) (Ev.bind g1 (Ev.bind g2 (Ev.bind g3 (Ev.bind h1 (Ev.bind h2 (Ev.bind h3 (Ev.bind h4 (Ev.bind h5 (Ev.bind h6 (Ev.bnd (rP f) (Ev.bind anchored3 ?_)))))))))))
      refine Ev.pos rfl (Ev.pos rfl (Ev.pos rfl (Ev.pos rfl (Ev.pos rfl (Ev.pos rfl (Ev.pos rfl (Ev.pos rfl ?_)))))))
      dsimp only
      refine Ev.bnd (rSum (by omega) (by omega) U.1 U.2 V.1 V.2) (Ev.pos k1 (Ev.bind (rTimes (by omega) (by omega) U.1 U.2 V.1 (by omega)) (Ev.pos k2 (Ev.fix ?_))))
      rw [k3]; simp
    exact go
  · rw [decide_eq_true (show ((p.length * q.length : Nat) : Int) > 4000 by omega)]
    exact no
end Go.Proofs.Ytbjanbbjjnoecaa.Pure
