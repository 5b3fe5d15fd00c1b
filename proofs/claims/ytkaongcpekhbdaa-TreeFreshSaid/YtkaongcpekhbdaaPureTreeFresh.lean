/- TreeFresh: what is handed in stays, and what is answered is new memory: spoiled, it changes neither what was handed in nor the other rows of its level, and the values are the reference's again. For every field number and every two lists of words. -/
import Derived.Test.YtkaongcpekhbdaaMTreeFresh
import Derived.Test.YtkaongcpekhbdaaPTreeFreshx
namespace Go.Proofs.Ytkaongcpekhbdaa.FTreeFresh
open Go.RowKit Go Go.Proofs.YtkaongcpekhbdaaW.PrintWords Go.Proofs.YtkaongcpekhbdaaW.PrintLast Go.Proofs.YtkaongcpekhbdaaW.PrintMore Go.Proofs.Ytkaongcpekhbdaa.M Go.Proofs.Ytkaongcpekhbdaa.PTreeFresh
theorem trimmed_loop (l : List Int) (hl : l.length < 4611686018427387904) : ∀ n : Nat, n ≤ l.length → Ev (fun k => poly_trimmed.l0 k l (n : Int)) (l.take (tl l n)) := by
  intro n
  induction n with
  | zero =>
    intro _
    refine Ev.step (fun k => by rw [poly_trimmed.l0]) ?_
    exact Ev.neg (by omega) (Ev.pos (by omega) (Ev.pos (by omega) (Ev.fix rfl)))
  | succ n ih =>
    intro hn
    have e : wrap64 (((n + 1 : Nat) : Int) - 1) = (n : Int) := by rw [w64_in (by omega) (by omega)]; omega
    refine Ev.step (fun k => by rw [poly_trimmed.l0]) ?_
    rw [e]
    refine Ev.pos (by omega) (Ev.pos (by omega) (Ev.pos (by omega) (Ev.ite (fun c => ?_) (fun c => ?_))))
    · rw [tl, if_pos c]; exact ih (by omega)
    · rw [tl, if_neg c]; exact Ev.pos (by omega) (Ev.pos (by omega) (Ev.fix rfl))
theorem trimmed_eq (l : List Int) (hl : l.length < 4611686018427387904) : Ev (fun k => poly_trimmed.f k l) (trim l) := by
  unfold poly_trimmed.f
  exact trimmed_loop l hl l.length (Nat.le_refl _)
theorem clone_eq (l : List Int) (hl : l.length < 17592186044416) : slices_Clone_uint64_uint64.f l = some l := by
  unfold slices_Clone_uint64_uint64.f; rw [if_pos hl]
theorem Trim_eq (l : List Int) (hl : l.length < 17592186044416) : Ev (fun k => poly_Trim.f k l) (trim l) := by
  unfold poly_Trim.f
  exact Ev.bind (trimmed_eq l (by omega)) (Ev.bnd (clone_eq _ (by have := trim_le l; omega)) (Ev.fix rfl))
end Go.Proofs.Ytkaongcpekhbdaa.FTreeFresh
namespace Go.Proofs.Ytkaongcpekhbdaa.FTreeFresh
open Go.RowKit Go Go.Proofs.YtkaongcpekhbdaaW.PrintWords Go.Proofs.YtkaongcpekhbdaaW.PrintLast Go.Proofs.YtkaongcpekhbdaaW.PrintMore Go.Proofs.Ytkaongcpekhbdaa.M Go.Proofs.Ytkaongcpekhbdaa.PTreeFresh
def PF (p : Int) (w : Bool) : Prop := (p = 2013265921 ∧ w = false) ∨ (p = 18446744069414584321 ∧ w = true)
theorem PF.lo {p : Int} {w : Bool} (h : PF p w) : 2013265921 ≤ p := by unfold PF at h; omega
theorem PF.hi {p : Int} {w : Bool} (h : PF p w) : p ≤ 18446744069414584321 := by unfold PF at h; omega
theorem addLo_eq (a b : Int) (ha : 0 ≤ a) (hb : 0 ≤ b) : addLo a b = (a + b) % 18446744073709551616 := by unfold addLo; omega
theorem addHi_eq (a b : Int) (ha : 0 ≤ a) (hb : 0 ≤ b) : addHi a b = (a + b) / 18446744073709551616 := by unfold addHi; omega
theorem subLo_eq (a b : Int) (ha : 0 ≤ a) (hb : 0 ≤ b) (hb1 : b < 18446744073709551616) : subLo a b = (a - b) % 18446744073709551616 := by unfold subLo; omega
theorem subHi_eq (a b : Int) (ha : 0 ≤ a) (hb : 0 ≤ b) : subHi a b = if a < b then 1 else 0 := by
  unfold subHi; split <;> split <;> omega
theorem add_eq {p : Int} {w : Bool} (h : PF p w) {a b : Int} (ha : 0 ≤ a) (ha1 : a < p) (hb : 0 ≤ b) (hb1 : b < p) : field_reckoner_add.f p w a b = some ((a + b) % p) := by
  have h1 := h.lo; have h2 := h.hi
  have e : (a + b) % p = if a + b < p then a + b else a + b - p := by
    split
    · exact Int.emod_eq_of_lt (by omega) (by omega)
    · rw [← Int.sub_emod_right]; exact Int.emod_eq_of_lt (by omega) (by omega)
  unfold field_reckoner_add.f
  rw [addLo_eq _ _ ha hb, addHi_eq _ _ ha hb, e]
  simp only [u64w]
  (repeat' split) <;> (congr 1; omega)
theorem sub_eq {p : Int} {w : Bool} (h : PF p w) {a b : Int} (ha : 0 ≤ a) (ha1 : a < p) (hb : 0 ≤ b) (hb1 : b < p) : field_reckoner_sub.f p w a b = some ((a - b) % p) := by
  have h1 := h.lo; have h2 := h.hi
  have e : (a - b) % p = if a < b then a - b + p else a - b := by
    split
    · rw [← Int.add_emod_right]; exact Int.emod_eq_of_lt (by omega) (by omega)
    · exact Int.emod_eq_of_lt (by omega) (by omega)
  unfold field_reckoner_sub.f
  rw [subLo_eq _ _ ha hb (by omega), subHi_eq _ _ ha hb, e]
  simp only [u64w]
  (repeat' split) <;> first | (exfalso; omega) | (congr 1; omega)
theorem mul64_eq {a b : Int} (ha : 0 ≤ a) (ha1 : a < 18446744073709551616) (hb : 0 ≤ b) (hb1 : b < 18446744073709551616) :
    bits_Mul64.f a b = some (a * b / 18446744073709551616, a * b % 18446744073709551616) := by
  have e := mul_parts a b
  have k1 := mul_half (a / 4294967296) (b / 4294967296) (by omega) (by omega) (by omega) (by omega)
  have k2 := mul_half (a / 4294967296) (b % 4294967296) (by omega) (by omega) (by omega) (by omega)
  have k3 := mul_half (a % 4294967296) (b / 4294967296) (by omega) (by omega) (by omega) (by omega)
  have k4 := mul_half (a % 4294967296) (b % 4294967296) (by omega) (by omega) (by omega) (by omega)
  unfold bits_Mul64.f
  rw [and32 a ha ha1, and32 b hb hb1]
  generalize a / 4294967296 * (b / 4294967296) = t11 at *
  generalize a / 4294967296 * (b % 4294967296) = t10 at *
  generalize a % 4294967296 * (b / 4294967296) = t01 at *
  generalize a % 4294967296 * (b % 4294967296) = t00 at *
  rw [e]
  rw [u64w_in t11 (by omega) (by omega), u64w_in t10 (by omega) (by omega), u64w_in t01 (by omega) (by omega), u64w_in t00 (by omega) (by omega)]
  rw [u64w_in (t10 + t00 / 4294967296) (by omega) (by omega), and32 (t10 + t00 / 4294967296) (by omega) (by omega)]
  obtain ⟨q, hq⟩ : ∃ q, q = t00 / 4294967296 := ⟨_, rfl⟩
  obtain ⟨r, hr⟩ : ∃ r, r = t00 % 4294967296 := ⟨_, rfl⟩
  have et : t00 = q * 4294967296 + r := by omega
  have qb : 0 ≤ q ∧ q ≤ 4294967294 := by omega
  have rb : 0 ≤ r ∧ r < 4294967296 := by omega
  rw [← hq]
  clear hq hr
  subst et
  obtain ⟨s1, hs1⟩ : ∃ s1, s1 = (t10 + q) / 4294967296 := ⟨_, rfl⟩
  obtain ⟨s0, hs0⟩ : ∃ s0, s0 = (t10 + q) % 4294967296 := ⟨_, rfl⟩
  have es : t10 = s1 * 4294967296 + s0 - q := by omega
  have sb : 0 ≤ s0 ∧ s0 < 4294967296 := by omega
  have sb1 : 0 ≤ s1 ∧ s1 < 4294967296 := by omega
  rw [← hs1, ← hs0]
  clear hs1 hs0
  subst es
  obtain ⟨v1, hv1⟩ : ∃ v1, v1 = (s0 + t01) / 4294967296 := ⟨_, rfl⟩
  obtain ⟨v0, hv0⟩ : ∃ v0, v0 = (s0 + t01) % 4294967296 := ⟨_, rfl⟩
  have ev : t01 = v1 * 4294967296 + v0 - s0 := by omega
  have vb : 0 ≤ v0 ∧ v0 < 4294967296 := by omega
  have vb1 : 0 ≤ v1 ∧ v1 < 4294967296 := by omega
  rw [u64w_in (s0 + t01) (by omega) (by omega), ← hv1]
  clear hv1 hv0
  subst ev
  rw [u64w_in (t11 + s1) (by omega) (by omega), u64w_in (t11 + s1 + v1) (by omega) (by omega)]
  have e2 : t11 * 18446744073709551616 + (s1 * 4294967296 + s0 - q + (v1 * 4294967296 + v0 - s0)) * 4294967296 + (q * 4294967296 + r) = (t11 + s1 + v1) * 18446744073709551616 + (v0 * 4294967296 + r) := by omega
  rw [e2, u64w]
  simp only [Option.some.injEq, Prod.mk.injEq]
  exact ⟨by omega, trivial⟩
theorem mul_lt {p a b : Int} (ha : 0 ≤ a) (ha1 : a < p) (hb : 0 ≤ b) (hb1 : b < p) : 0 ≤ a * b ∧ a * b < p * p := by
  refine ⟨Int.mul_nonneg ha hb, ?_⟩
  have h := Int.mul_le_mul (show a ≤ p - 1 by omega) (show b ≤ p - 1 by omega) hb (by omega)
  have : (p - 1) * (p - 1) = p * p - 2 * p + 1 := by grind
  omega
theorem emod_rng {p : Int} (x : Int) (hp : 0 < p) : 0 ≤ x % p ∧ x % p < p := ⟨Int.emod_nonneg _ (by omega), Int.emod_lt_of_pos _ hp⟩
theorem mul_eq {p : Int} {w : Bool} (h : PF p w) {a b : Int} (ha : 0 ≤ a) (ha1 : a < p) (hb : 0 ≤ b) (hb1 : b < p) : field_reckoner_mul.f p w a b = some (a * b % p) := by
  have h1 := h.lo; have h2 := h.hi
  obtain ⟨m0, m1⟩ := mul_lt ha ha1 hb hb1
  unfold field_reckoner_mul.f
  rw [mul64_eq ha (by omega) hb (by omega)]
  simp only [Option.bind_some]
  rcases h with ⟨rfl, rfl⟩ | ⟨rfl, rfl⟩
  · simp only [Bool.false_eq_true, if_false, bits_Rem64.f, bits_Div64.f]
    generalize a * b = m at *
    have e0 : m / 18446744073709551616 = 0 := by omega
    have e1 : m % 18446744073709551616 = m := by omega
    rw [e0, e1]
    simp [Int.tmod_eq_emod_of_nonneg m0]
  · simp only [if_true]
    generalize a * b = m at *
    have hhi : 0 ≤ m / 18446744073709551616 ∧ m / 18446744073709551616 < 18446744073709551616 := by omega
    rw [and32 _ hhi.1 hhi.2]
    have hP : PF 18446744069414584321 true := .inr ⟨rfl, rfl⟩
    rw [u64w_in (m / 18446744073709551616 % 4294967296 * 4294967296) (by omega) (by omega), u64w_in (m / 18446744073709551616 % 4294967296 * 4294967296 - m / 18446744073709551616 % 4294967296) (by omega) (by omega)]
    split
    · rw [u64w_in _ (by omega) (by omega), sub_eq hP (by omega) (by omega) (by omega) (by omega)]
      simp only [Option.bind_some]
      rw [add_eq hP (emod_rng _ (by omega)).1 (emod_rng _ (by omega)).2 (by omega) (by omega)]
      simp only [Option.bind_some, Option.some.injEq]
      omega
    · rw [sub_eq hP (by omega) (by omega) (by omega) (by omega)]
      simp only [Option.bind_some]
      rw [add_eq hP (emod_rng _ (by omega)).1 (emod_rng _ (by omega)).2 (by omega) (by omega)]
      simp only [Option.bind_some, Option.some.injEq]
      omega
theorem pow_loop {p : Int} {w : Bool} (h : PF p w) : ∀ (d : Nat) (a n acc : Int), 0 ≤ a → a < p → 0 ≤ acc → acc < p → 0 ≤ n → n < 2 ^ d → n < 18446744073709551616 →
    Ev (fun k => field_reckoner_pow.l0 k a n acc p w) (acc * a ^ n.toNat % p) := by
  have h1 := h.lo; have h2 := h.hi
  intro d
  induction d with
  | zero =>
    intro a n acc ha ha1 hc hc1 hn hn1 hn2
    obtain rfl : n = 0 := by simp at hn1; omega
    refine Ev.step (fun k => by rw [field_reckoner_pow.l0]) ?_
    refine Ev.neg (by omega) (Ev.fix ?_)
    simp [Int.emod_eq_of_lt hc hc1]
  | succ d ih =>
    intro a n acc ha ha1 hc hc1 hn hn1 hn2
    refine Ev.step (fun k => by rw [field_reckoner_pow.l0]) ?_
    refine Ev.ite (fun c => ?_) (fun c => ?_)
    · have r1 := emod_rng (a * a) (p := p) (by omega)
      have r2 := emod_rng (acc * a) (p := p) (by omega)
      have hd : n / 2 < 2 ^ d := by
        have : (2 : Int) ^ (d + 1) = 2 ^ d * 2 := Int.pow_succ _ _
        omega
      have hnn : n.toNat = 2 * (n / 2).toNat + (n % 2).toNat := by omega
      have hsq : ∀ m : Nat, a ^ (2 * m) = (a * a) ^ m := fun m => by
        rw [Int.pow_mul]; congr 1; rw [Int.pow_succ, Int.pow_succ]; simp
      refine Ev.ite (fun c1 => ?_) (fun c1 => ?_)
      · rw [and1 n hn hn2] at c1
        refine Ev.bnd (mul_eq h hc hc1 ha ha1) (Ev.bnd (mul_eq h ha ha1 ha ha1) ?_)
        refine Ev.cast (ih _ _ _ r1.1 r1.2 r2.1 r2.2 (by omega) hd (by omega)) ?_
        rw [hnn, c1, show (1 : Int).toNat = 1 from rfl, Int.pow_succ, hsq]
        rw [emod_mul_l, ← emod_mul_r _ ((a * a % p) ^ _), emod_pow_l, emod_mul_r]
        congr 1; grind
      · rw [and1 n hn hn2] at c1
        have c2 : n % 2 = 0 := by omega
        refine Ev.bnd (mul_eq h ha ha1 ha ha1) ?_
        refine Ev.cast (ih _ _ _ r1.1 r1.2 hc hc1 (by omega) hd (by omega)) ?_
        rw [hnn, c2, show (0 : Int).toNat = 0 from rfl, Nat.add_zero, hsq]
        rw [← emod_mul_r _ ((a * a % p) ^ _), emod_pow_l, emod_mul_r]
    · obtain rfl : n = 0 := by omega
      refine Ev.fix ?_
      simp [Int.emod_eq_of_lt hc hc1]
theorem pow_eq {p : Int} {w : Bool} (h : PF p w) {a n : Int} (ha : 0 ≤ a) (ha1 : a < p) (hn : 0 ≤ n) (hn2 : n < 18446744073709551616) :
    Ev (fun k => field_reckoner_pow.f k p w a n) (a ^ n.toNat % p) := by
  have h1 := h.lo
  exact Ev.cast (pow_loop h 64 a n 1 ha ha1 (by omega) (by omega) hn (by simpa using hn2) hn2) (by simp)
theorem of_eq (f : Int) : field_of.f f = if f = 1 then some (2013265921, false, true) else if f = 2 then some (18446744069414584321, true, true) else some (0, false, false) := rfl
end Go.Proofs.Ytkaongcpekhbdaa.FTreeFresh
namespace Go.Proofs.Ytkaongcpekhbdaa.FTreeFresh
open Go.RowKit Go Go.Proofs.YtkaongcpekhbdaaW.PrintWords Go.Proofs.YtkaongcpekhbdaaW.PrintLast Go.Proofs.YtkaongcpekhbdaaW.PrintMore Go.Proofs.Ytkaongcpekhbdaa.M Go.Proofs.Ytkaongcpekhbdaa.PTreeFresh
theorem pf_of {f : Int} (h : P f ≠ 0) : PF (P f) (wd f) := by
  unfold PF P wd at *
  by_cases h1 : f = 1
  · subst h1; simp
  · by_cases h2 : f = 2
    · subst h2; simp
    · simp [h1, h2] at h
theorem of_is (f : Int) : field_of.f f = some (P f, wd f, decide (P f ≠ 0)) := by
  unfold field_of.f P wd
  by_cases h1 : f = 1
  · subst h1; simp
  · by_cases h2 : f = 2
    · subst h2; simp
    · simp [h1, h2]
theorem in_loop (p : Int) (w : Bool) (l : List Int) (hl : l.length < 4611686018427387904) : ∀ (d i : Nat), i + d = l.length →
    Ev (fun k => field_reckoner_in.l0 k l (l.length : Int) (i : Int) p w) (allIn p (l.drop i)) := by
  intro d
  induction d with
  | zero =>
    intro i hi
    refine Ev.step (fun k => by rw [field_reckoner_in.l0]) ?_
    refine Ev.neg (by omega) (Ev.fix ?_)
    rw [List.drop_eq_nil_of_le (by omega), allIn_nil]
  | succ d ih =>
    intro i hi
    have hlt : i < l.length := by omega
    refine Ev.step (fun k => by rw [field_reckoner_in.l0]) ?_
    refine Ev.pos (by omega) (Ev.pos (by omega) (Ev.pos (by omega) ?_))
    rw [drop_rd hlt, allIn_cons]
    refine Ev.ite (fun c => ?_) (fun c => ?_)
    · refine Ev.fix ?_
      rw [decide_eq_false (by omega), Bool.false_and]
    · rw [decide_eq_true (by omega), Bool.true_and, w64_succ (by omega)]
      exact ih (i + 1) (by omega)
theorem in_eq (p : Int) (w : Bool) (l : List Int) (hl : l.length < 4611686018427387904) : Ev (fun k => field_reckoner_in.f k p w l) (allIn p l) := by
  have := in_loop p w l hl l.length 0 (by omega)
  simpa [field_reckoner_in.f] using this
theorem asked_eq (f : Int) (l : List Int) (hl : l.length < 4611686018427387904) :
    Ev (fun k => field_asked.f k f l) (if ok f l then (P f, wd f, 0) else (0, false, 2)) := by
  unfold field_asked.f
  refine Ev.bnd (of_is f) ?_
  by_cases hp : P f = 0
  · have e : ok f l = false := by unfold ok; simp [hp]
    simp only [hp, e]
    exact Ev.fix (by simp)
  · refine Ev.pos (by simpa using hp) ?_
    refine Ev.bind (in_eq (P f) (wd f) l hl) ?_
    have e : ok f l = allIn (P f) l := by unfold ok; simp [hp]
    rw [e]
    refine Ev.ite (fun c => ?_) (fun c => ?_)
    · exact Ev.fix (by rw [if_pos c])
    · exact Ev.fix (by rw [if_neg c])
theorem asked_yes {f : Int} {l : List Int} (hl : l.length < 4611686018427387904) (h : ok f l = true) : Ev (fun k => field_asked.f k f l) (P f, wd f, 0) :=
  Ev.cast (asked_eq f l hl) (by rw [if_pos h])
theorem asked_no {f : Int} {l : List Int} (hl : l.length < 4611686018427387904) (h : ¬ ok f l = true) : Ev (fun k => field_asked.f k f l) (0, false, 2) :=
  Ev.cast (asked_eq f l hl) (by rw [if_neg h])
theorem ok2 {f a b : Int} (h : ok f [a, b] = true) : PF (P f) (wd f) ∧ a < P f ∧ b < P f := by
  have := ok_iff.1 h
  exact ⟨pf_of this.1, this.2 a (by simp), this.2 b (by simp)⟩
theorem ok1 {f a : Int} (h : ok f [a] = true) : PF (P f) (wd f) ∧ a < P f := by
  have := ok_iff.1 h
  exact ⟨pf_of this.1, this.2 a (by simp)⟩
theorem Add_eq (f a b : Int) (ha : 0 ≤ a) (hb : 0 ≤ b) : Ev (fun k => field_Add.f k f a b) (if ok f [a, b] then ((a + b) % P f, 0) else (0, 2)) := by
  unfold field_Add.f
  refine Ev.bind (asked_eq f _ (by simp)) ?_
  by_cases h : ok f [a, b] = true
  · simp only [h, if_true]
    obtain ⟨hp, h1, h2⟩ := ok2 h
    exact Ev.bnd (add_eq hp ha h1 hb h2) (Ev.fix rfl)
  · simp only [h]
    exact Ev.fix (by simp)
theorem Sub_eq (f a b : Int) (ha : 0 ≤ a) (hb : 0 ≤ b) : Ev (fun k => field_Sub.f k f a b) (if ok f [a, b] then ((a - b) % P f, 0) else (0, 2)) := by
  unfold field_Sub.f
  refine Ev.bind (asked_eq f _ (by simp)) ?_
  by_cases h : ok f [a, b] = true
  · simp only [h, if_true]
    obtain ⟨hp, h1, h2⟩ := ok2 h
    exact Ev.bnd (sub_eq hp ha h1 hb h2) (Ev.fix rfl)
  · simp only [h]
    exact Ev.fix (by simp)
theorem Mul_eq (f a b : Int) (ha : 0 ≤ a) (hb : 0 ≤ b) : Ev (fun k => field_Mul.f k f a b) (if ok f [a, b] then (a * b % P f, 0) else (0, 2)) := by
  unfold field_Mul.f
  refine Ev.bind (asked_eq f _ (by simp)) ?_
  by_cases h : ok f [a, b] = true
  · simp only [h, if_true]
    obtain ⟨hp, h1, h2⟩ := ok2 h
    exact Ev.bnd (mul_eq hp ha h1 hb h2) (Ev.fix rfl)
  · simp only [h]
    exact Ev.fix (by simp)
theorem inv_eq {p : Int} {w : Bool} (h : PF p w) {a : Int} (ha : 0 ≤ a) (ha1 : a < p) : Ev (fun k => field_reckoner_inv.f k p w a) (a ^ (p - 2).toNat % p) := by
  have h1 := h.lo; have h2 := h.hi
  unfold field_reckoner_inv.f
  rw [u64w_in _ (by omega) (by omega)]
  exact Ev.bind (pow_eq h ha ha1 (by omega) (by omega)) (Ev.fix rfl)
def quot (f a b : Int) : Int × Int := if ok f [a, b] then (if b = 0 then (0, 5) else (a * (b ^ (P f - 2).toNat % P f) % P f, 0)) else (0, 2)
theorem Div_eq (f a b : Int) (ha : 0 ≤ a) (hb : 0 ≤ b) : Ev (fun k => field_Div.f k f a b) (quot f a b) := by
  unfold field_Div.f quot
  refine Ev.bind (asked_eq f _ (by simp)) ?_
  by_cases h : ok f [a, b] = true
  · simp only [h, if_true]
    obtain ⟨hp, h1, h2⟩ := ok2 h
    by_cases hb0 : b = 0
    · simp only [hb0, if_true]; exact Ev.fix rfl
    · simp only [hb0, if_false]
      have hr := emod_rng (p := P f) (b ^ (P f - 2).toNat) (by have := hp.lo; omega)
      exact Ev.bind (inv_eq hp hb h2) (Ev.bnd (mul_eq hp ha h1 hr.1 hr.2) (Ev.fix rfl))
  · simp only [h]
    exact Ev.fix (by simp)
theorem Inv_eq (f a : Int) (ha : 0 ≤ a) : Ev (fun k => field_Inv.f k f a) (quot f 1 a) := by
  unfold field_Inv.f
  exact Ev.bind (Div_eq f 1 a (by decide) ha) (Ev.fix rfl)
theorem In_eq (f : Int) (l : List Int) (hl : l.length < 4611686018427387904) : Ev (fun k => field_In.f k f l) (ok f l) := by
  unfold field_In.f
  refine Ev.bind (asked_eq f _ hl) ?_
  by_cases h : ok f l = true
  · simp only [h]; exact Ev.fix (by simp)
  · simp only [h]; exact Ev.fix (by simp)
end Go.Proofs.Ytkaongcpekhbdaa.FTreeFresh
namespace Go.Proofs.Ytkaongcpekhbdaa.FTreeFresh
open Go.RowKit Go Go.Proofs.YtkaongcpekhbdaaW.PrintWords Go.Proofs.YtkaongcpekhbdaaW.PrintLast Go.Proofs.YtkaongcpekhbdaaW.PrintMore Go.Proofs.Ytkaongcpekhbdaa.M Go.Proofs.Ytkaongcpekhbdaa.PTreeFresh
theorem rP (f : Int) : cr1_P.f f = some (P f) := by
  unfold cr1_P.f P; split <;> (try split) <;> rfl
theorem rSum {p a b : Int} (hp : 0 < p) (hp1 : p < 18446744073709551616) (ha : 0 ≤ a) (ha1 : a < p) (hb : 0 ≤ b) (hb1 : b < p) : cr1_Sum.f p a b = some ((a + b) % p) := by
  have e : (a + b) % p = if a + b < p then a + b else a + b - p := by
    split
    · exact Int.emod_eq_of_lt (by omega) (by omega)
    · rw [← Int.sub_emod_right]; exact Int.emod_eq_of_lt (by omega) (by omega)
  unfold cr1_Sum.f
  rw [e]
  simp only [u64w]
  (repeat' split) <;> first | (exfalso; omega) | (congr 1; omega)
theorem shr_eq (b : Int) (i : Nat) (hi : i < 64) : shr .u64 b (IntKind.u64.wrap (i : Int)) = b / 2 ^ i := by
  unfold shr
  rw [u64w_in _ (by omega) (by omega)]
  simp [IntKind.bits, Nat.min_eq_left (show i ≤ 64 by omega)]
theorem bit_split (b : Int) (i : Nat) : b % 2 ^ (i + 1) = (b / 2 ^ i % 2) * 2 ^ i + b % 2 ^ i := by
  have h : (2 : Int) ^ (i + 1) = 2 ^ i * 2 := Int.pow_succ _ _
  have hp : (0 : Int) < 2 ^ i := Int.pow_pos (by decide)
  have h1 := Int.emod_add_mul_ediv b (2 ^ i)
  have h2 := Int.emod_add_mul_ediv (b / 2 ^ i) 2
  have h3 := Int.emod_nonneg b (show (2 : Int) ^ i ≠ 0 by omega)
  have h4 := Int.emod_lt_of_pos b hp
  have h5 : (b / 2 ^ i % 2) * 2 ^ i + b % 2 ^ i < 2 ^ (i + 1) := by
    have : b / 2 ^ i % 2 = 0 ∨ b / 2 ^ i % 2 = 1 := by omega
    rcases this with e | e <;> rw [e, h] <;> omega
  have h6 : 0 ≤ (b / 2 ^ i % 2) * 2 ^ i + b % 2 ^ i := by
    have := Int.mul_nonneg (show 0 ≤ b / 2 ^ i % 2 by omega) (show (0 : Int) ≤ 2 ^ i by omega)
    omega
  have h7 : b = (b / 2 ^ i % 2) * 2 ^ i + b % 2 ^ i + 2 ^ (i + 1) * (b / 2 ^ i / 2) := by
    rw [h]
    generalize b / 2 ^ i = q at *
    generalize b % 2 ^ i = r at *
    generalize (2 : Int) ^ i = t at *
    generalize q % 2 = c at *
    generalize q / 2 = e at *
    subst h2
    rw [← h1]
    grind
  conv => lhs; rw [h7, Int.add_mul_emod_self_left]
  exact Int.emod_eq_of_lt h6 h5
theorem times_loop {p : Int} (hp : 0 < p) (hp1 : p < 18446744073709551616) {a b : Int} (ha : 0 ≤ a) (ha1 : a < p) (hb : 0 ≤ b) (hb1 : b < 18446744073709551616) : ∀ (d : Nat) (s : Int), d ≤ 64 → 0 ≤ s → s < p →
    Ev (fun k => cr1_Times.l0 k p a b s ((d : Int) - 1)) ((s * 2 ^ d + (b % 2 ^ d) * a) % p) := by
  intro d
  induction d with
  | zero =>
    intro s _ hs hs1
    refine Ev.step (fun k => by rw [cr1_Times.l0]) ?_
    refine Ev.neg (by omega) (Ev.fix ?_)
    simp [Int.emod_one, Int.emod_eq_of_lt hs hs1]
  | succ d ih =>
    intro s hd hs hs1
    have r1 : 0 ≤ (s + s) % p ∧ (s + s) % p < p := ⟨Int.emod_nonneg _ (by omega), Int.emod_lt_of_pos _ hp⟩
    have r2 : 0 ≤ ((s + s) % p + a) % p ∧ ((s + s) % p + a) % p < p := ⟨Int.emod_nonneg _ (by omega), Int.emod_lt_of_pos _ hp⟩
    have hi : wrap64 (((d + 1 : Nat) : Int) - 1 - 1) = (d : Int) - 1 := by rw [w64_in (by omega) (by omega)]; omega
    have hx : (((d + 1 : Nat) : Int) - 1) = ((d : Nat) : Int) := by omega
    refine Ev.step (fun k => by rw [cr1_Times.l0]) ?_
    refine Ev.pos (by omega) (Ev.bnd (rSum hp hp1 hs hs1 hs hs1) ?_)
    rw [hi, hx, shr_eq b d (by omega)]
    have hbd : 0 ≤ b / 2 ^ d := Int.ediv_nonneg hb (Int.le_of_lt (Int.pow_pos (by decide)))
    have hbd1 : b / 2 ^ d ≤ b := Int.ediv_le_self _ hb
    rw [and1 _ hbd (by omega), bit_split b d]
    have h2 : (2 : Int) ^ (d + 1) = 2 ^ d * 2 := Int.pow_succ _ _
    refine Ev.pos (by rw [u64w]; omega) (Ev.ite (fun c => ?_) (fun c => ?_))
    · refine Ev.bnd (rSum hp hp1 r1.1 r1.2 ha ha1) (Ev.cast (ih _ (by omega) r2.1 r2.2) ?_)
      rw [c, ← emod_add_l ((((s + s) % p + a) % p) * 2 ^ d), emod_mul_l, ← emod_mul_l, emod_add_l (s + s) a p, emod_mul_l, emod_add_l, h2]
      congr 1; grind
    · have c0 : b / 2 ^ d % 2 = 0 := by omega
      refine Ev.cast (ih _ (by omega) r1.1 r1.2) ?_
      rw [c0, ← emod_add_l ((s + s) % p * 2 ^ d), emod_mul_l, emod_add_l, h2]
      congr 1; grind
theorem rTimes {p : Int} (hp : 0 < p) (hp1 : p < 18446744073709551616) {a b : Int} (ha : 0 ≤ a) (ha1 : a < p) (hb : 0 ≤ b) (hb1 : b < 18446744073709551616) : Ev (fun k => cr1_Times.f k p a b) (a * b % p) := by
  have h := times_loop hp hp1 ha ha1 hb hb1 64 0 (by omega) (by omega) hp
  refine Ev.cast h ?_
  rw [Int.emod_eq_of_lt hb (by simpa using hb1)]
  congr 1; grind
theorem rIn_loop (p : Int) (l : List Int) (hl : l.length < 4611686018427387904) : ∀ (d i : Nat), i + d = l.length →
    Ev (fun k => cr1_In.l0 k l p (i : Int)) (allIn p (l.drop i) && p != 0) := by
  intro d
  induction d with
  | zero =>
    intro i hi
    refine Ev.step (fun k => by rw [cr1_In.l0]) ?_
    refine Ev.neg (by omega) (Ev.fix ?_)
    rw [List.drop_eq_nil_of_le (by omega), allIn_nil, Bool.true_and]
  | succ d ih =>
    intro i hi
    have hlt : i < l.length := by omega
    refine Ev.step (fun k => by rw [cr1_In.l0]) ?_
    refine Ev.pos (by omega) (Ev.pos (by omega) ?_)
    rw [drop_rd hlt, allIn_cons]
    refine Ev.ite (fun c => ?_) (fun c => ?_)
    · refine Ev.fix ?_
      rw [decide_eq_false (by omega), Bool.false_and, Bool.false_and]
    · rw [decide_eq_true (by omega), Bool.true_and, w64_succ (by omega)]
      exact ih (i + 1) (by omega)
theorem rIn (f : Int) (l : List Int) (hl : l.length < 4611686018427387904) : Ev (fun k => cr1_In.f k f l) (ok f l) := by
  unfold cr1_In.f
  refine Ev.bnd (rP f) ?_
  have := rIn_loop (P f) l hl l.length 0 (by omega)
  refine Ev.cast this ?_
  unfold ok
  rw [List.drop_zero, Bool.and_comm]
  congr 1
  by_cases h : P f = 0 <;> simp [h]
theorem rSame_loop (a b : List Int) (hl : a.length < 4611686018427387904) (he : a.length = b.length) : ∀ (d i : Nat), i + d = a.length →
    Ev (fun k => cr1_Same.l0 k a b (i : Int)) (decide (a.drop i = b.drop i)) := by
  intro d
  induction d with
  | zero =>
    intro i hi
    refine Ev.step (fun k => by rw [cr1_Same.l0]) ?_
    refine Ev.neg (by omega) (Ev.fix ?_)
    rw [List.drop_eq_nil_of_le (by omega), List.drop_eq_nil_of_le (by omega)]; simp
  | succ d ih =>
    intro i hi
    refine Ev.step (fun k => by rw [cr1_Same.l0]) ?_
    refine Ev.pos (by omega) (Ev.pos (by omega) ?_)
    rw [drop_rd (l := a) (by omega), drop_rd (l := b) (by omega), w64_succ (by omega)]
    have hb : (i : Int) < (b.length : Int) := by omega
    by_cases c : rd a (i : Int) = rd b (i : Int)
    · refine Ev.cast (r := decide (a.drop (i + 1) = b.drop (i + 1))) ?_ (by simp [c])
      simp only [hb, c, if_true]
      exact ih (i + 1) (by omega)
    · refine Ev.cast (r := false) ?_ (by simp [c])
      simp only [hb, c, if_true, if_false]
      exact Ev.fix rfl
theorem rSame (a b : List Int) (hl : a.length < 4611686018427387904) : Ev (fun k => cr1_Same.f k a b) (decide (a = b)) := by
  unfold cr1_Same.f
  by_cases he : a.length = b.length
  · have h := rSame_loop a b hl he a.length 0 (by omega)
    rw [List.drop_zero, List.drop_zero] at h
    have he' : (a.length : Int) = (b.length : Int) := by omega
    simp only [he', if_true]
    exact h
  · refine Ev.cast (r := false) ?_ (by rw [decide_eq_false]; rintro rfl; exact he rfl)
    have he' : ¬ (a.length : Int) = (b.length : Int) := by omega
    simp only [he', if_false]
    exact Ev.fix rfl
end Go.Proofs.Ytkaongcpekhbdaa.FTreeFresh
namespace Go.Proofs.Ytkaongcpekhbdaa.FTreeFresh
open Go.RowKit Go Go.Proofs.YtkaongcpekhbdaaW.PrintWords Go.Proofs.YtkaongcpekhbdaaW.PrintLast Go.Proofs.YtkaongcpekhbdaaW.PrintMore Go.Proofs.Ytkaongcpekhbdaa.M Go.Proofs.Ytkaongcpekhbdaa.PTreeFresh
theorem ok_two {f a b : Int} (hp : P f ≠ 0) (ha : a < P f) (hb : b < P f) : ok f [a, b] = true := ok_iff.2 ⟨hp, by simp [ha, hb]⟩
theorem ok_nil {f : Int} : ok f [] = true ↔ P f ≠ 0 := by rw [ok_iff]; simp
theorem mx_nat (a b : Nat) : mx (a : Int) (b : Int) = ((max a b : Nat) : Int) := by unfold mx; split <;> omega
theorem pol_succ (n : Nat) (g : Nat → Int) : pol (n + 1) g = pol n g ++ [g n] := by simp [pol, List.range_succ]
theorem kadd_eq {f a b : Int} (hp : P f ≠ 0) (ha : 0 ≤ a ∧ a < P f) (hb : 0 ≤ b ∧ b < P f) : Ev (fun k => poly_reckoner_add.f k f a b) ((a + b) % P f) := by
  unfold poly_reckoner_add.f
  refine Ev.bind (Add_eq f a b ha.1 hb.1) ?_
  rw [if_pos (ok_two hp ha.2 hb.2)]
  exact Ev.fix rfl
theorem ksub_eq {f a b : Int} (hp : P f ≠ 0) (ha : 0 ≤ a ∧ a < P f) (hb : 0 ≤ b ∧ b < P f) : Ev (fun k => poly_reckoner_sub.f k f a b) ((a - b) % P f) := by
  unfold poly_reckoner_sub.f
  refine Ev.bind (Sub_eq f a b ha.1 hb.1) ?_
  rw [if_pos (ok_two hp ha.2 hb.2)]
  exact Ev.fix rfl
theorem kmul_eq {f a b : Int} (hp : P f ≠ 0) (ha : 0 ≤ a ∧ a < P f) (hb : 0 ≤ b ∧ b < P f) : Ev (fun k => poly_reckoner_mul.f k f a b) (a * b % P f) := by
  unfold poly_reckoner_mul.f
  refine Ev.bind (Mul_eq f a b ha.1 hb.1) ?_
  rw [if_pos (ok_two hp ha.2 hb.2)]
  exact Ev.fix rfl
theorem trimmed_own_loop (l : List Int) (hl : l.length < 4611686018427387904) : ∀ n : Nat, n ≤ l.length → Ev (fun k => poly_trimmed_own.l0 k l (n : Int)) (l.take (tl l n)) := by
  intro n
  induction n with
  | zero =>
    intro _
    refine Ev.step (fun k => by rw [poly_trimmed_own.l0]) ?_
    exact Ev.neg (by omega) (Ev.pos (by omega) (Ev.pos (by omega) (Ev.fix rfl)))
  | succ n ih =>
    intro hn
    have e : wrap64 (((n + 1 : Nat) : Int) - 1) = (n : Int) := by rw [w64_in (by omega) (by omega)]; omega
    refine Ev.step (fun k => by rw [poly_trimmed_own.l0]) ?_
    rw [e]
    refine Ev.pos (by omega) (Ev.pos (by omega) (Ev.pos (by omega) (Ev.ite (fun c => ?_) (fun c => ?_))))
    · rw [tl, if_pos c]; exact ih (by omega)
    · rw [tl, if_neg c]; exact Ev.pos (by omega) (Ev.pos (by omega) (Ev.fix rfl))
theorem trimmed_own_eq (l : List Int) (hl : l.length < 4611686018427387904) : Ev (fun k => poly_trimmed_own.f k l) (trim l) := by
  unfold poly_trimmed_own.f
  exact trimmed_own_loop l hl l.length (Nat.le_refl _)
def bads (f : Int) : List (List Int) → Int → Int
  | [], e => e
  | l :: r, e => if ok f l = true then bads f r (if l.length > 4096 then 4 else e) else 2
theorem rd_L1_lt {L : List (List Int)} {i : Nat} (h : i < L.length) : rd_L1 L (i : Int) = L[i] := by
  unfold rd_L1; rw [Int.toNat_natCast, List.getD_eq_getElem?_getD, List.getElem?_eq_getElem h]; rfl
theorem may_loop (f : Int) (L : List (List Int)) (hL : ∀ l ∈ L, l.length < 4611686018427387904) (hn : L.length < 4611686018427387904) : ∀ (d i : Nat) (e : Int), i + d = L.length →
    Ev (fun k => poly_may.l0 k f e L (L.length : Int) (i : Int)) (bads f (L.drop i) e) := by
  intro d
  induction d with
  | zero =>
    intro i e h
    refine Ev.step (fun k => by rw [poly_may.l0]) ?_
    rw [List.drop_of_length_le (by omega)]
    exact Ev.neg (by omega) (Ev.fix rfl)
  | succ d ih =>
    intro i e h
    have hi : i < L.length := by omega
    refine Ev.step (fun k => by rw [poly_may.l0]) ?_
    rw [rd_L1_lt hi, w64_succ (by omega), List.drop_eq_getElem_cons hi, bads]
    refine Ev.pos (by omega) (Ev.pos (by omega) (Ev.pos (by omega) (Ev.bind (In_eq f _ (hL _ (List.getElem_mem hi))) (Ev.ite (fun c => ?_) (fun c => ?_)))))
    · rw [if_pos c]
      refine Ev.ite (fun q => ?_) (fun q => ?_)
      · rw [if_pos (by omega)]; exact ih (i + 1) 4 (by omega)
      · rw [if_neg (by omega)]; exact ih (i + 1) e (by omega)
    · rw [if_neg c]; exact Ev.fix rfl
theorem may_eq (f : Int) (L : List (List Int)) (hL : ∀ l ∈ L, l.length < 4611686018427387904) (hn : L.length < 4611686018427387904) : Ev (fun k => poly_may.f k f L) (if P f = 0 then 2 else bads f L 0) := by
  unfold poly_may.f
  refine Ev.bind (In_eq f [] (by simp)) (Ev.ite (fun c => ?_) (fun c => ?_))
  · rw [if_neg (ok_nil.1 c)]
    exact may_loop f L hL hn L.length 0 0 (by omega)
  · rw [if_pos (Classical.not_not.1 fun z => c (ok_nil.2 z))]; exact Ev.fix rfl
theorem may2_eq (f : Int) (a b : List Int) (ha : a.length < 4611686018427387904) (hb : b.length < 4611686018427387904) : Ev (fun k => poly_may.f k f [a, b]) (bad f a b) := by
  refine Ev.cast (may_eq f [a, b] (by simp [ha, hb]) (by simp)) ?_
  unfold bad
  by_cases z : P f = 0
  · rw [if_pos z, if_neg (fun c => (ok_iff.1 c.1).1 z)]
  · rw [if_neg z]
    by_cases ca : ok f a = true
    · by_cases cb : ok f b = true
      · simp only [bads, if_pos ca, if_pos cb, if_pos (And.intro ca cb)]
        by_cases la : a.length ≤ 4096
        · by_cases lb : b.length ≤ 4096
          · rw [if_neg (by omega), if_neg (by omega), if_pos ⟨la, lb⟩]
          · rw [if_pos (by omega), if_neg (fun q => lb q.2)]
        · rw [if_neg (show ¬ (a.length ≤ 4096 ∧ b.length ≤ 4096) from fun q => la q.1), if_pos (show a.length > 4096 by omega)]
          split <;> rfl
      · rw [if_neg (fun c => cb c.2)]; simp only [bads, if_pos ca, if_neg cb]
    · rw [if_neg (fun c => ca c.1)]; simp only [bads, if_neg ca]
theorem padded (a b : List Int) : a.take (List.replicate (max a.length b.length) (0 : Int)).length ++ (List.replicate (max a.length b.length) (0 : Int)).drop a.length = pol (max a.length b.length) (cf a) := by
  refine pol_ext (by simp; omega) fun i hi => ?_
  rw [List.take_of_length_le (by simp; omega)]
  unfold cf rd
  rw [Int.toNat_natCast, List.getD_eq_getElem?_getD, List.getD_eq_getElem?_getD]
  by_cases c : i < a.length
  · rw [List.getElem?_append_left c]
  · rw [List.getElem?_append_right (by omega), List.getElem?_eq_none (l := a) (by omega), List.getElem?_drop, List.getElem?_replicate]
    split <;> rfl
end Go.Proofs.Ytkaongcpekhbdaa.FTreeFresh
namespace Go.Proofs.Ytkaongcpekhbdaa.FTreeFresh
open Go.RowKit Go Go.Proofs.YtkaongcpekhbdaaW.PrintWords Go.Proofs.YtkaongcpekhbdaaW.PrintLast Go.Proofs.YtkaongcpekhbdaaW.PrintMore Go.Proofs.Ytkaongcpekhbdaa.M Go.Proofs.Ytkaongcpekhbdaa.PTreeFresh
theorem ok_all {f : Int} {l : List Int} (h : ok f l = true) : allIn (P f) l = true := by unfold ok at h; simp at h; exact h.2
theorem rBad (f : Int) (a b : List Int) (ha : a.length < 4611686018427387904) (hb : b.length < 4611686018427387904) : Ev (fun k => cr3_Bad.f k f a b) (bad f a b) := by
  unfold cr3_Bad.f bad
  refine Ev.bind (rIn f a ha) (Ev.ite (fun c => ?_) (fun c => ?_))
  · refine Ev.bind (rIn f b hb) ?_
    refine Ev.step (fun k => by rw [cr3_Bad.j0]) ?_
    by_cases cb : ok f b = true
    · rw [if_pos (And.intro c cb), cb]
      refine Ev.neg (by simp) (Ev.ite (fun q => ?_) (fun q => Ev.ite (fun r => ?_) (fun r => ?_)))
      · rw [if_neg (fun z => by have := z.1; omega)]; exact Ev.fix rfl
      · rw [if_neg (fun z => by have := z.2; omega)]; exact Ev.fix rfl
      · rw [if_pos ⟨by omega, by omega⟩]; exact Ev.fix rfl
    · rw [if_neg (show ¬ (ok f a = true ∧ ok f b = true) from fun z => cb z.2), show ok f b = false by simpa using cb]
      exact Ev.pos rfl (Ev.fix rfl)
  · rw [if_neg (fun z => c z.1)]
    refine Ev.step (fun k => by rw [cr3_Bad.j0]) ?_
    exact Ev.pos rfl (Ev.fix rfl)
theorem rd_pol {n i : Nat} {g : Nat → Int} (h : i < n) : rd (pol n g) (i : Int) = g i := by
  have := cf_pol (n := n) (g := g) (i := i); rw [if_pos h] at this; exact this
theorem prod_inner {f : Int} (hp0 : P f ≠ 0) (a b : List Int) (ea : El (P f) a) (eb : El (P f) b) (N m : Nat) (hm : m < a.length) (hN : N = a.length + b.length - 1) (hs : N < 17592186044416) {R : List Int}
    (hk : Ev (fun k => poly_reckoner_product.l0 k b (pol N (row (P f) a b m b.length)) a (a.length : Int) ((m + 1 : Nat) : Int) f) R) : ∀ (d j : Nat), j + d = b.length →
    Ev (fun k => poly_reckoner_product.l1 k b (pol N (row (P f) a b m j)) (m : Int) (cf a m) a (a.length : Int) (m : Int) b (b.length : Int) (j : Int) f) R := by
  have hp := P_pr hp0
  have hlo := hp.lo; have hhi := hp.hi
  intro d
  induction d with
  | zero =>
    intro j h
    refine Ev.step (fun k => by rw [poly_reckoner_product.l1]) ?_
    have e : j = b.length := by omega
    subst e
    rw [show wrap64 ((m : Int) + 1) = ((m + 1 : Nat) : Int) from w64_succ (by omega)]
    exact Ev.neg (by omega) hk
  | succ d ih =>
    intro j h
    refine Ev.step (fun k => by rw [poly_reckoner_product.l1]) ?_
    rw [show wrap64 ((j : Int) + 1) = ((j + 1 : Nat) : Int) from w64_succ (by omega), show wrap64 ((m : Int) + (j : Int)) = ((m + j : Nat) : Int) by rw [w64_in (by omega) (by omega)]; omega, rd_pol (by omega), show rd b (j : Int) = cf b j from rfl]
    have ra := cf_el ea (by omega) m; have rb := cf_el eb (by omega) j
    refine Ev.pos (by omega) (Ev.pos (by omega) (Ev.pos (by omega) (Ev.pos (by omega) (Ev.pos (by rw [pol_len]; omega) (Ev.bind (kmul_eq hp0 ra rb) (Ev.bind (kadd_eq hp0 (row_rng (by omega) a b m j (m + j)) (emod_rng _ (by omega))) ?_))))))
    rw [Int.toNat_natCast, row_set (by omega)]
    exact ih (j + 1) (by omega)
theorem prod_outer {f : Int} (hp0 : P f ≠ 0) (a b : List Int) (ea : El (P f) a) (eb : El (P f) b) (N : Nat) (hN : N = a.length + b.length - 1) (hs : N < 17592186044416) : ∀ (d m : Nat), m + d = a.length →
    Ev (fun k => poly_reckoner_product.l0 k b (pol N fun n => cv a b m n % P f) a (a.length : Int) (m : Int) f) (pol N fun n => cv a b a.length n % P f) := by
  intro d
  induction d with
  | zero =>
    intro m h
    refine Ev.step (fun k => by rw [poly_reckoner_product.l0]) ?_
    have e : m = a.length := by omega
    subst e
    exact Ev.neg (by omega) (Ev.fix rfl)
  | succ d ih =>
    intro m h
    refine Ev.step (fun k => by rw [poly_reckoner_product.l0]) ?_
    refine Ev.pos (by omega) (Ev.pos (by omega) (Ev.pos (by omega) ?_))
    have e : (pol N fun n => cv a b m n % P f) = pol N (row (P f) a b m 0) := pol_congr fun n _ => (row_zero _ a b m n).symm
    have e2 : pol N (row (P f) a b m b.length) = pol N fun n => cv a b (m + 1) n % P f := pol_congr fun n _ => row_last _ a b m n
    rw [e]
    refine prod_inner hp0 a b ea eb N m (by omega) hN hs ?_ b.length 0 (Nat.zero_add _)
    rw [e2]
    exact ih (m + 1) (by omega)
theorem product_eq {f : Int} (hp0 : P f ≠ 0) (a b : List Int) (ea : El (P f) a) (eb : El (P f) b) (ha : a.length < 4398046511104) (hb : b.length < 4398046511104) : Ev (fun k => poly_reckoner_product.f k f a b) (mulP (P f) a b) := by
  unfold poly_reckoner_product.f mulP
  refine Ev.ite (fun c => ?_) (fun c => ?_)
  · refine Ev.step (fun k => by rw [poly_reckoner_product.j0]) ?_
    rw [if_pos (.inl (List.length_eq_zero_iff.1 (by omega)))]
    exact Ev.pos rfl (Ev.fix rfl)
  · refine Ev.step (fun k => by rw [poly_reckoner_product.j0]) ?_
    refine Ev.ite (fun q => ?_) (fun q => ?_)
    · rw [if_pos (.inr (List.length_eq_zero_iff.1 (by have := beq_iff_eq.1 q; omega)))]
      exact Ev.fix rfl
    · have hb0 : 0 < b.length := Nat.pos_of_ne_zero fun z => q (by simp [z])
      rw [if_neg (fun z => by rcases z with z | z <;> simp [z] at c hb0)]
      have e : wrap64 (wrap64 ((a.length : Int) + (b.length : Int)) - 1) = ((a.length + b.length - 1 : Nat) : Int) := by rw [w64_in (i := (a.length : Int) + b.length) (by omega) (by omega), w64_in (by omega) (by omega)]; omega
      rw [e, Int.toNat_natCast, pol_zero]
      refine Ev.pos (by omega) (Ev.pos (by omega) ?_)
      have h := prod_outer hp0 a b ea eb (a.length + b.length - 1) rfl (by omega) a.length 0 (Nat.zero_add _)
      simpa [cv] using h
theorem PMul_eq (f : Int) (a b : List Int) (wa : Wd a) (wb : Wd b) (ha : a.length < 17592186044416) (hb : b.length < 17592186044416) : Ev (fun k => poly_Mul.f k f a b) (Pmul f a b) := by
  unfold poly_Mul.f Pmul
  refine Ev.bind (may2_eq f a b (by omega) (by omega)) (Ev.ite (fun c => ?_) (fun c => ?_))
  · rw [if_pos c]
    obtain ⟨ka, kb, la, lb⟩ := bad_zero c
    have ta := trim_le a; have tb := trim_le b
    have ea := trim_el (wa.el (ok_all ka)); have eb := trim_el (wb.el (ok_all kb))
    have pr := product_eq (ok_iff.1 ka).1 (trim a) (trim b) ea eb (by omega) (by omega)
    refine Ev.bind (trimmed_eq a (by omega)) (Ev.bind (trimmed_eq b (by omega)) ?_)
    have nil : ∀ l : List Int, (¬ (l.length : Int) > 0) → l = [] := fun l q => List.length_eq_zero_iff.1 (by omega)
    refine Ev.ite (fun q => Ev.ite (fun r => ?_) (fun r => ?_)) (fun q => ?_)
    · rw [if_neg (fun z => by rcases z with z | z <;> simp [z] at q r)]
      have e : wrap64 (wrap64 (((trim a).length : Int) + ((trim b).length : Int)) - 1) = (((trim a).length + (trim b).length - 1 : Nat) : Int) := by rw [w64_in (i := ((trim a).length : Int) + (trim b).length) (by omega) (by omega), w64_in (by omega) (by omega)]; omega
      rw [e]
      refine Ev.ite (fun s => ?_) (fun s => ?_)
      · rw [if_pos (by omega)]; exact Ev.fix rfl
      · rw [if_neg (by omega)]; exact Ev.bind pr (Ev.fix rfl)
    · have z : trim a = [] ∨ trim b = [] := .inr (nil _ r)
      rw [if_pos z]
      refine Ev.bind pr (Ev.fix ?_)
      unfold mulP; rw [if_pos z]
    · have z : trim a = [] ∨ trim b = [] := .inl (nil _ q)
      rw [if_pos z]
      refine Ev.bind pr (Ev.fix ?_)
      unfold mulP; rw [if_pos z]
  · rw [if_neg c]; exact Ev.fix rfl
end Go.Proofs.Ytkaongcpekhbdaa.FTreeFresh
namespace Go.Proofs.Ytkaongcpekhbdaa.FTreeFresh
open Go.RowKit Go Go.Proofs.YtkaongcpekhbdaaW.PrintWords Go.Proofs.YtkaongcpekhbdaaW.PrintLast Go.Proofs.YtkaongcpekhbdaaW.PrintMore Go.Proofs.Ytkaongcpekhbdaa.M Go.Proofs.Ytkaongcpekhbdaa.PTreeFresh
def rowR (p c : Int) (d : Nat) (q r : List Int) (j i : Nat) : Int := if d ≤ i ∧ i < d + j then (cf r i - c * cf q (i - d)) % p else cf r i
theorem rowR_zero (p c : Int) (d : Nat) (q r : List Int) : pol r.length (rowR p c d q r 0) = r :=
  (pol_ext rfl fun i _ => by unfold rowR; rw [if_neg (by omega)]).symm
theorem rowR_last (p c : Int) (d : Nat) (q r : List Int) (h : r.length = d + q.length) : trim (pol r.length (rowR p c d q r q.length)) = stepR p c d q r := by
  unfold stepR
  congr 1
  refine pol_congr fun i hi => ?_
  unfold rowR
  by_cases c : d ≤ i
  · rw [if_pos ⟨c, by omega⟩, if_pos c]
  · rw [if_neg (fun z => c z.1), if_neg c]
theorem rowR_set {p c : Int} {d : Nat} {q r : List Int} {j : Nat} (h : d + j < r.length) : (pol r.length (rowR p c d q r j)).set (d + j) ((rowR p c d q r j (d + j) - c * cf q j % p) % p) = pol r.length (rowR p c d q r (j + 1)) := by
  rw [pol_set h]
  refine pol_congr fun i _ => ?_
  by_cases e : i = d + j
  · subst e
    unfold rowR
    rw [if_pos rfl, if_neg (by omega), if_pos (by omega), show d + j - d = j by omega, emod_sub_r]
  · rw [if_neg e]
    unfold rowR
    by_cases q : d ≤ i ∧ i < d + j
    · rw [if_pos q, if_pos ⟨q.1, by omega⟩]
    · rw [if_neg q, if_neg (by omega)]
theorem rowR_rng {p c : Int} (hp : 0 < p) {d : Nat} {q r : List Int} (hr : El p r) (j i : Nat) : 0 ≤ rowR p c d q r j i ∧ rowR p c d q r j i < p := by
  unfold rowR; split
  · exact ⟨Int.emod_nonneg _ (by omega), Int.emod_lt_of_pos _ hp⟩
  · exact cf_el hr hp i
theorem dm_stop {p top : Int} {q : List Int} {n : Nat} {g : Nat → Int} {r : List Int} (h : r.length < q.length) : dm p top q n g r = (g, r) := by
  cases n with
  | zero => rfl
  | succ n => rw [dm, if_pos h]
theorem quot_inv {f b : Int} (hp : P f ≠ 0) (hb : 0 ≤ b ∧ b < P f) (h0 : b ≠ 0) : quot f 1 b = (inv (P f) b, 0) := by
  have h := P_pr hp
  have hlo := h.lo
  unfold quot
  rw [if_pos (ok_two hp (by omega) hb.2), if_neg h0, Int.one_mul, Int.emod_emod]; rfl
theorem bad_el {f : Int} {a b : List Int} (wa : Wd a) (wb : Wd b) (h : bad f a b = 0) : Pr (P f) ∧ P f ≠ 0 ∧ El (P f) a ∧ El (P f) b ∧ a.length ≤ 4096 ∧ b.length ≤ 4096 := by
  obtain ⟨ka, kb, la, lb⟩ := bad_zero h
  exact ⟨ok_pr ka, (ok_iff.1 ka).1, wa.el (ok_all ka), wb.el (ok_all kb), la, lb⟩
theorem divm_inner {f : Int} (hp0 : P f ≠ 0) {c top : Int} (hc : 0 ≤ c ∧ c < P f) {d : Nat} {q r quo : List Int} (hq : El (P f) q) (hr : El (P f) r) (hl : r.length = d + q.length) (hs : r.length < 17592186044416) {R : List Int × List Int × Int}
    (hk : Ev (fun k => poly_DivMod.l0 k q quo (pol r.length (rowR (P f) c d q r q.length)) top f) R) : ∀ (n j : Nat), j + n = q.length →
    Ev (fun k => poly_DivMod.l1 k q quo (pol r.length (rowR (P f) c d q r j)) top (d : Int) c q (q.length : Int) (j : Int) f) R := by
  have hp := P_pr hp0
  have hlo := hp.lo; have hhi := hp.hi
  intro n
  induction n with
  | zero =>
    intro j h
    refine Ev.step (fun k => by rw [poly_DivMod.l1]) ?_
    have e : j = q.length := by omega
    subst e
    exact Ev.neg (by omega) hk
  | succ n ih =>
    intro j h
    refine Ev.step (fun k => by rw [poly_DivMod.l1]) ?_
    rw [show wrap64 ((j : Int) + 1) = ((j + 1 : Nat) : Int) from w64_succ (by omega), show wrap64 ((d : Int) + (j : Int)) = ((d + j : Nat) : Int) by rw [w64_in (by omega) (by omega)]; omega, rd_pol (by omega), show rd q (j : Int) = cf q j from rfl]
    have rb := cf_el hq (by omega) j
    refine Ev.pos (by omega) (Ev.pos (by omega) (Ev.pos (by omega) (Ev.pos (by omega) (Ev.pos (by rw [pol_len]; omega) (Ev.bind (kmul_eq hp0 hc rb) (Ev.bind (ksub_eq hp0 (rowR_rng (by omega) hr j (d + j)) (emod_rng _ (by omega))) ?_))))))
    rw [Int.toNat_natCast, rowR_set (by omega)]
    exact ih (j + 1) (by omega)
theorem divm_loop {f : Int} (hp0 : P f ≠ 0) {top : Int} (ht0 : 0 ≤ top ∧ top < P f) {q : List Int} (hq : Cn (P f) q) (hq0 : q ≠ []) (ht : cf q (q.length - 1) * top % P f = 1) (hql : q.length < 17592186044416) (N : Nat) (hN : N < 17592186044416) : ∀ (n : Nat) (g : Nat → Int) (x r : List Int), trim x = r → El (P f) x → x.length < 17592186044416 → r.length ≤ n → r.length < N + q.length →
    Ev (fun k => poly_DivMod.l0 k q (pol N g) x top f) (trim (pol N (dm (P f) top q n g r).1), (dm (P f) top q n g r).2, 0) := by
  have hp := P_pr hp0
  have hlo := hp.lo
  have q0 : q.length ≠ 0 := fun e => hq0 (List.length_eq_zero_iff.1 e)
  have stop : ∀ (n : Nat) (g : Nat → Int) (x r : List Int), trim x = r → x.length < 17592186044416 → r.length < N + q.length → r.length < q.length →
      Ev (fun k => poly_DivMod.l0 k q (pol N g) x top f) (trim (pol N (dm (P f) top q n g r).1), (dm (P f) top q n g r).2, 0) := by
    intro n g x r e hx hr hc
    refine Ev.step (fun k => by rw [poly_DivMod.l0]) ?_
    refine Ev.bind (trimmed_own_eq x (by omega)) ?_
    rw [e, dm_stop hc]
    have : q.length < N + q.length ∨ N = 0 := by omega
    refine Ev.pos ?_ (Ev.bind (trimmed_own_eq _ (by rw [pol_len]; omega)) (Ev.fix rfl))
    unfold wrap64; have := trim_le x; rw [e] at this; omega
  intro n
  induction n with
  | zero =>
    intro g x r e ex hx hn hN
    exact stop 0 g x r e hx hN (by omega)
  | succ n ih =>
    intro g x r e ex hx hn hN
    by_cases hc : r.length < q.length
    · exact stop (n + 1) g x r e hx hN hc
    · have hr : Cn (P f) r := by rw [← e]; exact Cn.trim ex
      have hl := trim_le x
      rw [e] at hl
      refine Ev.step (fun k => by rw [poly_DivMod.l0]) ?_
      refine Ev.bind (trimmed_own_eq x (by omega)) ?_
      rw [e, dm, if_neg hc]
      rw [show wrap64 ((r.length : Int) - (q.length : Int)) = ((r.length - q.length : Nat) : Int) by rw [w64_in (by omega) (by omega)]; omega, show wrap64 ((r.length : Int) - 1) = ((r.length - 1 : Nat) : Int) by rw [w64_in (by omega) (by omega)]; omega, show rd r ((r.length - 1 : Nat) : Int) = cf r (r.length - 1) from rfl]
      have hc2 := emod_rng (p := P f) (cf r (r.length - 1) * top) (by omega)
      refine Ev.neg (by omega) (Ev.pos (by omega) (Ev.pos (by omega) (Ev.bind (kmul_eq hp0 (cf_el hr.el (by omega) _) ht0) (Ev.pos (by omega) (Ev.pos (by rw [pol_len]; omega) ?_)))))
      rw [Int.toNat_natCast, pol_set (by omega)]
      have e2 := rowR_zero (P f) (cf r (r.length - 1) * top % P f) (r.length - q.length) q r
      have k2 := rowR_last (P f) (cf r (r.length - 1) * top % P f) (r.length - q.length) q r (by omega)
      have hlt := stepR_len hp hq0 hr (by omega) ht
      have h := divm_inner hp0 (top := top) (quo := pol N fun i => if i = r.length - q.length then cf r (r.length - 1) * top % P f else g i) hc2 (d := r.length - q.length) hq.el hr.el (by omega) (by omega)
        (ih _ _ _ k2 (pol_el fun i _ => rowR_rng (by omega) hr.el _ i) (by rw [pol_len]; omega) (by omega) (by omega)) q.length 0 (Nat.zero_add _)
      rw [e2] at h
      exact h
theorem PDivMod_eq (f : Int) (a b : List Int) (wa : Wd a) (wb : Wd b) (ha : a.length < 17592186044416) (hb : b.length < 17592186044416) : Ev (fun k => poly_DivMod.f k f a b) (Pdm f a b) := by
  unfold poly_DivMod.f Pdm
  refine Ev.bind (may2_eq f a b (by omega) (by omega)) (Ev.ite (fun c => ?_) (fun c => ?_))
  · rw [if_pos c]
    obtain ⟨hp, hp0, ea, eb, la, lb⟩ := bad_el wa wb c
    have hlo := hp.lo
    have ta := trim_le a; have tb := trim_le b
    refine Ev.bind (trimmed_eq b (by omega)) (Ev.ite (fun z => ?_) (fun z => ?_))
    · rw [if_pos (List.length_eq_zero_iff.1 (by omega))]; exact Ev.fix rfl
    · have hb0 : trim b ≠ [] := fun e => z (by rw [e]; rfl)
      have cb := Cn.trim (p := P f) eb
      have ca := Cn.trim (p := P f) ea
      rw [if_neg hb0, show wrap64 (((trim b).length : Int) - 1) = (((trim b).length - 1 : Nat) : Int) by rw [w64_in (by omega) (by omega)]; omega, show rd (trim b) (((trim b).length - 1 : Nat) : Int) = cf (trim b) ((trim b).length - 1) from rfl]
      have rb := cf_el cb.el (p := P f) (by omega) ((trim b).length - 1)
      have hi := Inv_eq f (cf (trim b) ((trim b).length - 1)) rb.1
      rw [quot_inv hp0 rb (cb.top hb0)] at hi
      have rg := inv_rng hp (cf (trim b) ((trim b).length - 1))
      refine Ev.pos (by omega) (Ev.pos (by omega) (Ev.bind hi (Ev.pos rfl (Ev.bind (Trim_eq a ha) ?_))))
      obtain ⟨N, hN⟩ : ∃ N : Nat, N = max 0 ((trim a).length + 1 - (trim b).length) := ⟨_, rfl⟩
      have e : mx 0 (wrap64 (wrap64 (((trim a).length : Int) - ((trim b).length : Int)) + 1)) = (N : Int) := by
        rw [w64_in (i := ((trim a).length : Int) - ((trim b).length : Int)) (by omega) (by omega), w64_in (by omega) (by omega)]
        unfold mx; split <;> omega
      rw [e, Int.toNat_natCast, pol_zero]
      refine Ev.pos (by omega) (Ev.pos (by omega) ?_)
      refine Ev.cast (divm_loop hp0 rg cb hb0 (top_inv hp cb hb0) (by omega) N (by omega) (trim a).length (fun _ => 0) (trim a) (trim a) (trim_trim a) ca.el (by omega) (Nat.le_refl _) (by omega)) ?_
      obtain ⟨_, _, a3, _, _⟩ := dmP_inv hp ca cb hb0
      unfold dmP
      refine Prod.ext ?_ rfl
      refine trim_ext fun i => ?_
      rw [cf_pol, cf_pol]
      by_cases q : i < N
      · rw [if_pos q, if_pos (by omega)]
      · rw [if_neg q]; split
        · exact (a3 i (by omega)).symm
        · rfl
  · rw [if_neg c]; exact Ev.fix rfl
end Go.Proofs.Ytkaongcpekhbdaa.FTreeFresh
namespace Go.Proofs.Ytkaongcpekhbdaa.FTreeFresh
open Go.RowKit Go Go.Proofs.YtkaongcpekhbdaaW.PrintWords Go.Proofs.YtkaongcpekhbdaaW.PrintLast Go.Proofs.YtkaongcpekhbdaaW.PrintMore Go.Proofs.Ytkaongcpekhbdaa.M Go.Proofs.Ytkaongcpekhbdaa.PTreeFresh
def tot (f : Int) (e : Int) (L : List (List Int)) : Int := if e = 2 ∨ ¬ L.all (ok f) = true then 2 else if e = 4 ∨ ¬ L.all (fun l => decide (l.length ≤ 2048)) = true then 4 else 0
def lim (f : Int) (l : List Int) : Int := if ok f l = true then (if l.length ≤ 2048 then 0 else 4) else 2
def lims (f : Int) (L : List (List Int)) : Int := if P f = 0 then 2 else tot f 0 L
theorem tot_nil (f e : Int) (h : e = 0 ∨ e = 2 ∨ e = 4) : tot f e [] = e := by rcases h with rfl | rfl | rfl <;> simp [tot]
theorem tot_two (f : Int) (L : List (List Int)) : tot f 2 L = 2 := by simp [tot]
theorem tot_cons (f e : Int) (h : e = 0 ∨ e = 4) (l : List Int) (L : List (List Int)) : tot f e (l :: L) = if ok f l = true then tot f (if l.length > 2048 then 4 else e) L else 2 := by
  by_cases c : ok f l = true
  · rw [if_pos c]
    by_cases q : l.length > 2048
    · have q' : ¬ l.length ≤ 2048 := by omega
      rw [if_pos q]; rcases h with rfl | rfl <;> simp [tot, c, q']
    · rw [if_neg q]; rcases h with rfl | rfl <;> simp [tot, c, Nat.le_of_not_lt q]
  · rw [if_neg c]; simp [tot, c]
theorem lims_one (f : Int) (l : List Int) : lims f [l] = lim f l := by
  unfold lims lim
  by_cases z : P f = 0
  · rw [if_pos z, if_neg (fun c => (ok_iff.1 c).1 z)]
  · rw [if_neg z, tot_cons f 0 (.inl rfl)]
    by_cases c : ok f l = true
    · rw [if_pos c, if_pos c]
      by_cases q : l.length > 2048
      · rw [if_pos q, if_neg (by omega), tot_nil f 4 (by simp)]
      · rw [if_neg q, if_pos (by omega), tot_nil f 0 (by simp)]
    · rw [if_neg c, if_neg c]
theorem lims_cons (f : Int) (l : List Int) (L : List (List Int)) : lims f (l :: L) = tot f (lim f l) L := by
  unfold lims lim
  by_cases z : P f = 0
  · rw [if_pos z, if_neg (fun c => (ok_iff.1 c).1 z), tot_two]
  · rw [if_neg z, tot_cons f 0 (.inl rfl)]
    by_cases c : ok f l = true
    · rw [if_pos c, if_pos c]
      by_cases q : l.length > 2048
      · rw [if_pos q, if_neg (by omega)]
      · rw [if_neg q, if_pos (by omega)]
    · rw [if_neg c, if_neg c, tot_two]
theorem lim_zero {f : Int} {l : List Int} (h : lim f l = 0) : ok f l = true ∧ l.length ≤ 2048 := by
  unfold lim at h
  by_cases c : ok f l = true
  · rw [if_pos c] at h
    by_cases q : l.length ≤ 2048
    · exact ⟨c, q⟩
    · rw [if_neg q] at h; omega
  · rw [if_neg c] at h; omega
theorem lims_zero {f : Int} {L : List (List Int)} (h : lims f L = 0) : ∀ l ∈ L, ok f l = true ∧ l.length ≤ 2048 := by
  unfold lims tot at h
  by_cases z : P f = 0
  · rw [if_pos z] at h; omega
  · rw [if_neg z] at h
    by_cases c : L.all (ok f) = true
    · rw [if_neg (by simpa using c)] at h
      by_cases q : L.all (fun l => decide (l.length ≤ 2048)) = true
      · intro l hl; exact ⟨by simpa using List.all_eq_true.1 c l hl, by simpa using List.all_eq_true.1 q l hl⟩
      · rw [if_pos (.inr q)] at h; omega
    · rw [if_pos (.inr c)] at h; omega
theorem lims_rng (f : Int) (L : List (List Int)) : lims f L = 0 ∨ lims f L = 2 ∨ lims f L = 4 := by unfold lims tot; split <;> (try split) <;> (try split) <;> simp
theorem tmay_loop (f : Int) (L : List (List Int)) (hL : ∀ l ∈ L, l.length < 4611686018427387904) (hn : L.length < 4611686018427387904) : ∀ (d i : Nat) (e : Int), i + d = L.length → e = 0 ∨ e = 4 →
    Ev (fun k => tree_may.l0 k f e L (L.length : Int) (i : Int)) (tot f e (L.drop i)) := by
  intro d
  induction d with
  | zero =>
    intro i e h he
    refine Ev.step (fun k => by rw [tree_may.l0]) ?_
    rw [List.drop_of_length_le (by omega), tot_nil f e (by omega)]
    exact Ev.neg (by omega) (Ev.fix rfl)
  | succ d ih =>
    intro i e h he
    have hi : i < L.length := by omega
    refine Ev.step (fun k => by rw [tree_may.l0]) ?_
    rw [rd_L1_lt hi, w64_succ (by omega), List.drop_eq_getElem_cons hi, tot_cons f e he]
    refine Ev.pos (by omega) (Ev.pos (by omega) (Ev.pos (by omega) (Ev.bind (In_eq f _ (hL _ (List.getElem_mem hi))) (Ev.ite (fun c => ?_) (fun c => ?_)))))
    · rw [if_pos c]
      refine Ev.ite (fun q => ?_) (fun q => ?_)
      · rw [if_pos (by omega)]; exact ih (i + 1) 4 (by omega) (.inr rfl)
      · rw [if_neg (by omega)]; exact ih (i + 1) e (by omega) he
    · rw [if_neg c]; exact Ev.fix rfl
theorem tmay_eq (f : Int) (L : List (List Int)) (hL : ∀ l ∈ L, l.length < 4611686018427387904) (hn : L.length < 4611686018427387904) : Ev (fun k => tree_may.f k f L) (lims f L) := by
  unfold tree_may.f lims
  refine Ev.bind (In_eq f [] (by simp)) (Ev.ite (fun c => ?_) (fun c => ?_))
  · rw [if_neg (ok_nil.1 c)]
    exact tmay_loop f L hL hn L.length 0 0 (by omega) (.inl rfl)
  · rw [if_pos (Classical.not_not.1 fun z => c (ok_nil.2 z))]; exact Ev.fix rfl
def rems (f : Int) (p : List Int) : List (List Int) → List (List Int) → List (List Int) × Int
  | acc, [] => (acc, 0)
  | acc, q :: r => if (Pdm f p q).2.2 = 0 then rems f p (acc ++ [(Pdm f p q).2.1]) r else ([], (Pdm f p q).2.2)
def Prems (f : Int) (p : List Int) (m : List (List Int)) : List (List Int) × Int :=
  if lims f (p :: m) = 0 then (if m.length ≤ 2048 then rems f p [] m else ([], 4)) else ([], lims f (p :: m))
theorem rems_loop (f : Int) (p : List Int) (m : List (List Int)) (wp : Wd p) (hp : p.length < 17592186044416) (wm : ∀ q ∈ m, Wd q ∧ q.length < 17592186044416) (hn : m.length < 5864062014805) : ∀ (d i : Nat) (acc : List (List Int)), i + d = m.length → acc.length = i →
    Ev (fun k => tree_Remainders.l0 k f p acc m (m.length : Int) (i : Int)) (rems f p acc (m.drop i)) := by
  intro d
  induction d with
  | zero =>
    intro i acc h ha
    refine Ev.step (fun k => by rw [tree_Remainders.l0]) ?_
    rw [List.drop_of_length_le (by omega), rems]
    exact Ev.neg (by omega) (Ev.fix rfl)
  | succ d ih =>
    intro i acc h ha
    have hi : i < m.length := by omega
    obtain ⟨wq, lq⟩ := wm _ (List.getElem_mem hi)
    refine Ev.step (fun k => by rw [tree_Remainders.l0]) ?_
    rw [rd_L1_lt hi, w64_succ (by omega), List.drop_eq_getElem_cons hi, rems]
    refine Ev.pos (by omega) (Ev.pos (by omega) (Ev.pos (by omega) (Ev.bind (PDivMod_eq f p _ wp wq hp lq) (Ev.ite (fun c => ?_) (fun c => ?_)))))
    · rw [if_pos c]; exact Ev.pos (by omega) (ih (i + 1) _ (by omega) (by simp [ha]))
    · rw [if_neg c]; exact Ev.fix rfl
theorem Remainders_eq (f : Int) (p : List Int) (m : List (List Int)) (wp : Wd p) (hp : p.length < 17592186044416) (wm : ∀ q ∈ m, Wd q ∧ q.length < 17592186044416) (hn : m.length + 1 < 5864062014805) : Ev (fun k => tree_Remainders.f k f p m) (Prems f p m) := by
  unfold tree_Remainders.f Prems
  refine Ev.bnd rfl (Ev.pos (by simp; omega) (Ev.bind (tmay_eq f _ (fun l hl => ?_) (by simp; omega)) ?_))
  · rcases List.mem_cons.1 hl with rfl | hl
    · omega
    · have := (wm l hl).2; omega
  · show Ev _ (if lims f (p :: m) = 0 then _ else _)
    rw [show ([p] : List (List Int)) ++ m = p :: m from rfl]
    rcases lims_rng f (p :: m) with e | e | e <;> rw [e]
    · rw [if_pos rfl]
      refine Ev.neg (by omega) (Ev.pos rfl (Ev.step (fun k => by rw [tree_Remainders.j0]) ?_))
      by_cases q : m.length ≤ 2048
      · rw [if_pos q]
        exact Ev.neg (by simp; omega) (rems_loop f p m wp hp wm (by omega) m.length 0 [] (by omega) rfl)
      · rw [if_neg q]
        exact Ev.pos (by simp; omega) (Ev.fix rfl)
    · exact Ev.pos rfl (Ev.fix rfl)
    · refine Ev.neg (by omega) (Ev.neg (by omega) (Ev.step (fun k => by rw [tree_Remainders.j0]) ?_))
      exact Ev.pos rfl (Ev.fix rfl)
end Go.Proofs.Ytkaongcpekhbdaa.FTreeFresh
namespace Go.Proofs.Ytkaongcpekhbdaa.FTreeFresh
open Go.RowKit Go Go.Proofs.YtkaongcpekhbdaaW.PrintWords Go.Proofs.YtkaongcpekhbdaaW.PrintLast Go.Proofs.YtkaongcpekhbdaaW.PrintMore Go.Proofs.Ytkaongcpekhbdaa.M Go.Proofs.Ytkaongcpekhbdaa.PTreeFresh
def valE (f : Int) (a : List Int) (x : Int) : Int × Int := if bad f a [x] = 0 then (sm a x a.length % P f, 0) else (0, bad f a [x])
theorem PEval_eq (f x : Int) (a : List Int) (hx : 0 ≤ x) (wa : Wd a) (ha : a.length < 17592186044416) : Ev (fun k => poly_Eval.f k f a x) (valE f a x) := by
  unfold poly_Eval.f valE
  refine Ev.bind (In_eq f [x] (by simp)) (Ev.ite (fun q => ?_) (fun q => ?_))
  · have hp := (ok_iff.1 q).1
    have hx2 : x < P f := (ok_iff.1 q).2 x (by simp)
    have e : (if P f = 0 then 2 else bads f [a] 0) = bad f a [x] := by
      rw [if_neg hp]
      unfold bad
      by_cases ca : ok f a = true
      · rw [if_pos ⟨ca, q⟩]
        simp only [bads, if_pos ca]
        by_cases l : a.length ≤ 4096
        · rw [if_neg (by omega), if_pos ⟨l, by simp⟩]
        · rw [if_pos (by omega), if_neg (fun z => l z.1)]
      · rw [if_neg (fun z => ca z.1)]
        simp only [bads, if_neg ca]
    have m := may_eq f [a] (by simp; omega) (by simp)
    rw [e] at m
    refine Ev.bind m (Ev.ite (fun b => ?_) (fun b => ?_))
    · rw [if_pos b]
      obtain ⟨ka, _, la, _⟩ := bad_zero b
      have ea := wa.el (ok_all ka)
      refine Ev.pos ?_ (Ev.fix ?_)
      · rw [Bool.and_eq_true]
        refine ⟨by unfold inF; simp [hx, hx2], List.all_eq_true.2 fun c hc => ?_⟩
        have := ea c hc
        unfold inF; simp [this]
      · rw [← horner]; rfl
    · rw [if_neg b]; exact Ev.fix rfl
  · have e : bad f a [x] = 2 := by unfold bad; rw [if_neg (fun z => q z.2)]
    rw [e, if_neg (by omega)]; exact Ev.fix rfl
theorem rEval_loop {f x : Int} (hp : Pr (P f)) (a : List Int) (ea : El (P f) a) (hx : 0 ≤ x ∧ x < P f) (hs : a.length < 17592186044416) : ∀ (d m : Nat), m + d = a.length →
    Ev (fun k => cr3_Eval.l0 k f a x (sm a x m % P f) (x ^ m % P f) (m : Int)) (sm a x a.length % P f, 0) := by
  have hlo := hp.lo; have hhi := hp.hi
  intro d
  induction d with
  | zero =>
    intro m h
    refine Ev.step (fun k => by rw [cr3_Eval.l0]) ?_
    have e : m = a.length := by omega
    subst e
    exact Ev.neg (by omega) (Ev.fix rfl)
  | succ d ih =>
    intro m h
    refine Ev.step (fun k => by rw [cr3_Eval.l0]) ?_
    have ra := cf_el ea (by omega) m
    have r1 := emod_rng (p := P f) (x ^ m) (by omega)
    have r2 := emod_rng (p := P f) (sm a x m) (by omega)
    have r3 := emod_rng (p := P f) (cf a m * (x ^ m % P f)) (by omega)
    rw [w64_succ (by omega), show rd a (m : Int) = cf a m from rfl]
    refine Ev.pos (by omega) (Ev.bnd (rP f) (Ev.pos (by omega) (Ev.bind (rTimes (by omega) (by omega) ra.1 ra.2 r1.1 (by omega)) (Ev.bnd (rSum (by omega) (by omega) r2.1 r2.2 r3.1 r3.2) (Ev.bind (rTimes (by omega) (by omega) r1.1 r1.2 hx.1 (by omega)) ?_)))))
    rw [emod_mul_l, emod_add_l, emod_mul_r, emod_add_r]
    have h1 := ih (m + 1) (by omega)
    rw [sm, Int.pow_succ] at h1
    exact h1
theorem rPEval (f x : Int) (a : List Int) (hx : 0 ≤ x) (wa : Wd a) (ha : a.length < 17592186044416) : Ev (fun k => cr3_Eval.f k f a x) (valE f a x) := by
  unfold cr3_Eval.f valE
  refine Ev.bind (rBad f a [x] (by omega) (by simp)) (Ev.ite (fun b => ?_) (fun b => ?_))
  · rw [if_pos b]
    obtain ⟨ka, kx, la, _⟩ := bad_zero b
    have hx2 : x < P f := (ok_iff.1 kx).2 x (by simp)
    have hp := ok_pr ka
    have h := rEval_loop hp a (wa.el (ok_all ka)) ⟨hx, hx2⟩ ha a.length 0 (Nat.zero_add _)
    rw [sm, Int.pow_zero, one_mod hp] at h
    simpa using h
  · rw [if_neg b]; exact Ev.fix rfl
end Go.Proofs.Ytkaongcpekhbdaa.FTreeFresh
namespace Go.Proofs.Ytkaongcpekhbdaa.FTreeFresh
open Go.RowKit Go Go.Proofs.YtkaongcpekhbdaaW.PrintWords Go.Proofs.YtkaongcpekhbdaaW.PrintLast Go.Proofs.YtkaongcpekhbdaaW.PrintMore Go.Proofs.Ytkaongcpekhbdaa.M Go.Proofs.Ytkaongcpekhbdaa.PTreeFresh
theorem pair_eq {f : Int} (hp0 : P f ≠ 0) {a b : List Int} (ca : Cn (P f) a) (cb : Cn (P f) b) (la : a.length ≤ 1025) (lb : b.length ≤ 1025) : Ev (fun k => tree_grow_1.f k a b f) (mulP (P f) a b, 0) := by
  have hp := P_pr hp0
  have hhi := hp.hi
  unfold tree_grow_1.f
  have h := PMul_eq f a b (ca.el.wd (by omega)) (cb.el.wd (by omega)) (by omega) (by omega)
  rw [Pmul_good hp0 ca.el cb.el (by omega) (by omega) (.inr (.inr (by rw [ca.tr, cb.tr]; omega))), ca.tr, cb.tr] at h
  exact h
theorem grow_pairs {f : Int} (hp0 : P f ≠ 0) (L : List (List Int)) (hL : ∀ a ∈ L, Cn (P f) a ∧ a.length ≤ 1025) (hn : L.length ≤ 2048) (x11 : List (List (List Int))) (hx : x11.length < 5864062014805) {R : List (List (List Int)) × Int} :
    ∀ (d i : Nat) (acc : List (List Int)), i + d = L.length → i % 2 = 0 → acc.length ≤ i → Ev (fun k => tree_grow.l1 k (acc ++ nx (P f) (L.drop i)) (x11 ++ [acc ++ nx (P f) (L.drop i)]) f) R →
    Ev (fun k => tree_grow.l2 k L x11 acc (i : Int) f) R := by
  intro d
  induction d using Nat.strongRecOn with
  | _ d ih =>
    intro i acc h he ha hk
    refine Ev.step (fun k => by rw [tree_grow.l2]) ?_
    have ew : wrap64 ((i : Int) + 1) = ((i + 1 : Nat) : Int) := w64_succ (by omega)
    have ew2 : wrap64 ((i : Int) + 2) = ((i + 2 : Nat) : Int) := by rw [w64_in (by omega) (by omega)]; omega
    rw [ew, ew2]
    by_cases c : i + 1 < L.length
    · have hi : i < L.length := by omega
      obtain ⟨ca, la⟩ := hL _ (List.getElem_mem hi)
      obtain ⟨cb, lb⟩ := hL _ (List.getElem_mem c)
      rw [rd_L1_lt hi, rd_L1_lt c]
      refine Ev.pos (by omega) (Ev.pos (by omega) (Ev.pos (by omega) (Ev.pos (by omega) (Ev.bind (pair_eq hp0 ca cb la lb) (Ev.pos rfl (Ev.pos (by omega) ?_))))))
      refine ih (d - 2) (by omega) (i + 2) _ (by omega) (by omega) (by rw [List.length_append, List.length_singleton]; omega) ?_
      rw [List.drop_eq_getElem_cons hi, List.drop_eq_getElem_cons c, nx] at hk
      rw [List.append_assoc]
      exact hk
    · refine Ev.neg (by omega) ?_
      by_cases o : i < L.length
      · have e : i + 1 = L.length := by omega
        obtain ⟨ca, la⟩ := hL _ (List.getElem_mem o)
        rw [show wrap64 ((L.length : Int) - 1) = (i : Int) by rw [w64_in (by omega) (by omega)]; omega, rd_L1_lt o]
        refine Ev.pos (by omega) (Ev.pos (by omega) (Ev.pos (by omega) (Ev.bind (Trim_eq _ (by omega)) (Ev.pos (by omega) (Ev.bnd rfl (Ev.pos (by omega) ?_))))))
        rw [List.drop_eq_getElem_cons o, List.drop_of_length_le (by omega), nx] at hk
        exact hk
      · have e : i = L.length := by omega
        refine Ev.neg (by omega) (Ev.pos (by omega) ?_)
        rw [List.drop_of_length_le (by omega), nx, List.append_nil] at hk
        exact hk
theorem grow_levels {f : Int} (hp0 : P f ≠ 0) (xs : List Int) (hl : xs.length ≤ 2048) : ∀ (d j : Nat) (x11 : List (List (List Int))), xs.length ≤ 2 ^ j + d → x11.length + d < 5864062014805 →
    Ev (fun k => tree_grow.l1 k ((ch (2 ^ j) xs).map (Z (P f))) x11 f) (x11 ++ lvls (P f) d (2 ^ j) xs, 0) := by
  have hp := P_pr hp0
  intro d
  induction d with
  | zero =>
    intro j x11 h hx
    have hs : 0 < 2 ^ j := Nat.two_pow_pos j
    have := ch_len hs xs
    refine Ev.step (fun k => by rw [tree_grow.l1]) ?_
    rw [lvls, List.append_nil]
    exact Ev.neg (by rw [List.length_map]; omega) (Ev.fix rfl)
  | succ d ih =>
    intro j x11 h hx
    have hs : 0 < 2 ^ j := Nat.two_pow_pos j
    have hc := ch_len hs xs
    refine Ev.step (fun k => by rw [tree_grow.l1]) ?_
    rw [lvls]
    by_cases c : xs.length ≤ 2 ^ j
    · rw [if_pos c, List.append_nil]
      exact Ev.neg (by rw [List.length_map]; omega) (Ev.fix rfl)
    · rw [if_neg c]
      have h11 : j < 11 := by
        rcases Nat.lt_or_ge j 11 with q | q
        · exact q
        · have := Nat.pow_le_pow_right (n := 2) (by omega) q; omega
      have h1024 : 2 ^ j ≤ 1024 := Nat.le_trans (Nat.pow_le_pow_right (by omega) (show j ≤ 10 by omega)) (Nat.le_refl (2 ^ 10))
      have hlen := ch_le hs xs.length xs (Nat.le_refl _)
      refine Ev.pos (by rw [List.length_map]; omega) ?_
      refine grow_pairs hp0 _ (fun a ha => ?_) (by rw [List.length_map]; omega) x11 (by omega) _ 0 [] (Nat.zero_add _) rfl (Nat.le_refl _) ?_
      · obtain ⟨c', hc', rfl⟩ := List.mem_map.1 ha
        obtain ⟨z1, z2, _⟩ := Z_spec hp c'
        have := (ch_mem hs xs.length xs (Nat.le_refl _) c' hc').1
        exact ⟨z1, by omega⟩
      · rw [List.drop_zero, List.nil_append, nx_ch hp hs xs.length xs (Nat.le_refl _)]
        have := ih (j + 1) (x11 ++ [(ch (2 * 2 ^ j) xs).map (Z (P f))]) (by rw [Nat.pow_succ]; omega) (by rw [List.length_append, List.length_singleton]; omega)
        rw [Nat.pow_succ, Nat.mul_comm (2 ^ j) 2, List.append_assoc] at this
        exact this
theorem grow_first {f : Int} (hp0 : P f ≠ 0) (xs : List Int) (ex : El (P f) xs) (hl : xs.length ≤ 2048) {R : List (List (List Int)) × Int} (hk : Ev (fun k => tree_grow.l1 k (xs.map (fac (P f))) [xs.map (fac (P f))] f) R) : ∀ (d i : Nat), i + d = xs.length →
    Ev (fun k => tree_grow.l0 k ((xs.take i).map (fac (P f))) xs (xs.length : Int) (i : Int) f) R := by
  have hp := P_pr hp0
  intro d
  induction d with
  | zero =>
    intro i h
    refine Ev.step (fun k => by rw [tree_grow.l0]) ?_
    rw [List.take_of_length_le (by omega)]
    exact Ev.neg (by omega) hk
  | succ d ih =>
    intro i h
    have hi : i < xs.length := by omega
    refine Ev.step (fun k => by rw [tree_grow.l0]) ?_
    have rg := ex.rd hi
    have hs := Sub_eq f 0 (rd xs (i : Int)) (by omega) rg.1
    rw [if_pos (ok_two hp0 (by have := hp.lo; omega) rg.2)] at hs
    rw [w64_succ (by omega)]
    refine Ev.pos (by omega) (Ev.pos (by omega) (Ev.pos (by omega) (Ev.bind hs (Ev.pos rfl (Ev.pos (by rw [List.length_map, List.length_take]; omega) ?_)))))
    have := ih (i + 1) (by omega)
    rw [take_rd hi, List.map_append] at this
    exact this
theorem grow_eq {f : Int} (hp0 : P f ≠ 0) (xs : List Int) (ex : El (P f) xs) (hl : xs.length ≤ 2048) : Ev (fun k => tree_grow.f k f xs) (treeP (P f) xs, 0) := by
  have hp := P_pr hp0
  unfold tree_grow.f
  have e : (ch 1 xs).map (Z (P f)) = xs.map (fac (P f)) := by
    rw [ch_single, List.map_map]
    exact List.map_congr_left fun x _ => Z_one hp x
  have h := grow_levels hp0 xs hl xs.length 0 [xs.map (fac (P f))] (by omega) (by simp; omega)
  rw [show (2 : Nat) ^ 0 = 1 from rfl, e] at h
  have := grow_first hp0 xs ex hl h xs.length 0 (by omega)
  unfold treeP
  rw [e]
  exact this
def Ptree (f : Int) (xs : List Int) : List (List (List Int)) × Int := if lim f xs = 0 then ((if xs = [] then [] else treeP (P f) xs), 0) else ([], lim f xs)
theorem Tree_eq (f : Int) (xs : List Int) (wx : Wd xs) (hl : xs.length < 17592186044416) : Ev (fun k => tree_Tree.f k f xs) (Ptree f xs) := by
  unfold tree_Tree.f Ptree
  refine Ev.bind (tmay_eq f [xs] (by simp; omega) (by simp)) ?_
  rw [lims_one]
  by_cases c : lim f xs = 0
  · rw [if_pos c, c]
    obtain ⟨k, l⟩ := lim_zero c
    refine Ev.pos rfl ?_
    by_cases z : xs = []
    · rw [if_pos z]; subst z; exact Ev.pos rfl (Ev.fix rfl)
    · have l0 : xs.length ≠ 0 := fun e => z (List.length_eq_zero_iff.1 e)
      rw [if_neg z]
      exact Ev.neg (by omega) (Ev.bind (grow_eq (ok_iff.1 k).1 xs (wx.el (ok_all k)) l) (Ev.fix rfl))
  · rw [if_neg c]; exact Ev.neg c (Ev.fix rfl)
def Pzero (f : Int) (xs : List Int) : List Int × Int := if lim f xs = 0 then (Z (P f) xs, 0) else ([], lim f xs)
theorem Zero_eq (f : Int) (xs : List Int) (wx : Wd xs) (hl : xs.length < 17592186044416) : Ev (fun k => tree_Zero.f k f xs) (Pzero f xs) := by
  unfold tree_Zero.f
  refine Ev.bind (Tree_eq f xs wx hl) ?_
  unfold Ptree Pzero
  by_cases c : lim f xs = 0
  · rw [if_pos c, if_pos c]
    by_cases z : xs = []
    · rw [if_pos z]; subst z; exact Ev.pos rfl (Ev.pos rfl (Ev.fix rfl))
    · rw [if_neg z]
      have hlast := lvls_last (p := P f) z xs.length 1 (by omega) (by omega)
      change (treeP (P f) xs).getLast? = _ at hlast
      have hlen : (treeP (P f) xs).length ≠ 0 := by unfold treeP; simp
      have hmax : (treeP (P f) xs).length ≤ 4096 := by
        have q : ∀ (d s : Nat), (lvls (P f) d s xs).length ≤ d := by
          intro d
          induction d with
          | zero => intro s; rw [lvls]; exact Nat.le_refl _
          | succ d ih => intro s; rw [lvls]; split
                         · simp
                         · rw [List.length_cons]; have := ih (2 * s); omega
        have := q xs.length 1
        have := (lim_zero c).2
        unfold treeP; rw [List.length_cons]; omega
      generalize treeP (P f) xs = T at *
      have er : rd_L2 T ((T.length - 1 : Nat) : Int) = [Z (P f) xs] := by
        unfold rd_L2
        rw [Int.toNat_natCast, List.getD_eq_getElem?_getD, ← List.getLast?_eq_getElem?, hlast]; rfl
      dsimp only
      rw [show wrap64 ((T.length : Int) - 1) = ((T.length - 1 : Nat) : Int) by rw [w64_in (by omega) (by omega)]; omega, er]
      exact Ev.pos rfl (Ev.neg (by omega) (Ev.pos (by omega) (Ev.pos (by omega) (Ev.pos (by simp) (Ev.fix rfl)))))
  · rw [if_neg c, if_neg c, if_neg c]; exact Ev.fix rfl
def vals (p : Int) (a xs : List Int) : List Int := xs.map fun x => ev a x % p
theorem valE_good {f x : Int} {a : List Int} (hp0 : P f ≠ 0) (ea : El (P f) a) (hx : 0 ≤ x ∧ x < P f) (la : a.length ≤ 4096) : valE f a x = (ev a x % P f, 0) := by
  unfold valE; rw [if_pos (bad_good hp0 ea (El.cons hx El.nil) la (by simp))]; rfl
theorem down_few {f : Int} (hp0 : P f ≠ 0) (a xs : List Int) (ea : El (P f) a) (ex : El (P f) xs) (la : a.length ≤ 2048) (hl : xs.length ≤ 2048) (out : List Int) (ho : out.length ≤ 2048) : ∀ (d i : Nat), i + d = xs.length →
    Ev (fun k => tree_down.l0 k f (out ++ vals (P f) a (xs.take i)) a xs (xs.length : Int) (i : Int)) (out ++ vals (P f) a xs, 0) := by
  have hhi := (P_pr hp0).hi
  intro d
  induction d with
  | zero =>
    intro i h
    refine Ev.step (fun k => by rw [tree_down.l0]) ?_
    rw [List.take_of_length_le (by omega)]
    exact Ev.neg (by omega) (Ev.fix rfl)
  | succ d ih =>
    intro i h
    have hi : i < xs.length := by omega
    have rg := ex.rd hi
    have he := PEval_eq f (rd xs (i : Int)) a rg.1 (ea.wd (by omega)) (by omega)
    rw [valE_good hp0 ea rg (by omega)] at he
    refine Ev.step (fun k => by rw [tree_down.l0]) ?_
    rw [w64_succ (by omega)]
    refine Ev.pos (by omega) (Ev.pos (by omega) (Ev.pos (by omega) (Ev.bind he (Ev.pos rfl (Ev.pos (by unfold vals; rw [List.length_append, List.length_map, List.length_take]; omega) ?_)))))
    have := ih (i + 1) (by omega)
    unfold vals at this ⊢
    rw [take_rd hi, List.map_append, ← List.append_assoc] at this
    exact this
theorem down_rest {p : Int} (hp : Pr p) {a ys : List Int} (ca : Cn p a) : vals p (dmP p a (Z p ys)).2 ys = vals p a ys := by
  obtain ⟨z1, z2, z3⟩ := Z_spec hp ys
  obtain ⟨q1, q2, q3, q4, q5⟩ := dmP_spec hp ca z1 (Z_ne hp ys)
  unfold vals
  refine List.map_congr_left fun x hx => ?_
  have e1 := z3.at x
  rw [pe_zero hx] at e1
  have e2 := q5.at x
  rw [← e2, Int.add_emod, Int.mul_emod, e1]
  simp
theorem down_eq {f : Int} (hp0 : P f ≠ 0) : ∀ (n : Nat) (xs : List Int), xs.length ≤ n → ∀ (a out : List Int), El (P f) a → El (P f) xs → a.length ≤ 2048 → xs.length + out.length ≤ 2048 →
    Ev (fun k => tree_down.f k f out a xs) (out ++ vals (P f) a xs, 0) := by
  have hp := P_pr hp0
  have hhi := hp.hi
  intro n
  induction n using Nat.strongRecOn with
  | _ n ih =>
    intro xs hn a out ea ex la hl
    refine Ev.step (fun k => by rw [tree_down.f]) ?_
    by_cases c : xs.length ≤ 32
    · have := down_few hp0 a xs ea ex la (by omega) out (by omega) xs.length 0 (by omega)
      rw [List.take_zero] at this
      unfold vals at this ⊢
      rw [List.map_nil, List.append_nil] at this
      exact Ev.pos (by omega) this
    · have eh : wrap64 ((xs.length : Int) / 2) = ((xs.length / 2 : Nat) : Int) := by rw [w64_in (by omega) (by omega)]; omega
      rw [eh]
      simp only [Int.toNat_natCast]
      rw [List.take_of_length_le (l := xs) (Nat.le_refl _)]
      have hy : xs.take (xs.length / 2) ++ xs.drop (xs.length / 2) = xs := List.take_append_drop _ _
      have l1 : (xs.take (xs.length / 2)).length = xs.length / 2 := by rw [List.length_take]; omega
      have l2 : (xs.drop (xs.length / 2)).length = xs.length - xs.length / 2 := List.length_drop
      have e1 : El (P f) (xs.take (xs.length / 2)) := fun x hx => ex x (List.mem_of_mem_take hx)
      have e2 : El (P f) (xs.drop (xs.length / 2)) := fun x hx => ex x (List.mem_of_mem_drop hx)
      generalize xs.take (xs.length / 2) = y1 at *
      generalize xs.drop (xs.length / 2) = y2 at *
      have ca := Cn.trim (p := P f) ea
      have ta := trim_le a
      have half : ∀ y : List Int, El (P f) y → y.length ≤ 2048 → Pzero f y = (Z (P f) y, 0) ∧ Pdm f a (Z (P f) y) = ((dmP (P f) (trim a) (Z (P f) y)).1, (dmP (P f) (trim a) (Z (P f) y)).2, 0) ∧ El (P f) (dmP (P f) (trim a) (Z (P f) y)).2 ∧ (dmP (P f) (trim a) (Z (P f) y)).2.length ≤ y.length ∧ vals (P f) (dmP (P f) (trim a) (Z (P f) y)).2 y = vals (P f) a y := by
        intro y ey ly
        obtain ⟨z1, z2, z3⟩ := Z_spec hp y
        obtain ⟨q1, q2, q3, q4, q5⟩ := dmP_spec hp ca z1 (Z_ne hp y)
        refine ⟨?_, ?_, q2.el, by omega, ?_⟩
        · unfold Pzero lim
          rw [if_pos (by rw [if_pos (ok_iff.2 ⟨hp0, fun x hx => (ey x hx).2⟩), if_pos ly])]
        · have := Pdm_good hp0 ea z1.el (by omega) (by omega) (by rw [z1.tr]; exact Z_ne hp y)
          rw [z1.tr] at this
          exact this
        · rw [down_rest hp ca]
          unfold vals
          exact List.map_congr_left fun x _ => by rw [ev_trim]
      obtain ⟨a1, a2, a3, a4, a5⟩ := half y1 e1 (by omega)
      obtain ⟨b1, b2, b3, b4, b5⟩ := half y2 e2 (by omega)
      have z1 := Zero_eq f y1 (e1.wd (by omega)) (by omega)
      have z2 := Zero_eq f y2 (e2.wd (by omega)) (by omega)
      rw [a1] at z1
      rw [b1] at z2
      have w1 := (Z_spec hp y1).1.el.wd (show P f ≤ 18446744073709551616 by omega)
      have w2 := (Z_spec hp y2).1.el.wd (show P f ≤ 18446744073709551616 by omega)
      have k1 := (Z_spec hp y1).2.1
      have k2 := (Z_spec hp y2).2.1
      have d1 := PDivMod_eq f a (Z (P f) y1) (ea.wd (by omega)) w1 (by omega) (by omega)
      have d2 := PDivMod_eq f a (Z (P f) y2) (ea.wd (by omega)) w2 (by omega) (by omega)
      rw [a2] at d1
      rw [b2] at d2
      have v1 : (vals (P f) a y1).length = y1.length := by unfold vals; rw [List.length_map]
      have g1 := ih y1.length (by omega) y1 (Nat.le_refl _) _ out a3 e1 (by omega) (by omega)
      rw [a5] at g1
      have g2 := ih y2.length (by omega) y2 (Nat.le_refl _) _ (out ++ vals (P f) a y1) b3 e2 (by omega) (by rw [List.length_append, v1]; omega)
      rw [b5] at g2
      have hv : out ++ vals (P f) a xs = out ++ vals (P f) a y1 ++ vals (P f) a y2 := by
        unfold vals
        rw [← hy, List.map_append, List.append_assoc]
      rw [hv]
      refine Ev.neg (by omega) (Ev.pos (by omega) (Ev.pos (by omega) (Ev.bnd rfl (Ev.pos (Int.le_refl _) (Ev.bnd rfl ?_)))))
      exact Ev.bind z1 (Ev.pos rfl (Ev.bind d1 (Ev.pos rfl (Ev.bind g1 (Ev.pos rfl (Ev.bind z2 (Ev.pos rfl (Ev.bind d2 (Ev.pos rfl (Ev.bind g2 (Ev.pos rfl (Ev.fix rfl))))))))))))
def Pvals (f : Int) (a xs : List Int) : List Int × Int := if lims f [a, xs] = 0 then (vals (P f) a xs, 0) else ([], lims f [a, xs])
theorem Values_eq (f : Int) (a xs : List Int) (wa : Wd a) (wx : Wd xs) (ha : a.length < 17592186044416) (hx : xs.length < 17592186044416) : Ev (fun k => tree_Values.f k f a xs) (Pvals f a xs) := by
  unfold tree_Values.f Pvals
  refine Ev.bind (tmay_eq f [a, xs] (by simp; omega) (by simp)) (Ev.ite (fun c => ?_) (fun c => ?_))
  · rw [if_pos c]
    have h := lims_zero c
    obtain ⟨ka, la⟩ := h a (by simp)
    obtain ⟨kx, lx⟩ := h xs (by simp)
    refine Ev.bind (down_eq (ok_iff.1 ka).1 xs.length xs (Nat.le_refl _) a [] (wa.el (ok_all ka)) (wx.el (ok_all kx)) la (by simpa using lx)) (Ev.fix rfl)
  · rw [if_neg c]; exact Ev.fix rfl
theorem rbad6_two (f : Int) (a b : List Int) (ha : a.length < 4611686018427387904) (hb : b.length < 4611686018427387904) : Ev (fun k => cr6_bad.f k f a b) (lims f [a, b]) := by
  unfold cr6_bad.f
  refine Ev.bind (rBad f a b ha hb) ?_
  by_cases ca : ok f a = true
  · by_cases cb : ok f b = true
    · have hb2 : bad f a b ≠ 2 := by unfold bad; rw [if_pos ⟨ca, cb⟩]; split <;> omega
      refine Ev.neg hb2 ?_
      rw [lims_cons]; unfold lim
      by_cases la : a.length ≤ 2048
      · by_cases lb : b.length ≤ 2048
        · rw [if_pos ca, if_pos la, tot_cons f 0 (.inl rfl), if_pos cb, if_neg (show ¬ b.length > 2048 by omega), tot_nil f 0 (.inl rfl)]
          exact Ev.neg (by omega) (Ev.neg (by omega) (Ev.fix rfl))
        · rw [if_pos ca, if_pos la, tot_cons f 0 (.inl rfl), if_pos cb, if_pos (show b.length > 2048 by omega), tot_nil f 4 (by omega)]
          exact Ev.neg (by omega) (Ev.pos (by omega) (Ev.fix rfl))
      · rw [if_pos ca, if_neg la, tot_cons f 4 (.inr rfl), if_pos cb, show (if b.length > 2048 then (4 : Int) else 4) = 4 by split <;> rfl, tot_nil f 4 (by omega)]
        exact Ev.pos (by omega) (Ev.fix rfl)
    · have e1 : bad f a b = 2 := by unfold bad; rw [if_neg (fun h => cb h.2)]
      have e2 : lims f [a, b] = 2 := by
        rw [lims_cons, tot_cons f _ (by unfold lim; rw [if_pos ca]; split <;> simp), if_neg cb]
      rw [e1, e2]; exact Ev.pos rfl (Ev.fix rfl)
  · have e1 : bad f a b = 2 := by unfold bad; rw [if_neg (fun h => ca h.1)]
    have e2 : lims f [a, b] = 2 := by rw [lims_cons]; unfold lim; rw [if_neg ca, tot_two]
    rw [e1, e2]; exact Ev.pos rfl (Ev.fix rfl)
theorem rvals_loop {f : Int} (hp0 : P f ≠ 0) (a xs : List Int) (ea : El (P f) a) (ex : El (P f) xs) (la : a.length ≤ 2048) (hl : xs.length ≤ 2048) : ∀ (d i : Nat), i + d = xs.length →
    Ev (fun k => cr6_Values.l0 k f a xs (vals (P f) a (xs.take i)) (i : Int)) (vals (P f) a xs, 0) := by
  have hhi := (P_pr hp0).hi
  intro d
  induction d with
  | zero =>
    intro i h
    refine Ev.step (fun k => by rw [cr6_Values.l0]) ?_
    rw [List.take_of_length_le (by omega)]
    exact Ev.neg (by omega) (Ev.fix rfl)
  | succ d ih =>
    intro i h
    have hi : i < xs.length := by omega
    have rg := ex.rd hi
    have he := rPEval f (rd xs (i : Int)) a rg.1 (ea.wd (by omega)) (by omega)
    rw [valE_good hp0 ea rg (by omega)] at he
    refine Ev.step (fun k => by rw [cr6_Values.l0]) ?_
    rw [w64_succ (by omega)]
    refine Ev.pos (by omega) (Ev.pos (by omega) (Ev.bind he (Ev.pos (by unfold vals; rw [List.length_map, List.length_take]; omega) ?_)))
    have := ih (i + 1) (by omega)
    unfold vals at this ⊢
    rw [take_rd hi, List.map_append] at this
    exact this
theorem rValues (f : Int) (a xs : List Int) (wa : Wd a) (wx : Wd xs) (ha : a.length < 17592186044416) (hx : xs.length < 17592186044416) : Ev (fun k => cr6_Values.f k f a xs) (Pvals f a xs) := by
  unfold cr6_Values.f Pvals
  refine Ev.bind (rbad6_two f a xs (by omega) (by omega)) (Ev.ite (fun c => ?_) (fun c => ?_))
  · rw [if_pos c]
    have h := lims_zero c
    obtain ⟨ka, la⟩ := h a (by simp)
    obtain ⟨kx, lx⟩ := h xs (by simp)
    exact rvals_loop (ok_iff.1 ka).1 a xs (wa.el (ok_all ka)) (wx.el (ok_all kx)) la lx xs.length 0 (by omega)
  · rw [if_neg c]; exact Ev.fix rfl
theorem anchored6 : Ev (fun k => conclavelaw06_anchored.f k) true := by
  unfold conclavelaw06_anchored.f
  have w1 : Wd [1, 2] := Wd.cons (by omega) (Wd.cons (by omega) Wd.nil)
  have w2 : Wd [0, 0, 1] := Wd.cons (by omega) (Wd.cons (by omega) (Wd.cons (by omega) Wd.nil))
  have w3 : Wd [2, 3] := Wd.cons (by omega) (Wd.cons (by omega) Wd.nil)
  have e1 : Pzero 1 [1, 2] = ([2, 2013265918, 1], 0) := by kernel_rfl
  have e2 : Pvals 1 [0, 0, 1] [2, 3] = ([4, 9], 0) := by kernel_rfl
  have h1 := Zero_eq 1 [1, 2] w1 (by simp)
  have h2 := Values_eq 1 [0, 0, 1] [2, 3] w2 w3 (by simp) (by simp)
  rw [e1] at h1
  rw [e2] at h2
  exact Ev.bind h1 (Ev.bind h2 (Ev.pos rfl (Ev.pos rfl (Ev.bind (rSame _ _ (by simp)) (Ev.pos (by simp) (Ev.bind (rSame _ _ (by simp)) (Ev.fix (by simp))))))))
end Go.Proofs.Ytkaongcpekhbdaa.FTreeFresh
namespace Go.Proofs.Ytkaongcpekhbdaa.FTreeFresh
open Go.RowKit Go Go.Proofs.YtkaongcpekhbdaaW.PrintWords Go.Proofs.YtkaongcpekhbdaaW.PrintLast Go.Proofs.YtkaongcpekhbdaaW.PrintMore Go.Proofs.Ytkaongcpekhbdaa.M Go.Proofs.Ytkaongcpekhbdaa.PTreeFresh
theorem level_small {p : Int} (hp : Pr p) {xs : List Int} {s : Nat} (hs : 0 < s) : ((ch s xs).map (Z p)).length ≤ xs.length ∧ ∀ x ∈ (ch s xs).map (Z p), x.length ≤ xs.length + 1 := by
  refine ⟨by rw [List.length_map]; exact ch_le hs xs.length xs (Nat.le_refl _), fun x hx => ?_⟩
  obtain ⟨c, hc, rfl⟩ := List.mem_map.1 hx
  rw [(Z_spec hp c).2.1]
  have := (ch_mem hs xs.length xs (Nat.le_refl _) c hc).2
  omega
theorem lvls_small {p : Int} (hp : Pr p) {xs : List Int} : ∀ (d s : Nat), 0 < s → (lvls p d s xs).length ≤ d ∧ ∀ L ∈ lvls p d s xs, L.length ≤ xs.length ∧ ∀ x ∈ L, x.length ≤ xs.length + 1
  | 0, s, _ => ⟨Nat.le_refl _, fun L hL => by rw [lvls] at hL; cases hL⟩
  | d + 1, s, hs => by
    rw [lvls]; split
    · exact ⟨Nat.zero_le _, fun L hL => by cases hL⟩
    · obtain ⟨h1, h2⟩ := lvls_small (xs := xs) hp d (2 * s) (by omega)
      refine ⟨by rw [List.length_cons]; omega, fun L hL => ?_⟩
      rcases List.mem_cons.1 hL with rfl | hL
      · exact level_small hp (by omega)
      · exact h2 L hL
theorem tree_small {f : Int} {xs : List Int} : (Ptree f xs).1.length ≤ xs.length + 1 ∧ ∀ L ∈ (Ptree f xs).1, L.length ≤ xs.length ∧ ∀ x ∈ L, x.length ≤ xs.length + 1 := by
  unfold Ptree
  by_cases c : lim f xs = 0
  · rw [if_pos c]
    have hp := P_pr (ok_iff.1 (lim_zero c).1).1
    dsimp only
    by_cases z : xs = []
    · rw [if_pos z]; exact ⟨Nat.zero_le _, fun L hL => by cases hL⟩
    · rw [if_neg z]
      unfold treeP
      obtain ⟨h1, h2⟩ := lvls_small hp (xs := xs) xs.length 1 (by omega)
      refine ⟨by rw [List.length_cons]; omega, fun L hL => ?_⟩
      rcases List.mem_cons.1 hL with rfl | hL
      · exact level_small hp (by omega)
      · exact h2 L hL
  · rw [if_neg c]; exact ⟨Nat.zero_le _, fun L hL => by cases hL⟩
end Go.Proofs.Ytkaongcpekhbdaa.FTreeFresh
namespace Go.Proofs.Ytkaongcpekhbdaa.FTreeFresh
open Go.RowKit Go Go.Proofs.YtkaongcpekhbdaaW.PrintWords Go.Proofs.YtkaongcpekhbdaaW.PrintLast Go.Proofs.YtkaongcpekhbdaaW.PrintMore Go.Proofs.Ytkaongcpekhbdaa.M Go.Proofs.Ytkaongcpekhbdaa.PTreeFresh
theorem rCopy (l : List Int) (hn : l.length < 17592186044416) : cr1_Copy.f l = some l := by
  unfold cr1_Copy.f
  simp [hn]
theorem spoil_b (m : Int) : ∀ (d : Nat) (l : List Int) (i : Nat), i + d = l.length → l.length < 4611686018427387904 → Ev (fun k => cr1_Spoil.l1 k l m (i : Int)) () := by
  intro d
  induction d with
  | zero =>
    intro l i hi _
    refine Ev.step (fun k => by rw [cr1_Spoil.l1]) ?_
    exact Ev.neg (by omega) (Ev.fix rfl)
  | succ d ih =>
    intro l i hi hn
    refine Ev.step (fun k => by rw [cr1_Spoil.l1]) ?_
    refine Ev.pos (by omega) (Ev.pos (by omega) ?_)
    rw [w64_succ (by omega)]
    exact ih _ (i + 1) (by simp; omega) (by simpa using hn)
theorem spoil_a (m : Int) : ∀ (d : Nat) (l : List Int) (i : Nat), i + d = l.length → l.length < 17592186044410 → Ev (fun k => cr1_Spoil.l0 k l m (i : Int)) () := by
  intro d
  induction d with
  | zero =>
    intro l i hi hn
    refine Ev.step (fun k => by rw [cr1_Spoil.l0]) ?_
    refine Ev.neg (by omega) (Ev.bnd rfl (Ev.pos (by simp; omega) ?_))
    exact spoil_b m _ _ 0 (Nat.zero_add _) (by simp; omega)
  | succ d ih =>
    intro l i hi hn
    refine Ev.step (fun k => by rw [cr1_Spoil.l0]) ?_
    refine Ev.pos (by omega) (Ev.pos (by omega) ?_)
    rw [w64_succ (by omega)]
    exact ih _ (i + 1) (by simp; omega) (by simpa using hn)
end Go.Proofs.Ytkaongcpekhbdaa.FTreeFresh
namespace Go.Proofs.Ytkaongcpekhbdaa.Pure
open Go.RowKit Go.Proofs.Ytkaongcpekhbdaa.PTreeFresh Go.Proofs.YtkaongcpekhbdaaW.PrintWords Go.Proofs.YtkaongcpekhbdaaW.PrintLast Go.Proofs.Ytkaongcpekhbdaa.M Go.Proofs.Ytkaongcpekhbdaa.FTreeFresh
theorem rems_len (f : Int) (p : List Int) (wp : Wd p) : ∀ (m acc : List (List Int)), (∀ x ∈ acc, x.length ≤ 4096) → (∀ q ∈ m, Wd q) → (∀ x ∈ (rems f p acc m).1, x.length ≤ 4096) ∧ (rems f p acc m).1.length ≤ acc.length + m.length
  | [], acc, h, _ => ⟨h, by simp [rems]⟩
  | q :: r, acc, h, hm => by
    rw [rems]
    split
    · rename_i c
      have hb : bad f p q = 0 ∧ trim q ≠ [] := by
        unfold Pdm at c
        split at c
        · rename_i b; split at c
          · simp at c
          · rename_i t; exact ⟨b, t⟩
        · rename_i b; exact absurd c b
      obtain ⟨hp, hp0, ea, eb, la, lb⟩ := bad_el wp (hm q (by simp)) hb.1
      have tb := trim_le q
      obtain ⟨_, _, q3, _, _⟩ := dmP_spec hp (Cn.trim (p := P f) ea) (Cn.trim (p := P f) eb) hb.2
      obtain ⟨h1, h2⟩ := rems_len f p wp r (acc ++ [(Pdm f p q).2.1]) (fun x hx => by
        rcases List.mem_append.1 hx with hx | hx
        · exact h x hx
        · rw [List.mem_singleton.1 hx, Pdm_good hp0 ea eb la lb hb.2]; show (dmP (P f) (trim p) (trim q)).2.length ≤ 4096; omega) (fun x hx => hm x (by simp [hx]))
      exact ⟨h1, by rw [List.length_append] at h2; simp at h2 ⊢; omega⟩
    · exact ⟨(fun x hx => by simp at hx), by simp⟩
theorem vals_small (f : Int) (a xs : List Int) : (Pvals f a xs).1.length ≤ 2048 := by
  unfold Pvals; split
  · rename_i c
    have h := (lims_zero c xs (by simp)).2
    show (vals (P f) a xs).length ≤ 2048
    unfold vals; rw [List.length_map]; exact h
  · simp
theorem fresh_small (f : Int) (a xs : List Int) (wa : Wd a) (wx : Wd xs) : fresh_ok (Ptree f xs).1 (Pzero f xs).1 (Pvals f a xs).1 (Prems f xs [a, a]).1 = true := by
  have hr : (∀ x ∈ (Prems f xs [a, a]).1, x.length ≤ 4096) ∧ (Prems f xs [a, a]).1.length ≤ 2 := by
    unfold Prems; split
    · split
      · have := rems_len f xs wx [a, a] [] (by simp) (fun q hq => by
          rcases List.mem_cons.1 hq with rfl | hq
          · exact wa
          · rw [List.mem_singleton.1 hq]; exact wa)
        simpa using this
      · simp
    · simp
  have hv := vals_small f a xs
  have ht := tree_small (f := f) (xs := xs)
  have hz : (Pzero f xs).1.length ≤ 2049 := by
    unfold Pzero
    by_cases c : lim f xs = 0
    · rw [if_pos c]
      have hp := P_pr (ok_iff.1 (lim_zero c).1).1
      have hl := (lim_zero c).2
      show (Z (P f) xs).length ≤ 2049
      rw [(Z_spec hp xs).2.1]; omega
    · rw [if_neg c]; simp
  have hT : (Ptree f xs).1.length ≤ 2049 ∧ ∀ L ∈ (Ptree f xs).1, L.length ≤ 2049 ∧ ∀ x ∈ L, x.length ≤ 2049 := by
    by_cases c : lim f xs = 0
    · have hl := (lim_zero c).2
      exact ⟨by omega, fun L hL => ⟨by have := (ht.2 L hL).1; omega, fun x hx => by have := (ht.2 L hL).2 x hx; omega⟩⟩
    · have e : (Ptree f xs).1 = [] := by unfold Ptree; rw [if_neg c]
      rw [e]
      exact ⟨by simp, fun L hL => by cases hL⟩
  simp only [fresh_ok, Bool.and_eq_true, decide_eq_true_eq, List.all_eq_true]
  exact ⟨⟨⟨⟨⟨by omega, fun L hL => ⟨by have := (hT.2 L hL).1; omega, fun x hx => by have := (hT.2 L hL).2 x hx; omega⟩⟩, by omega⟩, by omega⟩, by have := hr.2; omega⟩, fun x hx => by have := hr.1 x hx; omega⟩
theorem TreeFresh : conclavelaw06_TreeFresh.Pure := by
  intro f a xs _ _ ha wa _ hx wx
  refine Ev.rounds (g := fun k => conclavelaw06_TreeFresh.f k f a xs) ?_
  unfold conclavelaw06_TreeFresh.f
  have w1 := Wd.of_wf wa; have w2 := Wd.of_wf wx
  have hv := vals_small f a xs
  have hm : ∀ q ∈ [a, a], Wd q ∧ q.length < 17592186044416 := fun q hq => by
    rcases List.mem_cons.1 hq with rfl | hq
    · exact ⟨w1, by omega⟩
    · rw [List.mem_singleton.1 hq]; exact ⟨w1, by omega⟩
  have e0 : rd_L1 [a, a] 0 = a := rfl
  refine Ev.bnd (rCopy a (by omega)) (Ev.bnd (rCopy xs (by omega)) (Ev.bind (Tree_eq f xs w2 (by omega)) (Ev.bind (Zero_eq f xs w2 (by omega)) (Ev.bind (Values_eq f a xs w1 w2 (by omega) (by omega)) (Ev.bnd (rCopy a (by omega)) (Ev.bnd (rCopy a (by omega)) (Ev.bnd rfl ?_)))))))
  refine Ev.bind (Remainders_eq f xs [a, a] w2 (by omega) hm (by simp)) (Ev.pos (fresh_small f a xs w1 w2) ?_)
  refine Ev.bind (Values_eq f a xs w1 w2 (by omega) (by omega)) (Ev.bind (rValues f a xs w1 w2 (by omega) (by omega)) (Ev.bind anchored6 (Ev.pos rfl ?_)))
  refine Ev.bind (rSame a a (by omega)) (Ev.pos (by simp) (Ev.bind (rSame xs xs (by omega)) (Ev.pos (by simp) (Ev.pos (by simp) ?_))))
  rw [e0]
  exact Ev.bind (rSame a a (by omega)) (Ev.pos (by simp) (Ev.bind (rSame _ _ (by omega)) (Ev.pos (by simp) (Ev.fix (by simp)))))
end Go.Proofs.Ytkaongcpekhbdaa.Pure
