/- FastFresh: what is handed in stays; what is answered is new memory. For every number and every two lists of words. -/
import Derived.Test.YtaegmhniepfdaaaMFastFresh
import Derived.Test.YtaegmhniepfdaaaPFastFreshx
namespace Go.Proofs.Ytaegmhniepfdaaa.FFastFresh
open Go.RowKit Go Go.Proofs.YtaegmhniepfdaaaW.PrintWords Go.Proofs.YtaegmhniepfdaaaW.PrintLast Go.Proofs.YtaegmhniepfdaaaW.PrintMore Go.Proofs.Ytaegmhniepfdaaa.M Go.Proofs.Ytaegmhniepfdaaa.PFastFresh
theorem trimmed_loop (l : List Int) (hl : l.length < 4611686018427387904) : ∀ n : Nat, n ≤ l.length → Ev (fun k => poly_trimmed.l0 k l (n : Int)) (l.take (tl l n)) := by
  intro n
  induction n with
  | zero =>
    intro _
    refine Ev.step (fun k => by rw [poly_trimmed.l0]) ?_
    exact Ev.neg (by omega) (Ev.pos (by omega) (Ev.pos (by omega) (Ev.fix rfl)))
  | succ n ih =>
    intro hn
    have e : wrap64 (((n + 1 : Nat) : Int) - 1) = (n : Int) := by rw [w64_in (by omega) (by omega)]; omega
    refine Ev.step (fun k => by rw [poly_trimmed.l0]) ?_
    rw [e]
    refine Ev.pos (by omega) (Ev.pos (by omega) (Ev.pos (by omega) (Ev.ite (fun c => ?_) (fun c => ?_))))
    · rw [tl, if_pos c]; exact ih (by omega)
    · rw [tl, if_neg c]; exact Ev.pos (by omega) (Ev.pos (by omega) (Ev.fix rfl))
theorem trimmed_eq (l : List Int) (hl : l.length < 4611686018427387904) : Ev (fun k => poly_trimmed.f k l) (trim l) := by
  unfold poly_trimmed.f
  exact trimmed_loop l hl l.length (Nat.le_refl _)
theorem clone_eq (l : List Int) (hl : l.length < 17592186044416) : slices_Clone_uint64_uint64.f l = some l := by
  unfold slices_Clone_uint64_uint64.f; rw [if_pos hl]
theorem Trim_eq (l : List Int) (hl : l.length < 17592186044416) : Ev (fun k => poly_Trim.f k l) (trim l) := by
  unfold poly_Trim.f
  exact Ev.bind (trimmed_eq l (by omega)) (Ev.bnd (clone_eq _ (by have := trim_le l; omega)) (Ev.fix rfl))
theorem rTrim_loop (l : List Int) (hl : l.length < 17592186044416) : ∀ n : Nat, n ≤ l.length → Ev (fun k => cr3_Trim.l0 k l (n : Int)) (l.take (tl l n)) := by
  have hc : ∀ m : Nat, cr1_Copy.f (l.take ((m : Int) : Int).toNat) = some (l.take m) := fun m => by
    unfold cr1_Copy.f
    have : (l.take m).length ≤ l.length := List.length_take_le' _ _
    simp only [Int.toNat_natCast, Option.bind_some, List.length_nil, List.nil_append, Nat.zero_add]
    rw [if_pos (by omega)]
  intro n
  induction n with
  | zero =>
    intro _
    refine Ev.step (fun k => by rw [cr3_Trim.l0]) ?_
    exact Ev.neg (by omega) (Ev.pos (by omega) (Ev.pos (by omega) (Ev.bnd (hc 0) (Ev.fix rfl))))
  | succ n ih =>
    intro hn
    have e : wrap64 (((n + 1 : Nat) : Int) - 1) = (n : Int) := by rw [w64_in (by omega) (by omega)]; omega
    refine Ev.step (fun k => by rw [cr3_Trim.l0]) ?_
    rw [e]
    refine Ev.pos (by omega) (Ev.pos (by omega) (Ev.pos (by omega) (Ev.ite (fun c => ?_) (fun c => ?_))))
    · rw [tl, if_pos c]; exact ih (by omega)
    · rw [tl, if_neg c]; exact Ev.pos (by omega) (Ev.pos (by omega) (Ev.bnd (hc (n + 1)) (Ev.fix rfl)))
theorem rTrim (l : List Int) (hl : l.length < 17592186044416) : Ev (fun k => cr3_Trim.f k l) (trim l) := by
  unfold cr3_Trim.f
  exact rTrim_loop l hl l.length (Nat.le_refl _)
end Go.Proofs.Ytaegmhniepfdaaa.FFastFresh
namespace Go.Proofs.Ytaegmhniepfdaaa.FFastFresh
open Go.RowKit Go Go.Proofs.YtaegmhniepfdaaaW.PrintWords Go.Proofs.YtaegmhniepfdaaaW.PrintLast Go.Proofs.YtaegmhniepfdaaaW.PrintMore Go.Proofs.Ytaegmhniepfdaaa.M Go.Proofs.Ytaegmhniepfdaaa.PFastFresh
def PF (p : Int) (w : Bool) : Prop := (p = 2013265921 ∧ w = false) ∨ (p = 18446744069414584321 ∧ w = true)
theorem PF.lo {p : Int} {w : Bool} (h : PF p w) : 2013265921 ≤ p := by unfold PF at h; omega
theorem PF.hi {p : Int} {w : Bool} (h : PF p w) : p ≤ 18446744069414584321 := by unfold PF at h; omega
theorem addLo_eq (a b : Int) (ha : 0 ≤ a) (hb : 0 ≤ b) : addLo a b = (a + b) % 18446744073709551616 := by unfold addLo; omega
theorem addHi_eq (a b : Int) (ha : 0 ≤ a) (hb : 0 ≤ b) : addHi a b = (a + b) / 18446744073709551616 := by unfold addHi; omega
theorem subLo_eq (a b : Int) (ha : 0 ≤ a) (hb : 0 ≤ b) (hb1 : b < 18446744073709551616) : subLo a b = (a - b) % 18446744073709551616 := by unfold subLo; omega
theorem subHi_eq (a b : Int) (ha : 0 ≤ a) (hb : 0 ≤ b) : subHi a b = if a < b then 1 else 0 := by
  unfold subHi; split <;> split <;> omega
theorem add_eq {p : Int} {w : Bool} (h : PF p w) {a b : Int} (ha : 0 ≤ a) (ha1 : a < p) (hb : 0 ≤ b) (hb1 : b < p) : field_reckoner_add.f p w a b = some ((a + b) % p) := by
  have h1 := h.lo; have h2 := h.hi
  have e : (a + b) % p = if a + b < p then a + b else a + b - p := by
    split
    · exact Int.emod_eq_of_lt (by omega) (by omega)
    · rw [← Int.sub_emod_right]; exact Int.emod_eq_of_lt (by omega) (by omega)
  unfold field_reckoner_add.f
  rw [addLo_eq _ _ ha hb, addHi_eq _ _ ha hb, e]
  simp only [u64w]
  (repeat' split) <;> (congr 1; omega)
theorem sub_eq {p : Int} {w : Bool} (h : PF p w) {a b : Int} (ha : 0 ≤ a) (ha1 : a < p) (hb : 0 ≤ b) (hb1 : b < p) : field_reckoner_sub.f p w a b = some ((a - b) % p) := by
  have h1 := h.lo; have h2 := h.hi
  have e : (a - b) % p = if a < b then a - b + p else a - b := by
    split
    · rw [← Int.add_emod_right]; exact Int.emod_eq_of_lt (by omega) (by omega)
    · exact Int.emod_eq_of_lt (by omega) (by omega)
  unfold field_reckoner_sub.f
  rw [subLo_eq _ _ ha hb (by omega), subHi_eq _ _ ha hb, e]
  simp only [u64w]
  (repeat' split) <;> first | (exfalso; omega) | (congr 1; omega)
theorem mul64_eq {a b : Int} (ha : 0 ≤ a) (ha1 : a < 18446744073709551616) (hb : 0 ≤ b) (hb1 : b < 18446744073709551616) :
    bits_Mul64.f a b = some (a * b / 18446744073709551616, a * b % 18446744073709551616) := by
  have e := mul_parts a b
  have k1 := mul_half (a / 4294967296) (b / 4294967296) (by omega) (by omega) (by omega) (by omega)
  have k2 := mul_half (a / 4294967296) (b % 4294967296) (by omega) (by omega) (by omega) (by omega)
  have k3 := mul_half (a % 4294967296) (b / 4294967296) (by omega) (by omega) (by omega) (by omega)
  have k4 := mul_half (a % 4294967296) (b % 4294967296) (by omega) (by omega) (by omega) (by omega)
  unfold bits_Mul64.f
  rw [and32 a ha ha1, and32 b hb hb1]
  generalize a / 4294967296 * (b / 4294967296) = t11 at *
  generalize a / 4294967296 * (b % 4294967296) = t10 at *
  generalize a % 4294967296 * (b / 4294967296) = t01 at *
  generalize a % 4294967296 * (b % 4294967296) = t00 at *
  rw [e]
  rw [u64w_in t11 (by omega) (by omega), u64w_in t10 (by omega) (by omega), u64w_in t01 (by omega) (by omega), u64w_in t00 (by omega) (by omega)]
  rw [u64w_in (t10 + t00 / 4294967296) (by omega) (by omega), and32 (t10 + t00 / 4294967296) (by omega) (by omega)]
  obtain ⟨q, hq⟩ : ∃ q, q = t00 / 4294967296 := ⟨_, rfl⟩
  obtain ⟨r, hr⟩ : ∃ r, r = t00 % 4294967296 := ⟨_, rfl⟩
  have et : t00 = q * 4294967296 + r := by omega
  have qb : 0 ≤ q ∧ q ≤ 4294967294 := by omega
  have rb : 0 ≤ r ∧ r < 4294967296 := by omega
  rw [← hq]
  clear hq hr
  subst et
  obtain ⟨s1, hs1⟩ : ∃ s1, s1 = (t10 + q) / 4294967296 := ⟨_, rfl⟩
  obtain ⟨s0, hs0⟩ : ∃ s0, s0 = (t10 + q) % 4294967296 := ⟨_, rfl⟩
  have es : t10 = s1 * 4294967296 + s0 - q := by omega
  have sb : 0 ≤ s0 ∧ s0 < 4294967296 := by omega
  have sb1 : 0 ≤ s1 ∧ s1 < 4294967296 := by omega
  rw [← hs1, ← hs0]
  clear hs1 hs0
  subst es
  obtain ⟨v1, hv1⟩ : ∃ v1, v1 = (s0 + t01) / 4294967296 := ⟨_, rfl⟩
  obtain ⟨v0, hv0⟩ : ∃ v0, v0 = (s0 + t01) % 4294967296 := ⟨_, rfl⟩
  have ev : t01 = v1 * 4294967296 + v0 - s0 := by omega
  have vb : 0 ≤ v0 ∧ v0 < 4294967296 := by omega
  have vb1 : 0 ≤ v1 ∧ v1 < 4294967296 := by omega
  rw [u64w_in (s0 + t01) (by omega) (by omega), ← hv1]
  clear hv1 hv0
  subst ev
  rw [u64w_in (t11 + s1) (by omega) (by omega), u64w_in (t11 + s1 + v1) (by omega) (by omega)]
  have e2 : t11 * 18446744073709551616 + (s1 * 4294967296 + s0 - q + (v1 * 4294967296 + v0 - s0)) * 4294967296 + (q * 4294967296 + r) = (t11 + s1 + v1) * 18446744073709551616 + (v0 * 4294967296 + r) := by omega
  rw [e2, u64w]
  simp only [Option.some.injEq, Prod.mk.injEq]
  exact ⟨by omega, trivial⟩
theorem mul_lt {p a b : Int} (ha : 0 ≤ a) (ha1 : a < p) (hb : 0 ≤ b) (hb1 : b < p) : 0 ≤ a * b ∧ a * b < p * p := by
  refine ⟨Int.mul_nonneg ha hb, ?_⟩
  have h := Int.mul_le_mul (show a ≤ p - 1 by omega) (show b ≤ p - 1 by omega) hb (by omega)
  have : (p - 1) * (p - 1) = p * p - 2 * p + 1 := by grind
  omega
theorem emod_rng {p : Int} (x : Int) (hp : 0 < p) : 0 ≤ x % p ∧ x % p < p := ⟨Int.emod_nonneg _ (by omega), Int.emod_lt_of_pos _ hp⟩
theorem mul_eq {p : Int} {w : Bool} (h : PF p w) {a b : Int} (ha : 0 ≤ a) (ha1 : a < p) (hb : 0 ≤ b) (hb1 : b < p) : field_reckoner_mul.f p w a b = some (a * b % p) := by
  have h1 := h.lo; have h2 := h.hi
  obtain ⟨m0, m1⟩ := mul_lt ha ha1 hb hb1
  unfold field_reckoner_mul.f
  rw [mul64_eq ha (by omega) hb (by omega)]
  simp only [Option.bind_some]
  rcases h with ⟨rfl, rfl⟩ | ⟨rfl, rfl⟩
  · simp only [Bool.false_eq_true, if_false, bits_Rem64.f, bits_Div64.f]
    generalize a * b = m at *
    have e0 : m / 18446744073709551616 = 0 := by omega
    have e1 : m % 18446744073709551616 = m := by omega
    rw [e0, e1]
    simp [Int.tmod_eq_emod_of_nonneg m0]
  · simp only [if_true]
    generalize a * b = m at *
    have hhi : 0 ≤ m / 18446744073709551616 ∧ m / 18446744073709551616 < 18446744073709551616 := by omega
    rw [and32 _ hhi.1 hhi.2]
    have hP : PF 18446744069414584321 true := .inr ⟨rfl, rfl⟩
    rw [u64w_in (m / 18446744073709551616 % 4294967296 * 4294967296) (by omega) (by omega), u64w_in (m / 18446744073709551616 % 4294967296 * 4294967296 - m / 18446744073709551616 % 4294967296) (by omega) (by omega)]
    split
    · rw [u64w_in _ (by omega) (by omega), sub_eq hP (by omega) (by omega) (by omega) (by omega)]
      simp only [Option.bind_some]
      rw [add_eq hP (emod_rng _ (by omega)).1 (emod_rng _ (by omega)).2 (by omega) (by omega)]
      simp only [Option.bind_some, Option.some.injEq]
      omega
    · rw [sub_eq hP (by omega) (by omega) (by omega) (by omega)]
      simp only [Option.bind_some]
      rw [add_eq hP (emod_rng _ (by omega)).1 (emod_rng _ (by omega)).2 (by omega) (by omega)]
      simp only [Option.bind_some, Option.some.injEq]
      omega
theorem pow_loop {p : Int} {w : Bool} (h : PF p w) : ∀ (d : Nat) (a n acc : Int), 0 ≤ a → a < p → 0 ≤ acc → acc < p → 0 ≤ n → n < 2 ^ d → n < 18446744073709551616 →
    Ev (fun k => field_reckoner_pow.l0 k a n acc p w) (acc * a ^ n.toNat % p) := by
  have h1 := h.lo; have h2 := h.hi
  intro d
  induction d with
  | zero =>
    intro a n acc ha ha1 hc hc1 hn hn1 hn2
    obtain rfl : n = 0 := by simp at hn1; omega
    refine Ev.step (fun k => by rw [field_reckoner_pow.l0]) ?_
    refine Ev.neg (by omega) (Ev.fix ?_)
    simp [Int.emod_eq_of_lt hc hc1]
  | succ d ih =>
    intro a n acc ha ha1 hc hc1 hn hn1 hn2
    refine Ev.step (fun k => by rw [field_reckoner_pow.l0]) ?_
    refine Ev.ite (fun c => ?_) (fun c => ?_)
    · have r1 := emod_rng (a * a) (p := p) (by omega)
      have r2 := emod_rng (acc * a) (p := p) (by omega)
      have hd : n / 2 < 2 ^ d := by
        have : (2 : Int) ^ (d + 1) = 2 ^ d * 2 := Int.pow_succ _ _
        omega
      have hnn : n.toNat = 2 * (n / 2).toNat + (n % 2).toNat := by omega
      have hsq : ∀ m : Nat, a ^ (2 * m) = (a * a) ^ m := fun m => by
        rw [Int.pow_mul]; congr 1; rw [Int.pow_succ, Int.pow_succ]; simp
      refine Ev.ite (fun c1 => ?_) (fun c1 => ?_)
      · rw [and1 n hn hn2] at c1
        refine Ev.bnd (mul_eq h hc hc1 ha ha1) (Ev.bnd (mul_eq h ha ha1 ha ha1) ?_)
        refine Ev.cast (ih _ _ _ r1.1 r1.2 r2.1 r2.2 (by omega) hd (by omega)) ?_
        rw [hnn, c1, show (1 : Int).toNat = 1 from rfl, Int.pow_succ, hsq]
        rw [emod_mul_l, ← emod_mul_r _ ((a * a % p) ^ _), emod_pow_l, emod_mul_r]
        congr 1; grind
      · rw [and1 n hn hn2] at c1
        have c2 : n % 2 = 0 := by omega
        refine Ev.bnd (mul_eq h ha ha1 ha ha1) ?_
        refine Ev.cast (ih _ _ _ r1.1 r1.2 hc hc1 (by omega) hd (by omega)) ?_
        rw [hnn, c2, show (0 : Int).toNat = 0 from rfl, Nat.add_zero, hsq]
        rw [← emod_mul_r _ ((a * a % p) ^ _), emod_pow_l, emod_mul_r]
    · obtain rfl : n = 0 := by omega
      refine Ev.fix ?_
      simp [Int.emod_eq_of_lt hc hc1]
theorem pow_eq {p : Int} {w : Bool} (h : PF p w) {a n : Int} (ha : 0 ≤ a) (ha1 : a < p) (hn : 0 ≤ n) (hn2 : n < 18446744073709551616) :
    Ev (fun k => field_reckoner_pow.f k p w a n) (a ^ n.toNat % p) := by
  have h1 := h.lo
  exact Ev.cast (pow_loop h 64 a n 1 ha ha1 (by omega) (by omega) hn (by simpa using hn2) hn2) (by simp)
end Go.Proofs.Ytaegmhniepfdaaa.FFastFresh
namespace Go.Proofs.Ytaegmhniepfdaaa.FFastFresh
open Go.RowKit Go Go.Proofs.YtaegmhniepfdaaaW.PrintWords Go.Proofs.YtaegmhniepfdaaaW.PrintLast Go.Proofs.YtaegmhniepfdaaaW.PrintMore Go.Proofs.Ytaegmhniepfdaaa.M Go.Proofs.Ytaegmhniepfdaaa.PFastFresh
theorem pf_of {f : Int} (h : P f ≠ 0) : PF (P f) (wd f) := by
  unfold PF P wd at *
  by_cases h1 : f = 1
  · subst h1; simp
  · by_cases h2 : f = 2
    · subst h2; simp
    · simp [h1, h2] at h
theorem of_is (f : Int) : field_of.f f = some (P f, wd f, decide (P f ≠ 0)) := by
  unfold field_of.f P wd
  by_cases h1 : f = 1
  · subst h1; simp
  · by_cases h2 : f = 2
    · subst h2; simp
    · simp [h1, h2]
theorem in_loop (p : Int) (w : Bool) (l : List Int) (hl : l.length < 4611686018427387904) : ∀ (d i : Nat), i + d = l.length →
    Ev (fun k => field_reckoner_in.l0 k l (l.length : Int) (i : Int) p w) (allIn p (l.drop i)) := by
  intro d
  induction d with
  | zero =>
    intro i hi
    refine Ev.step (fun k => by rw [field_reckoner_in.l0]) ?_
    refine Ev.neg (by omega) (Ev.fix ?_)
    rw [List.drop_eq_nil_of_le (by omega), allIn_nil]
  | succ d ih =>
    intro i hi
    have hlt : i < l.length := by omega
    refine Ev.step (fun k => by rw [field_reckoner_in.l0]) ?_
    refine Ev.pos (by omega) (Ev.pos (by omega) (Ev.pos (by omega) ?_))
    rw [drop_rd hlt, allIn_cons]
    refine Ev.ite (fun c => ?_) (fun c => ?_)
    · refine Ev.fix ?_
      rw [decide_eq_false (by omega), Bool.false_and]
    · rw [decide_eq_true (by omega), Bool.true_and, w64_succ (by omega)]
      exact ih (i + 1) (by omega)
theorem in_eq (p : Int) (w : Bool) (l : List Int) (hl : l.length < 4611686018427387904) : Ev (fun k => field_reckoner_in.f k p w l) (allIn p l) := by
  have := in_loop p w l hl l.length 0 (by omega)
  simpa [field_reckoner_in.f] using this
theorem asked_eq (f : Int) (l : List Int) (hl : l.length < 4611686018427387904) :
    Ev (fun k => field_asked.f k f l) (if ok f l then (P f, wd f, 0) else (0, false, 2)) := by
  unfold field_asked.f
  refine Ev.bnd (of_is f) ?_
  by_cases hp : P f = 0
  · have e : ok f l = false := by unfold ok; simp [hp]
    simp only [hp, e]
    exact Ev.fix (by simp)
  · refine Ev.pos (by simpa using hp) ?_
    refine Ev.bind (in_eq (P f) (wd f) l hl) ?_
    have e : ok f l = allIn (P f) l := by unfold ok; simp [hp]
    rw [e]
    refine Ev.ite (fun c => ?_) (fun c => ?_)
    · exact Ev.fix (by rw [if_pos c])
    · exact Ev.fix (by rw [if_neg c])
theorem ok2 {f a b : Int} (h : ok f [a, b] = true) : PF (P f) (wd f) ∧ a < P f ∧ b < P f := by
  have := ok_iff.1 h
  exact ⟨pf_of this.1, this.2 a (by simp), this.2 b (by simp)⟩
theorem ok1 {f a : Int} (h : ok f [a] = true) : PF (P f) (wd f) ∧ a < P f := by
  have := ok_iff.1 h
  exact ⟨pf_of this.1, this.2 a (by simp)⟩
theorem Add_eq (f a b : Int) (ha : 0 ≤ a) (hb : 0 ≤ b) : Ev (fun k => field_Add.f k f a b) (if ok f [a, b] then ((a + b) % P f, 0) else (0, 2)) := by
  unfold field_Add.f
  refine Ev.bind (asked_eq f _ (by simp)) ?_
  by_cases h : ok f [a, b] = true
  · simp only [h, if_true]
    obtain ⟨hp, h1, h2⟩ := ok2 h
    exact Ev.bnd (add_eq hp ha h1 hb h2) (Ev.fix rfl)
  · simp only [h]
    exact Ev.fix (by simp)
theorem Sub_eq (f a b : Int) (ha : 0 ≤ a) (hb : 0 ≤ b) : Ev (fun k => field_Sub.f k f a b) (if ok f [a, b] then ((a - b) % P f, 0) else (0, 2)) := by
  unfold field_Sub.f
  refine Ev.bind (asked_eq f _ (by simp)) ?_
  by_cases h : ok f [a, b] = true
  · simp only [h, if_true]
    obtain ⟨hp, h1, h2⟩ := ok2 h
    exact Ev.bnd (sub_eq hp ha h1 hb h2) (Ev.fix rfl)
  · simp only [h]
    exact Ev.fix (by simp)
theorem Mul_eq (f a b : Int) (ha : 0 ≤ a) (hb : 0 ≤ b) : Ev (fun k => field_Mul.f k f a b) (if ok f [a, b] then (a * b % P f, 0) else (0, 2)) := by
  unfold field_Mul.f
  refine Ev.bind (asked_eq f _ (by simp)) ?_
  by_cases h : ok f [a, b] = true
  · simp only [h, if_true]
    obtain ⟨hp, h1, h2⟩ := ok2 h
    exact Ev.bnd (mul_eq hp ha h1 hb h2) (Ev.fix rfl)
  · simp only [h]
    exact Ev.fix (by simp)
theorem Pow_eq (f a n : Int) (ha : 0 ≤ a) (hn : 0 ≤ n) (hn1 : n < 18446744073709551616) : Ev (fun k => field_Pow.f k f a n) (if ok f [a] then (a ^ n.toNat % P f, 0) else (0, 2)) := by
  unfold field_Pow.f
  refine Ev.bind (asked_eq f _ (by simp)) ?_
  by_cases h : ok f [a] = true
  · simp only [h, if_true]
    obtain ⟨hp, h1⟩ := ok1 h
    exact Ev.bind (pow_eq hp ha h1 hn hn1) (Ev.fix rfl)
  · simp only [h]
    exact Ev.fix (by simp)
theorem inv_eq {p : Int} {w : Bool} (h : PF p w) {a : Int} (ha : 0 ≤ a) (ha1 : a < p) : Ev (fun k => field_reckoner_inv.f k p w a) (a ^ (p - 2).toNat % p) := by
  have h1 := h.lo; have h2 := h.hi
  unfold field_reckoner_inv.f
  rw [u64w_in _ (by omega) (by omega)]
  exact Ev.bind (pow_eq h ha ha1 (by omega) (by omega)) (Ev.fix rfl)
def quot (f a b : Int) : Int × Int := if ok f [a, b] then (if b = 0 then (0, 5) else (a * (b ^ (P f - 2).toNat % P f) % P f, 0)) else (0, 2)
theorem Div_eq (f a b : Int) (ha : 0 ≤ a) (hb : 0 ≤ b) : Ev (fun k => field_Div.f k f a b) (quot f a b) := by
  unfold field_Div.f quot
  refine Ev.bind (asked_eq f _ (by simp)) ?_
  by_cases h : ok f [a, b] = true
  · simp only [h, if_true]
    obtain ⟨hp, h1, h2⟩ := ok2 h
    by_cases hb0 : b = 0
    · simp only [hb0, if_true]; exact Ev.fix rfl
    · simp only [hb0, if_false]
      have hr := emod_rng (p := P f) (b ^ (P f - 2).toNat) (by have := hp.lo; omega)
      exact Ev.bind (inv_eq hp hb h2) (Ev.bnd (mul_eq hp ha h1 hr.1 hr.2) (Ev.fix rfl))
  · simp only [h]
    exact Ev.fix (by simp)
theorem Inv_eq (f a : Int) (ha : 0 ≤ a) : Ev (fun k => field_Inv.f k f a) (quot f 1 a) := by
  unfold field_Inv.f
  exact Ev.bind (Div_eq f 1 a (by decide) ha) (Ev.fix rfl)
theorem Prime_eq (f : Int) : Ev (fun k => field_Prime.f k f) (if P f = 0 then (0, 2) else (P f, 0)) := by
  unfold field_Prime.f
  refine Ev.bind (asked_eq f _ (by simp)) ?_
  by_cases h : P f = 0
  · have : ok f [] = false := by unfold ok; simp [h]
    simp only [this, h]; exact Ev.fix (by simp)
  · have : ok f [] = true := by unfold ok; simp [h, allIn_nil]
    simp only [this, h]; exact Ev.fix (by simp)
theorem In_eq (f : Int) (l : List Int) (hl : l.length < 4611686018427387904) : Ev (fun k => field_In.f k f l) (ok f l) := by
  unfold field_In.f
  refine Ev.bind (asked_eq f _ hl) ?_
  by_cases h : ok f l = true
  · simp only [h]; exact Ev.fix (by simp)
  · simp only [h]; exact Ev.fix (by simp)
end Go.Proofs.Ytaegmhniepfdaaa.FFastFresh
namespace Go.Proofs.Ytaegmhniepfdaaa.FFastFresh
open Go.RowKit Go Go.Proofs.YtaegmhniepfdaaaW.PrintWords Go.Proofs.YtaegmhniepfdaaaW.PrintLast Go.Proofs.YtaegmhniepfdaaaW.PrintMore Go.Proofs.Ytaegmhniepfdaaa.M Go.Proofs.Ytaegmhniepfdaaa.PFastFresh
theorem rP (f : Int) : cr1_P.f f = some (P f) := by
  unfold cr1_P.f P; split <;> (try split) <;> rfl
theorem rSum {p a b : Int} (hp : 0 < p) (hp1 : p < 18446744073709551616) (ha : 0 ≤ a) (ha1 : a < p) (hb : 0 ≤ b) (hb1 : b < p) : cr1_Sum.f p a b = some ((a + b) % p) := by
  have e : (a + b) % p = if a + b < p then a + b else a + b - p := by
    split
    · exact Int.emod_eq_of_lt (by omega) (by omega)
    · rw [← Int.sub_emod_right]; exact Int.emod_eq_of_lt (by omega) (by omega)
  unfold cr1_Sum.f
  rw [e]
  simp only [u64w]
  (repeat' split) <;> first | (exfalso; omega) | (congr 1; omega)
theorem shr_eq (b : Int) (i : Nat) (hi : i < 64) : shr .u64 b (IntKind.u64.wrap (i : Int)) = b / 2 ^ i := by
  unfold shr
  rw [u64w_in _ (by omega) (by omega)]
  simp [IntKind.bits, Nat.min_eq_left (show i ≤ 64 by omega)]
theorem bit_split (b : Int) (i : Nat) : b % 2 ^ (i + 1) = (b / 2 ^ i % 2) * 2 ^ i + b % 2 ^ i := by
  have h : (2 : Int) ^ (i + 1) = 2 ^ i * 2 := Int.pow_succ _ _
  have hp : (0 : Int) < 2 ^ i := Int.pow_pos (by decide)
  have h1 := Int.emod_add_mul_ediv b (2 ^ i)
  have h2 := Int.emod_add_mul_ediv (b / 2 ^ i) 2
  have h3 := Int.emod_nonneg b (show (2 : Int) ^ i ≠ 0 by omega)
  have h4 := Int.emod_lt_of_pos b hp
  have h5 : (b / 2 ^ i % 2) * 2 ^ i + b % 2 ^ i < 2 ^ (i + 1) := by
    have : b / 2 ^ i % 2 = 0 ∨ b / 2 ^ i % 2 = 1 := by omega
    rcases this with e | e <;> rw [e, h] <;> omega
  have h6 : 0 ≤ (b / 2 ^ i % 2) * 2 ^ i + b % 2 ^ i := by
    have := Int.mul_nonneg (show 0 ≤ b / 2 ^ i % 2 by omega) (show (0 : Int) ≤ 2 ^ i by omega)
    omega
  have h7 : b = (b / 2 ^ i % 2) * 2 ^ i + b % 2 ^ i + 2 ^ (i + 1) * (b / 2 ^ i / 2) := by
    rw [h]
    generalize b / 2 ^ i = q at *
    generalize b % 2 ^ i = r at *
    generalize (2 : Int) ^ i = t at *
    generalize q % 2 = c at *
    generalize q / 2 = e at *
    subst h2
    rw [← h1]
    grind
  conv => lhs; rw [h7, Int.add_mul_emod_self_left]
  exact Int.emod_eq_of_lt h6 h5
theorem times_loop {p : Int} (hp : 0 < p) (hp1 : p < 18446744073709551616) {a b : Int} (ha : 0 ≤ a) (ha1 : a < p) (hb : 0 ≤ b) (hb1 : b < 18446744073709551616) : ∀ (d : Nat) (s : Int), d ≤ 64 → 0 ≤ s → s < p →
    Ev (fun k => cr1_Times.l0 k p a b s ((d : Int) - 1)) ((s * 2 ^ d + (b % 2 ^ d) * a) % p) := by
  intro d
  induction d with
  | zero =>
    intro s _ hs hs1
    refine Ev.step (fun k => by rw [cr1_Times.l0]) ?_
    refine Ev.neg (by omega) (Ev.fix ?_)
    simp [Int.emod_one, Int.emod_eq_of_lt hs hs1]
  | succ d ih =>
    intro s hd hs hs1
    have r1 : 0 ≤ (s + s) % p ∧ (s + s) % p < p := ⟨Int.emod_nonneg _ (by omega), Int.emod_lt_of_pos _ hp⟩
    have r2 : 0 ≤ ((s + s) % p + a) % p ∧ ((s + s) % p + a) % p < p := ⟨Int.emod_nonneg _ (by omega), Int.emod_lt_of_pos _ hp⟩
    have hi : wrap64 (((d + 1 : Nat) : Int) - 1 - 1) = (d : Int) - 1 := by rw [w64_in (by omega) (by omega)]; omega
    have hx : (((d + 1 : Nat) : Int) - 1) = ((d : Nat) : Int) := by omega
    refine Ev.step (fun k => by rw [cr1_Times.l0]) ?_
    refine Ev.pos (by omega) (Ev.bnd (rSum hp hp1 hs hs1 hs hs1) ?_)
    rw [hi, hx, shr_eq b d (by omega)]
    have hbd : 0 ≤ b / 2 ^ d := Int.ediv_nonneg hb (Int.le_of_lt (Int.pow_pos (by decide)))
    have hbd1 : b / 2 ^ d ≤ b := Int.ediv_le_self _ hb
    rw [and1 _ hbd (by omega), bit_split b d]
    have h2 : (2 : Int) ^ (d + 1) = 2 ^ d * 2 := Int.pow_succ _ _
    refine Ev.pos (by rw [u64w]; omega) (Ev.ite (fun c => ?_) (fun c => ?_))
    · refine Ev.bnd (rSum hp hp1 r1.1 r1.2 ha ha1) (Ev.cast (ih _ (by omega) r2.1 r2.2) ?_)
      rw [c, ← emod_add_l ((((s + s) % p + a) % p) * 2 ^ d), emod_mul_l, ← emod_mul_l, emod_add_l (s + s) a p, emod_mul_l, emod_add_l, h2]
      congr 1; grind
    · have c0 : b / 2 ^ d % 2 = 0 := by omega
      refine Ev.cast (ih _ (by omega) r1.1 r1.2) ?_
      rw [c0, ← emod_add_l ((s + s) % p * 2 ^ d), emod_mul_l, emod_add_l, h2]
      congr 1; grind
theorem rTimes {p : Int} (hp : 0 < p) (hp1 : p < 18446744073709551616) {a b : Int} (ha : 0 ≤ a) (ha1 : a < p) (hb : 0 ≤ b) (hb1 : b < 18446744073709551616) : Ev (fun k => cr1_Times.f k p a b) (a * b % p) := by
  have h := times_loop hp hp1 ha ha1 hb hb1 64 0 (by omega) (by omega) hp
  refine Ev.cast h ?_
  rw [Int.emod_eq_of_lt hb (by simpa using hb1)]
  congr 1; grind
theorem rIn_loop (p : Int) (l : List Int) (hl : l.length < 4611686018427387904) : ∀ (d i : Nat), i + d = l.length →
    Ev (fun k => cr1_In.l0 k l p (i : Int)) (allIn p (l.drop i) && p != 0) := by
  intro d
  induction d with
  | zero =>
    intro i hi
    refine Ev.step (fun k => by rw [cr1_In.l0]) ?_
    refine Ev.neg (by omega) (Ev.fix ?_)
    rw [List.drop_eq_nil_of_le (by omega), allIn_nil, Bool.true_and]
  | succ d ih =>
    intro i hi
    have hlt : i < l.length := by omega
    refine Ev.step (fun k => by rw [cr1_In.l0]) ?_
    refine Ev.pos (by omega) (Ev.pos (by omega) ?_)
    rw [drop_rd hlt, allIn_cons]
    refine Ev.ite (fun c => ?_) (fun c => ?_)
    · refine Ev.fix ?_
      rw [decide_eq_false (by omega), Bool.false_and, Bool.false_and]
    · rw [decide_eq_true (by omega), Bool.true_and, w64_succ (by omega)]
      exact ih (i + 1) (by omega)
theorem rIn (f : Int) (l : List Int) (hl : l.length < 4611686018427387904) : Ev (fun k => cr1_In.f k f l) (ok f l) := by
  unfold cr1_In.f
  refine Ev.bnd (rP f) ?_
  have := rIn_loop (P f) l hl l.length 0 (by omega)
  refine Ev.cast this ?_
  unfold ok
  rw [List.drop_zero, Bool.and_comm]
  congr 1
  by_cases h : P f = 0 <;> simp [h]
theorem rSame_loop (a b : List Int) (hl : a.length < 4611686018427387904) (he : a.length = b.length) : ∀ (d i : Nat), i + d = a.length →
    Ev (fun k => cr1_Same.l0 k a b (i : Int)) (decide (a.drop i = b.drop i)) := by
  intro d
  induction d with
  | zero =>
    intro i hi
    refine Ev.step (fun k => by rw [cr1_Same.l0]) ?_
    refine Ev.neg (by omega) (Ev.fix ?_)
    rw [List.drop_eq_nil_of_le (by omega), List.drop_eq_nil_of_le (by omega)]; simp
  | succ d ih =>
    intro i hi
    refine Ev.step (fun k => by rw [cr1_Same.l0]) ?_
    refine Ev.pos (by omega) (Ev.pos (by omega) ?_)
    rw [drop_rd (l := a) (by omega), drop_rd (l := b) (by omega), w64_succ (by omega)]
    have hb : (i : Int) < (b.length : Int) := by omega
    by_cases c : rd a (i : Int) = rd b (i : Int)
    · refine Ev.cast (r := decide (a.drop (i + 1) = b.drop (i + 1))) ?_ (by simp [c])
      simp only [hb, c, if_true]
      exact ih (i + 1) (by omega)
    · refine Ev.cast (r := false) ?_ (by simp [c])
      simp only [hb, c, if_true, if_false]
      exact Ev.fix rfl
theorem rSame (a b : List Int) (hl : a.length < 4611686018427387904) : Ev (fun k => cr1_Same.f k a b) (decide (a = b)) := by
  unfold cr1_Same.f
  by_cases he : a.length = b.length
  · have h := rSame_loop a b hl he a.length 0 (by omega)
    rw [List.drop_zero, List.drop_zero] at h
    have he' : (a.length : Int) = (b.length : Int) := by omega
    simp only [he', if_true]
    exact h
  · refine Ev.cast (r := false) ?_ (by rw [decide_eq_false]; rintro rfl; exact he rfl)
    have he' : ¬ (a.length : Int) = (b.length : Int) := by omega
    simp only [he', if_false]
    exact Ev.fix rfl
end Go.Proofs.Ytaegmhniepfdaaa.FFastFresh
namespace Go.Proofs.Ytaegmhniepfdaaa.FFastFresh
open Go.RowKit Go Go.Proofs.YtaegmhniepfdaaaW.PrintWords Go.Proofs.YtaegmhniepfdaaaW.PrintLast Go.Proofs.YtaegmhniepfdaaaW.PrintMore Go.Proofs.Ytaegmhniepfdaaa.M Go.Proofs.Ytaegmhniepfdaaa.PFastFresh
theorem ok_two {f a b : Int} (hp : P f ≠ 0) (ha : a < P f) (hb : b < P f) : ok f [a, b] = true := ok_iff.2 ⟨hp, by simp [ha, hb]⟩
theorem ok_nil {f : Int} : ok f [] = true ↔ P f ≠ 0 := by rw [ok_iff]; simp
theorem mx_nat (a b : Nat) : mx (a : Int) (b : Int) = ((max a b : Nat) : Int) := by unfold mx; split <;> omega
theorem kadd_eq {f a b : Int} (hp : P f ≠ 0) (ha : 0 ≤ a ∧ a < P f) (hb : 0 ≤ b ∧ b < P f) : Ev (fun k => poly_reckoner_add.f k f a b) ((a + b) % P f) := by
  unfold poly_reckoner_add.f
  refine Ev.bind (Add_eq f a b ha.1 hb.1) ?_
  rw [if_pos (ok_two hp ha.2 hb.2)]
  exact Ev.fix rfl
theorem kmul_eq {f a b : Int} (hp : P f ≠ 0) (ha : 0 ≤ a ∧ a < P f) (hb : 0 ≤ b ∧ b < P f) : Ev (fun k => poly_reckoner_mul.f k f a b) (a * b % P f) := by
  unfold poly_reckoner_mul.f
  refine Ev.bind (Mul_eq f a b ha.1 hb.1) ?_
  rw [if_pos (ok_two hp ha.2 hb.2)]
  exact Ev.fix rfl
def bads (f : Int) : List (List Int) → Int → Int
  | [], e => e
  | l :: r, e => if ok f l = true then bads f r (if l.length > 4096 then 4 else e) else 2
theorem rd_L1_lt {L : List (List Int)} {i : Nat} (h : i < L.length) : rd_L1 L (i : Int) = L[i] := by
  unfold rd_L1; rw [Int.toNat_natCast, List.getD_eq_getElem?_getD, List.getElem?_eq_getElem h]; rfl
theorem may_loop (f : Int) (L : List (List Int)) (hL : ∀ l ∈ L, l.length < 4611686018427387904) (hn : L.length < 4611686018427387904) : ∀ (d i : Nat) (e : Int), i + d = L.length →
    Ev (fun k => poly_may.l0 k f e L (L.length : Int) (i : Int)) (bads f (L.drop i) e) := by
  intro d
  induction d with
  | zero =>
    intro i e h
    refine Ev.step (fun k => by rw [poly_may.l0]) ?_
    rw [List.drop_of_length_le (by omega)]
    exact Ev.neg (by omega) (Ev.fix rfl)
  | succ d ih =>
    intro i e h
    have hi : i < L.length := by omega
    refine Ev.step (fun k => by rw [poly_may.l0]) ?_
    rw [rd_L1_lt hi, w64_succ (by omega), List.drop_eq_getElem_cons hi, bads]
    refine Ev.pos (by omega) (Ev.pos (by omega) (Ev.pos (by omega) (Ev.bind (In_eq f _ (hL _ (List.getElem_mem hi))) (Ev.ite (fun c => ?_) (fun c => ?_)))))
    · rw [if_pos c]
      refine Ev.ite (fun q => ?_) (fun q => ?_)
      · rw [if_pos (by omega)]; exact ih (i + 1) 4 (by omega)
      · rw [if_neg (by omega)]; exact ih (i + 1) e (by omega)
    · rw [if_neg c]; exact Ev.fix rfl
theorem may_eq (f : Int) (L : List (List Int)) (hL : ∀ l ∈ L, l.length < 4611686018427387904) (hn : L.length < 4611686018427387904) : Ev (fun k => poly_may.f k f L) (if P f = 0 then 2 else bads f L 0) := by
  unfold poly_may.f
  refine Ev.bind (In_eq f [] (by simp)) (Ev.ite (fun c => ?_) (fun c => ?_))
  · rw [if_neg (ok_nil.1 c)]
    exact may_loop f L hL hn L.length 0 0 (by omega)
  · rw [if_pos (Classical.not_not.1 fun z => c (ok_nil.2 z))]; exact Ev.fix rfl
theorem may2_eq (f : Int) (a b : List Int) (ha : a.length < 4611686018427387904) (hb : b.length < 4611686018427387904) : Ev (fun k => poly_may.f k f [a, b]) (bad f a b) := by
  refine Ev.cast (may_eq f [a, b] (by simp [ha, hb]) (by simp)) ?_
  unfold bad
  by_cases z : P f = 0
  · rw [if_pos z, if_neg (fun c => (ok_iff.1 c.1).1 z)]
  · rw [if_neg z]
    by_cases ca : ok f a = true
    · by_cases cb : ok f b = true
      · simp only [bads, if_pos ca, if_pos cb, if_pos (And.intro ca cb)]
        by_cases la : a.length ≤ 4096
        · by_cases lb : b.length ≤ 4096
          · rw [if_neg (by omega), if_neg (by omega), if_pos ⟨la, lb⟩]
          · rw [if_pos (by omega), if_neg (fun q => lb q.2)]
        · rw [if_neg (show ¬ (a.length ≤ 4096 ∧ b.length ≤ 4096) from fun q => la q.1), if_pos (show a.length > 4096 by omega)]
          split <;> rfl
      · rw [if_neg (fun c => cb c.2)]; simp only [bads, if_pos ca, if_neg cb]
    · rw [if_neg (fun c => ca c.1)]; simp only [bads, if_neg ca]
theorem padded (a b : List Int) : a.take (List.replicate (max a.length b.length) (0 : Int)).length ++ (List.replicate (max a.length b.length) (0 : Int)).drop a.length = pol (max a.length b.length) (cf a) := by
  refine pol_ext (by simp; omega) fun i hi => ?_
  rw [List.take_of_length_le (by simp; omega)]
  unfold cf rd
  rw [Int.toNat_natCast, List.getD_eq_getElem?_getD, List.getD_eq_getElem?_getD]
  by_cases c : i < a.length
  · rw [List.getElem?_append_left c]
  · rw [List.getElem?_append_right (by omega), List.getElem?_eq_none (l := a) (by omega), List.getElem?_drop, List.getElem?_replicate]
    split <;> rfl
end Go.Proofs.Ytaegmhniepfdaaa.FFastFresh
namespace Go.Proofs.Ytaegmhniepfdaaa.FFastFresh
open Go.RowKit Go Go.Proofs.YtaegmhniepfdaaaW.PrintWords Go.Proofs.YtaegmhniepfdaaaW.PrintLast Go.Proofs.YtaegmhniepfdaaaW.PrintMore Go.Proofs.Ytaegmhniepfdaaa.M Go.Proofs.Ytaegmhniepfdaaa.PFastFresh
theorem ok_all {f : Int} {l : List Int} (h : ok f l = true) : allIn (P f) l = true := by unfold ok at h; simp at h; exact h.2
theorem rBad (f : Int) (a b : List Int) (ha : a.length < 4611686018427387904) (hb : b.length < 4611686018427387904) : Ev (fun k => cr3_Bad.f k f a b) (bad f a b) := by
  unfold cr3_Bad.f bad
  refine Ev.bind (rIn f a ha) (Ev.ite (fun c => ?_) (fun c => ?_))
  · refine Ev.bind (rIn f b hb) ?_
    refine Ev.step (fun k => by rw [cr3_Bad.j0]) ?_
    by_cases cb : ok f b = true
    · rw [if_pos (And.intro c cb), cb]
      refine Ev.neg (by simp) (Ev.ite (fun q => ?_) (fun q => Ev.ite (fun r => ?_) (fun r => ?_)))
      · rw [if_neg (fun z => by have := z.1; omega)]; exact Ev.fix rfl
      · rw [if_neg (fun z => by have := z.2; omega)]; exact Ev.fix rfl
      · rw [if_pos ⟨by omega, by omega⟩]; exact Ev.fix rfl
    · rw [if_neg (show ¬ (ok f a = true ∧ ok f b = true) from fun z => cb z.2), show ok f b = false by simpa using cb]
      exact Ev.pos rfl (Ev.fix rfl)
  · rw [if_neg (fun z => c z.1)]
    refine Ev.step (fun k => by rw [cr3_Bad.j0]) ?_
    exact Ev.pos rfl (Ev.fix rfl)
theorem rd_pol {n i : Nat} {g : Nat → Int} (h : i < n) : rd (pol n g) (i : Int) = g i := by
  have := cf_pol (n := n) (g := g) (i := i); rw [if_pos h] at this; exact this
theorem prod_inner {f : Int} (hp0 : P f ≠ 0) (a b : List Int) (ea : El (P f) a) (eb : El (P f) b) (N m : Nat) (hm : m < a.length) (hN : N = a.length + b.length - 1) (hs : N < 17592186044416) {R : List Int}
    (hk : Ev (fun k => poly_reckoner_product.l0 k b (pol N (row (P f) a b m b.length)) a (a.length : Int) ((m + 1 : Nat) : Int) f) R) : ∀ (d j : Nat), j + d = b.length →
    Ev (fun k => poly_reckoner_product.l1 k b (pol N (row (P f) a b m j)) (m : Int) (cf a m) a (a.length : Int) (m : Int) b (b.length : Int) (j : Int) f) R := by
  have hp := P_pr hp0
  have hlo := hp.lo; have hhi := hp.hi
  intro d
  induction d with
  | zero =>
    intro j h
    refine Ev.step (fun k => by rw [poly_reckoner_product.l1]) ?_
    have e : j = b.length := by omega
    subst e
    rw [show wrap64 ((m : Int) + 1) = ((m + 1 : Nat) : Int) from w64_succ (by omega)]
    exact Ev.neg (by omega) hk
  | succ d ih =>
    intro j h
    refine Ev.step (fun k => by rw [poly_reckoner_product.l1]) ?_
    rw [show wrap64 ((j : Int) + 1) = ((j + 1 : Nat) : Int) from w64_succ (by omega), show wrap64 ((m : Int) + (j : Int)) = ((m + j : Nat) : Int) by rw [w64_in (by omega) (by omega)]; omega, rd_pol (by omega), show rd b (j : Int) = cf b j from rfl]
    have ra := cf_el ea (by omega) m; have rb := cf_el eb (by omega) j
    refine Ev.pos (by omega) (Ev.pos (by omega) (Ev.pos (by omega) (Ev.pos (by omega) (Ev.pos (by rw [pol_len]; omega) (Ev.bind (kmul_eq hp0 ra rb) (Ev.bind (kadd_eq hp0 (row_rng (by omega) a b m j (m + j)) (emod_rng _ (by omega))) ?_))))))
    rw [Int.toNat_natCast, row_set (by omega)]
    exact ih (j + 1) (by omega)
theorem prod_outer {f : Int} (hp0 : P f ≠ 0) (a b : List Int) (ea : El (P f) a) (eb : El (P f) b) (N : Nat) (hN : N = a.length + b.length - 1) (hs : N < 17592186044416) : ∀ (d m : Nat), m + d = a.length →
    Ev (fun k => poly_reckoner_product.l0 k b (pol N fun n => cv a b m n % P f) a (a.length : Int) (m : Int) f) (pol N fun n => cv a b a.length n % P f) := by
  intro d
  induction d with
  | zero =>
    intro m h
    refine Ev.step (fun k => by rw [poly_reckoner_product.l0]) ?_
    have e : m = a.length := by omega
    subst e
    exact Ev.neg (by omega) (Ev.fix rfl)
  | succ d ih =>
    intro m h
    refine Ev.step (fun k => by rw [poly_reckoner_product.l0]) ?_
    refine Ev.pos (by omega) (Ev.pos (by omega) (Ev.pos (by omega) ?_))
    have e : (pol N fun n => cv a b m n % P f) = pol N (row (P f) a b m 0) := pol_congr fun n _ => (row_zero _ a b m n).symm
    have e2 : pol N (row (P f) a b m b.length) = pol N fun n => cv a b (m + 1) n % P f := pol_congr fun n _ => row_last _ a b m n
    rw [e]
    refine prod_inner hp0 a b ea eb N m (by omega) hN hs ?_ b.length 0 (Nat.zero_add _)
    rw [e2]
    exact ih (m + 1) (by omega)
theorem product_eq {f : Int} (hp0 : P f ≠ 0) (a b : List Int) (ea : El (P f) a) (eb : El (P f) b) (ha : a.length < 4398046511104) (hb : b.length < 4398046511104) : Ev (fun k => poly_reckoner_product.f k f a b) (mulP (P f) a b) := by
  unfold poly_reckoner_product.f mulP
  refine Ev.ite (fun c => ?_) (fun c => ?_)
  · refine Ev.step (fun k => by rw [poly_reckoner_product.j0]) ?_
    rw [if_pos (.inl (List.length_eq_zero_iff.1 (by omega)))]
    exact Ev.pos rfl (Ev.fix rfl)
  · refine Ev.step (fun k => by rw [poly_reckoner_product.j0]) ?_
    refine Ev.ite (fun q => ?_) (fun q => ?_)
    · rw [if_pos (.inr (List.length_eq_zero_iff.1 (by have := beq_iff_eq.1 q; omega)))]
      exact Ev.fix rfl
    · have hb0 : 0 < b.length := Nat.pos_of_ne_zero fun z => q (by simp [z])
      rw [if_neg (fun z => by rcases z with z | z <;> simp [z] at c hb0)]
      have e : wrap64 (wrap64 ((a.length : Int) + (b.length : Int)) - 1) = ((a.length + b.length - 1 : Nat) : Int) := by rw [w64_in (i := (a.length : Int) + b.length) (by omega) (by omega), w64_in (by omega) (by omega)]; omega
      rw [e, Int.toNat_natCast, pol_zero]
      refine Ev.pos (by omega) (Ev.pos (by omega) ?_)
      have h := prod_outer hp0 a b ea eb (a.length + b.length - 1) rfl (by omega) a.length 0 (Nat.zero_add _)
      simpa [cv] using h
theorem PMul_eq (f : Int) (a b : List Int) (wa : Wd a) (wb : Wd b) (ha : a.length < 17592186044416) (hb : b.length < 17592186044416) : Ev (fun k => poly_Mul.f k f a b) (Pmul f a b) := by
  unfold poly_Mul.f Pmul
  refine Ev.bind (may2_eq f a b (by omega) (by omega)) (Ev.ite (fun c => ?_) (fun c => ?_))
  · rw [if_pos c]
    obtain ⟨ka, kb, la, lb⟩ := bad_zero c
    have ta := trim_le a; have tb := trim_le b
    have ea := trim_el (wa.el (ok_all ka)); have eb := trim_el (wb.el (ok_all kb))
    have pr := product_eq (ok_iff.1 ka).1 (trim a) (trim b) ea eb (by omega) (by omega)
    refine Ev.bind (trimmed_eq a (by omega)) (Ev.bind (trimmed_eq b (by omega)) ?_)
    have nil : ∀ l : List Int, (¬ (l.length : Int) > 0) → l = [] := fun l q => List.length_eq_zero_iff.1 (by omega)
    refine Ev.ite (fun q => Ev.ite (fun r => ?_) (fun r => ?_)) (fun q => ?_)
    · rw [if_neg (fun z => by rcases z with z | z <;> simp [z] at q r)]
      have e : wrap64 (wrap64 (((trim a).length : Int) + ((trim b).length : Int)) - 1) = (((trim a).length + (trim b).length - 1 : Nat) : Int) := by rw [w64_in (i := ((trim a).length : Int) + (trim b).length) (by omega) (by omega), w64_in (by omega) (by omega)]; omega
      rw [e]
      refine Ev.ite (fun s => ?_) (fun s => ?_)
      · rw [if_pos (by omega)]; exact Ev.fix rfl
      · rw [if_neg (by omega)]; exact Ev.bind pr (Ev.fix rfl)
    · have z : trim a = [] ∨ trim b = [] := .inr (nil _ r)
      rw [if_pos z]
      refine Ev.bind pr (Ev.fix ?_)
      unfold mulP; rw [if_pos z]
    · have z : trim a = [] ∨ trim b = [] := .inl (nil _ q)
      rw [if_pos z]
      refine Ev.bind pr (Ev.fix ?_)
      unfold mulP; rw [if_pos z]
  · rw [if_neg c]; exact Ev.fix rfl
theorem rprod_inner {f : Int} (hp0 : P f ≠ 0) (a b : List Int) (ea : El (P f) a) (eb : El (P f) b) (N m : Nat) (hm : m < a.length) (hN : N = a.length + b.length - 1) (hs : N < 17592186044416) {R : List Int × Int}
    (hk : Ev (fun k => cr3_Mul.l0 k f a b (pol N (row (P f) a b m b.length)) ((m + 1 : Nat) : Int)) R) : ∀ (d j : Nat), j + d = b.length →
    Ev (fun k => cr3_Mul.l1 k f a b (pol N (row (P f) a b m j)) (m : Int) (j : Int)) R := by
  have hp := P_pr hp0
  have hlo := hp.lo; have hhi := hp.hi
  intro d
  induction d with
  | zero =>
    intro j h
    refine Ev.step (fun k => by rw [cr3_Mul.l1]) ?_
    have e : j = b.length := by omega
    subst e
    rw [show wrap64 ((m : Int) + 1) = ((m + 1 : Nat) : Int) from w64_succ (by omega)]
    exact Ev.neg (by omega) hk
  | succ d ih =>
    intro j h
    refine Ev.step (fun k => by rw [cr3_Mul.l1]) ?_
    rw [show wrap64 ((j : Int) + 1) = ((j + 1 : Nat) : Int) from w64_succ (by omega), show wrap64 ((m : Int) + (j : Int)) = ((m + j : Nat) : Int) by rw [w64_in (by omega) (by omega)]; omega, rd_pol (by omega), show rd b (j : Int) = cf b j from rfl, show rd a (m : Int) = cf a m from rfl]
    have ra := cf_el ea (by omega) m; have rb := cf_el eb (by omega) j
    have rr := row_rng (p := P f) (by omega) a b m j (m + j)
    have rt := emod_rng (p := P f) (cf a m * cf b j) (by omega)
    refine Ev.pos (by omega) (Ev.bnd (rP f) (Ev.pos (by omega) (Ev.pos (by rw [pol_len]; omega) (Ev.bnd (rP f) (Ev.pos (by omega) (Ev.pos (by omega) (Ev.pos (by omega) (Ev.bind (rTimes (by omega) (by omega) ra.1 ra.2 rb.1 (by omega)) (Ev.bnd (rSum (by omega) (by omega) rr.1 rr.2 rt.1 rt.2) ?_)))))))))
    rw [Int.toNat_natCast, row_set (by omega)]
    exact ih (j + 1) (by omega)
theorem rprod_outer {f : Int} (hp0 : P f ≠ 0) (a b : List Int) (ea : El (P f) a) (eb : El (P f) b) (N : Nat) (hN : N = a.length + b.length - 1) (hs : N < 17592186044416) : ∀ (d m : Nat), m + d = a.length →
    Ev (fun k => cr3_Mul.l0 k f a b (pol N fun n => cv a b m n % P f) (m : Int)) (trim (pol N fun n => cv a b a.length n % P f), 0) := by
  intro d
  induction d with
  | zero =>
    intro m h
    refine Ev.step (fun k => by rw [cr3_Mul.l0]) ?_
    have e : m = a.length := by omega
    subst e
    exact Ev.neg (by omega) (Ev.bind (rTrim _ (by rw [pol_len]; exact hs)) (Ev.fix rfl))
  | succ d ih =>
    intro m h
    refine Ev.step (fun k => by rw [cr3_Mul.l0]) ?_
    refine Ev.pos (by omega) ?_
    have e : (pol N fun n => cv a b m n % P f) = pol N (row (P f) a b m 0) := pol_congr fun n _ => (row_zero _ a b m n).symm
    have e2 : pol N (row (P f) a b m b.length) = pol N fun n => cv a b (m + 1) n % P f := pol_congr fun n _ => row_last _ a b m n
    rw [e]
    refine rprod_inner hp0 a b ea eb N m (by omega) hN hs ?_ b.length 0 (Nat.zero_add _)
    rw [e2]
    exact ih (m + 1) (by omega)
theorem rPMul (f : Int) (a b : List Int) (wa : Wd a) (wb : Wd b) (ha : a.length < 17592186044416) (hb : b.length < 17592186044416) : Ev (fun k => cr3_Mul.f k f a b) (Pmul f a b) := by
  unfold cr3_Mul.f Pmul
  refine Ev.bind (rBad f a b (by omega) (by omega)) (Ev.ite (fun c => ?_) (fun c => ?_))
  · rw [if_pos c]
    obtain ⟨ka, kb, la, lb⟩ := bad_zero c
    have ta := trim_le a; have tb := trim_le b
    have ea := trim_el (wa.el (ok_all ka)); have eb := trim_el (wb.el (ok_all kb))
    refine Ev.bind (rTrim a ha) (Ev.bind (rTrim b hb) ?_)
    refine Ev.ite (fun q => ?_) (fun q => ?_)
    · rw [if_pos (.inl (List.length_eq_zero_iff.1 (by omega)))]
      refine Ev.step (fun k => by rw [cr3_Mul.j0]) ?_
      exact Ev.pos rfl (Ev.fix rfl)
    · refine Ev.step (fun k => by rw [cr3_Mul.j0]) ?_
      refine Ev.ite (fun r => ?_) (fun r => ?_)
      · rw [if_pos (.inr (List.length_eq_zero_iff.1 (by have := beq_iff_eq.1 r; omega)))]
        exact Ev.fix rfl
      · have hb0 : 0 < (trim b).length := Nat.pos_of_ne_zero fun z => r (by simp [z])
        have hn : ¬ (trim a = [] ∨ trim b = []) := fun z => by rcases z with z | z <;> simp [z] at q hb0
        rw [if_neg hn]
        have e : wrap64 (wrap64 (((trim a).length : Int) + ((trim b).length : Int)) - 1) = (((trim a).length + (trim b).length - 1 : Nat) : Int) := by rw [w64_in (i := ((trim a).length : Int) + (trim b).length) (by omega) (by omega), w64_in (by omega) (by omega)]; omega
        rw [e]
        refine Ev.ite (fun s => ?_) (fun s => ?_)
        · rw [if_pos (by omega)]; exact Ev.fix rfl
        · rw [if_neg (by omega), Int.toNat_natCast, pol_zero]
          refine Ev.pos (by omega) (Ev.pos (by omega) ?_)
          have h := rprod_outer (ok_iff.1 ka).1 (trim a) (trim b) ea eb ((trim a).length + (trim b).length - 1) rfl (by omega) (trim a).length 0 (Nat.zero_add _)
          have t := mulP_top (ok_pr ka) (trim_trim a) (trim_trim b) ea eb
          have d : mulP (P f) (trim a) (trim b) = pol ((trim a).length + (trim b).length - 1) fun n => cv (trim a) (trim b) (trim a).length n % P f := by unfold mulP; rw [if_neg hn]
          rw [← d, t] at h
          simpa [cv] using h
  · rw [if_neg c]; exact Ev.fix rfl
end Go.Proofs.Ytaegmhniepfdaaa.FFastFresh
namespace Go.Proofs.Ytaegmhniepfdaaa.FFastFresh
open Go.RowKit Go Go.Proofs.YtaegmhniepfdaaaW.PrintWords Go.Proofs.YtaegmhniepfdaaaW.PrintLast Go.Proofs.YtaegmhniepfdaaaW.PrintMore Go.Proofs.Ytaegmhniepfdaaa.M Go.Proofs.Ytaegmhniepfdaaa.PFastFresh
theorem fadd_eq {f a b : Int} (hp : P f ≠ 0) (ha : 0 ≤ a ∧ a < P f) (hb : 0 ≤ b ∧ b < P f) : Ev (fun k => fast_reckoner_add.f k f a b) ((a + b) % P f) := by
  unfold fast_reckoner_add.f
  refine Ev.bind (Add_eq f a b ha.1 hb.1) ?_
  rw [if_pos (ok_two hp ha.2 hb.2)]
  exact Ev.fix rfl
theorem fsub_eq {f a b : Int} (hp : P f ≠ 0) (ha : 0 ≤ a ∧ a < P f) (hb : 0 ≤ b ∧ b < P f) : Ev (fun k => fast_reckoner_sub.f k f a b) ((a - b) % P f) := by
  unfold fast_reckoner_sub.f
  refine Ev.bind (Sub_eq f a b ha.1 hb.1) ?_
  rw [if_pos (ok_two hp ha.2 hb.2)]
  exact Ev.fix rfl
theorem fmul_eq {f a b : Int} (hp : P f ≠ 0) (ha : 0 ≤ a ∧ a < P f) (hb : 0 ≤ b ∧ b < P f) : Ev (fun k => fast_reckoner_mul.f k f a b) (a * b % P f) := by
  unfold fast_reckoner_mul.f
  refine Ev.bind (Mul_eq f a b ha.1 hb.1) ?_
  rw [if_pos (ok_two hp ha.2 hb.2)]
  exact Ev.fix rfl
theorem fmay_loop (f : Int) (L : List (List Int)) (hL : ∀ l ∈ L, l.length < 4611686018427387904) (hn : L.length < 4611686018427387904) : ∀ (d i : Nat) (e : Int), i + d = L.length →
    Ev (fun k => fast_may.l0 k f e L (L.length : Int) (i : Int)) (bads f (L.drop i) e) := by
  intro d
  induction d with
  | zero =>
    intro i e h
    refine Ev.step (fun k => by rw [fast_may.l0]) ?_
    rw [List.drop_of_length_le (by omega)]
    exact Ev.neg (by omega) (Ev.fix rfl)
  | succ d ih =>
    intro i e h
    have hi : i < L.length := by omega
    refine Ev.step (fun k => by rw [fast_may.l0]) ?_
    rw [rd_L1_lt hi, w64_succ (by omega), List.drop_eq_getElem_cons hi, bads]
    refine Ev.pos (by omega) (Ev.pos (by omega) (Ev.pos (by omega) (Ev.bind (In_eq f _ (hL _ (List.getElem_mem hi))) (Ev.ite (fun c => ?_) (fun c => ?_)))))
    · rw [if_pos c]
      refine Ev.ite (fun q => ?_) (fun q => ?_)
      · rw [if_pos (by omega)]; exact ih (i + 1) 4 (by omega)
      · rw [if_neg (by omega)]; exact ih (i + 1) e (by omega)
    · rw [if_neg c]; exact Ev.fix rfl
theorem fmay_eq (f : Int) (L : List (List Int)) (hL : ∀ l ∈ L, l.length < 4611686018427387904) (hn : L.length < 4611686018427387904) : Ev (fun k => fast_may.f k f L) (bads f L 0) := by
  unfold fast_may.f
  exact fmay_loop f L hL hn L.length 0 0 (by omega)
theorem fmay2_eq (f : Int) (a b : List Int) (ha : a.length < 4611686018427387904) (hb : b.length < 4611686018427387904) : Ev (fun k => fast_may.f k f [a, b]) (bad f a b) := by
  refine Ev.cast (fmay_eq f [a, b] (by simp [ha, hb]) (by simp)) ?_
  unfold bad
  by_cases ca : ok f a = true
  · by_cases cb : ok f b = true
    · simp only [bads, if_pos ca, if_pos cb, if_pos (And.intro ca cb)]
      by_cases la : a.length ≤ 4096
      · by_cases lb : b.length ≤ 4096
        · rw [if_neg (by omega), if_neg (by omega), if_pos ⟨la, lb⟩]
        · rw [if_pos (by omega), if_neg (fun q => lb q.2)]
      · rw [if_neg (show ¬ (a.length ≤ 4096 ∧ b.length ≤ 4096) from fun q => la q.1), if_pos (show a.length > 4096 by omega)]
        split <;> rfl
    · rw [if_neg (fun c => cb c.2)]; simp only [bads, if_pos ca, if_neg cb]
  · rw [if_neg (fun c => ca c.1)]; simp only [bads, if_neg ca]
theorem fmay1_eq (f : Int) (a : List Int) (ha : a.length < 4611686018427387904) : Ev (fun k => fast_may.f k f [a]) (bad f a []) := by
  refine Ev.cast (fmay_eq f [a] (by simp [ha]) (by simp)) ?_
  unfold bad
  by_cases ca : ok f a = true
  · have h0 : ok f [] = true := ok_nil.2 (ok_iff.1 ca).1
    simp only [bads, if_pos ca, if_pos (And.intro ca h0)]
    by_cases la : a.length ≤ 4096
    · rw [if_neg (by omega), if_pos ⟨la, by simp⟩]
    · rw [if_pos (by omega), if_neg (fun q => la q.1)]
  · rw [if_neg (fun c => ca c.1)]; simp only [bads, if_neg ca]
def chk (f : Int) (p q : List Int) : List Int × List Int × Int :=
  if bad f p q = 0 then (if ¬ (trim p = [] ∨ trim q = []) ∧ (trim p).length + (trim q).length - 1 > 4096 then ([], [], 4) else (trim p, trim q, 0)) else ([], [], bad f p q)
theorem checked_eq (f : Int) (a b : List Int) (ha : a.length < 17592186044416) (hb : b.length < 17592186044416) : Ev (fun k => fast_checked.f k f a b) (chk f a b) := by
  unfold fast_checked.f chk
  refine Ev.bind (fmay2_eq f a b (by omega) (by omega)) (Ev.ite (fun c => ?_) (fun c => ?_))
  · rw [if_pos c]
    obtain ⟨ka, kb, la, lb⟩ := bad_zero c
    have ta := trim_le a; have tb := trim_le b
    refine Ev.bind (Trim_eq a ha) (Ev.bind (Trim_eq b hb) ?_)
    have nil : ∀ l : List Int, (¬ (l.length : Int) > 0) → l = [] := fun l q => List.length_eq_zero_iff.1 (by omega)
    have e : wrap64 (wrap64 (((trim a).length : Int) + ((trim b).length : Int)) - 1) = ((trim a).length : Int) + ((trim b).length : Int) - 1 := by rw [w64_in (i := ((trim a).length : Int) + (trim b).length) (by omega) (by omega), w64_in (by omega) (by omega)]
    rw [e]
    refine Ev.ite (fun q => Ev.ite (fun r => Ev.ite (fun s => ?_) (fun s => ?_)) (fun r => ?_)) (fun q => ?_)
    · rw [if_pos ⟨fun z => by rcases z with z | z <;> simp [z] at q r, by omega⟩]; exact Ev.fix rfl
    · rw [if_neg (fun z => by have := z.2; omega)]; exact Ev.fix rfl
    · rw [if_neg (fun z => z.1 (.inr (nil _ r)))]; exact Ev.fix rfl
    · rw [if_neg (fun z => z.1 (.inl (nil _ q)))]; exact Ev.fix rfl
  · rw [if_neg c]; exact Ev.fix rfl
theorem cut_eq (l : List Int) (n : Nat) : fast_cut.f l (n : Int) = some (l.take n, l.drop n) := by
  unfold fast_cut.f
  have e : mn (n : Int) (l.length : Int) = ((min n l.length : Nat) : Int) := by unfold mn; split <;> omega
  rw [e, if_pos (by omega), if_pos (by omega), if_pos (by omega), Int.toNat_natCast, Int.toNat_natCast, List.take_length]
  congr 2
  · by_cases c : n ≤ l.length
    · rw [Nat.min_eq_left c]
    · rw [Nat.min_eq_right (by omega), List.take_length, List.take_of_length_le (by omega)]
  · by_cases c : n ≤ l.length
    · rw [Nat.min_eq_left c]
    · rw [Nat.min_eq_right (by omega), List.drop_length, List.drop_of_length_le (by omega)]
theorem putA_loop {f : Int} (hp0 : P f ≠ 0) (o l : List Int) (eo : El (P f) o) (el : El (P f) l) (k0 : Nat) (hk : k0 + l.length ≤ o.length) (hs : o.length < 17592186044416) : ∀ (d m : Nat), m + d = l.length →
    Ev (fun k => fast_reckoner_put_add.l0 k (ptAi (P f) o k0 l m) (k0 : Int) f l (l.length : Int) (m : Int)) (ptA (P f) o k0 l) := by
  have hlo := (P_pr hp0).lo
  intro d
  induction d with
  | zero =>
    intro m h
    refine Ev.step (fun k => by rw [fast_reckoner_put_add.l0]) ?_
    have e : m = l.length := by omega
    subst e
    exact Ev.neg (by omega) (Ev.fix rfl)
  | succ d ih =>
    intro m h
    refine Ev.step (fun k => by rw [fast_reckoner_put_add.l0]) ?_
    rw [show wrap64 ((m : Int) + 1) = ((m + 1 : Nat) : Int) from w64_succ (by omega), show wrap64 ((k0 : Int) + (m : Int)) = ((k0 + m : Nat) : Int) by rw [w64_in (by omega) (by omega)]; omega, ptAi_rd (by omega), show rd l (m : Int) = cf l m from rfl]
    refine Ev.pos (by omega) (Ev.pos (by omega) (Ev.pos (by omega) (Ev.pos (by omega) (Ev.pos (by unfold ptAi; rw [pol_len]; omega) (Ev.bind (fadd_eq hp0 (cf_el eo (by omega) _) (cf_el el (by omega) _)) ?_)))))
    rw [Int.toNat_natCast, ptAi_set (by omega)]
    exact ih (m + 1) (by omega)
theorem putA_eq {f : Int} (hp0 : P f ≠ 0) {o l : List Int} (eo : El (P f) o) (el : El (P f) l) {k0 : Nat} (hk : k0 + l.length ≤ o.length) (hs : o.length < 17592186044416) : Ev (fun k => fast_reckoner_put_add.f k f o (k0 : Int) l f) (ptA (P f) o k0 l) := by
  unfold fast_reckoner_put_add.f
  have h := putA_loop hp0 o l eo el k0 hk hs l.length 0 (by omega)
  rw [ptAi_zero] at h
  exact h
theorem putS_loop {f : Int} (hp0 : P f ≠ 0) (o l : List Int) (eo : El (P f) o) (el : El (P f) l) (k0 : Nat) (hk : k0 + l.length ≤ o.length) (hs : o.length < 17592186044416) : ∀ (d m : Nat), m + d = l.length →
    Ev (fun k => fast_reckoner_put_sub.l0 k (ptSi (P f) o k0 l m) (k0 : Int) f l (l.length : Int) (m : Int)) (ptS (P f) o k0 l) := by
  have hlo := (P_pr hp0).lo
  intro d
  induction d with
  | zero =>
    intro m h
    refine Ev.step (fun k => by rw [fast_reckoner_put_sub.l0]) ?_
    have e : m = l.length := by omega
    subst e
    exact Ev.neg (by omega) (Ev.fix rfl)
  | succ d ih =>
    intro m h
    refine Ev.step (fun k => by rw [fast_reckoner_put_sub.l0]) ?_
    rw [show wrap64 ((m : Int) + 1) = ((m + 1 : Nat) : Int) from w64_succ (by omega), show wrap64 ((k0 : Int) + (m : Int)) = ((k0 + m : Nat) : Int) by rw [w64_in (by omega) (by omega)]; omega, ptSi_rd (by omega), show rd l (m : Int) = cf l m from rfl]
    refine Ev.pos (by omega) (Ev.pos (by omega) (Ev.pos (by omega) (Ev.pos (by omega) (Ev.pos (by unfold ptSi; rw [pol_len]; omega) (Ev.bind (fsub_eq hp0 (cf_el eo (by omega) _) (cf_el el (by omega) _)) ?_)))))
    rw [Int.toNat_natCast, ptSi_set (by omega)]
    exact ih (m + 1) (by omega)
theorem putS_eq {f : Int} (hp0 : P f ≠ 0) {o l : List Int} (eo : El (P f) o) (el : El (P f) l) {k0 : Nat} (hk : k0 + l.length ≤ o.length) (hs : o.length < 17592186044416) : Ev (fun k => fast_reckoner_put_sub.f k f o (k0 : Int) l f) (ptS (P f) o k0 l) := by
  unfold fast_reckoner_put_sub.f
  have h := putS_loop hp0 o l eo el k0 hk hs l.length 0 (by omega)
  rw [ptSi_zero] at h
  exact h
theorem fsum_eq {f : Int} (hp0 : P f ≠ 0) {a b : List Int} (ea : El (P f) a) (eb : El (P f) b) (ha : a.length < 17592186044416) (hb : b.length < 17592186044416) : Ev (fun k => fast_reckoner_sum.f k f a b) (smP (P f) a b) := by
  have hlo := (P_pr hp0).lo
  unfold fast_reckoner_sum.f smP
  rw [mx_nat]
  simp only [Int.toNat_natCast]
  refine Ev.pos (by omega) (Ev.pos (by omega) (Ev.bnd rfl ?_))
  rw [padded a b]
  exact Ev.bind (putA_eq hp0 (o := pol (max a.length b.length) (cf a)) (k0 := 0) (pol_el fun i _ => cf_el ea (by omega) i) eb (by rw [pol_len]; omega) (by rw [pol_len]; omega)) (Ev.fix rfl)
theorem hprod_inner {f : Int} (hp0 : P f ≠ 0) (a b : List Int) (ea : El (P f) a) (eb : El (P f) b) (N m : Nat) (hm : m < a.length) (hN : N = a.length + b.length - 1) (hs : N < 17592186044416) {R : List Int}
    (hk : Ev (fun k => fast_reckoner_halves.l0 k b (pol N (row (P f) a b m b.length)) a (a.length : Int) ((m + 1 : Nat) : Int) f) R) : ∀ (d j : Nat), j + d = b.length →
    Ev (fun k => fast_reckoner_halves.l1 k b (pol N (row (P f) a b m j)) (m : Int) (cf a m) a (a.length : Int) (m : Int) b (b.length : Int) (j : Int) f) R := by
  have hp := P_pr hp0
  have hlo := hp.lo; have hhi := hp.hi
  intro d
  induction d with
  | zero =>
    intro j h
    refine Ev.step (fun k => by rw [fast_reckoner_halves.l1]) ?_
    have e : j = b.length := by omega
    subst e
    rw [show wrap64 ((m : Int) + 1) = ((m + 1 : Nat) : Int) from w64_succ (by omega)]
    exact Ev.neg (by omega) hk
  | succ d ih =>
    intro j h
    refine Ev.step (fun k => by rw [fast_reckoner_halves.l1]) ?_
    rw [show wrap64 ((j : Int) + 1) = ((j + 1 : Nat) : Int) from w64_succ (by omega), show wrap64 ((m : Int) + (j : Int)) = ((m + j : Nat) : Int) by rw [w64_in (by omega) (by omega)]; omega, rd_pol (by omega), show rd b (j : Int) = cf b j from rfl]
    have ra := cf_el ea (by omega) m; have rb := cf_el eb (by omega) j
    refine Ev.pos (by omega) (Ev.pos (by omega) (Ev.pos (by omega) (Ev.pos (by omega) (Ev.pos (by rw [pol_len]; omega) (Ev.bind (fmul_eq hp0 ra rb) (Ev.bind (fadd_eq hp0 (row_rng (by omega) a b m j (m + j)) (emod_rng _ (by omega))) ?_))))))
    rw [Int.toNat_natCast, row_set (by omega)]
    exact ih (j + 1) (by omega)
theorem hprod_outer {f : Int} (hp0 : P f ≠ 0) (a b : List Int) (ea : El (P f) a) (eb : El (P f) b) (N : Nat) (hN : N = a.length + b.length - 1) (hs : N < 17592186044416) : ∀ (d m : Nat), m + d = a.length →
    Ev (fun k => fast_reckoner_halves.l0 k b (pol N fun n => cv a b m n % P f) a (a.length : Int) (m : Int) f) (pol N fun n => cv a b a.length n % P f) := by
  intro d
  induction d with
  | zero =>
    intro m h
    refine Ev.step (fun k => by rw [fast_reckoner_halves.l0]) ?_
    have e : m = a.length := by omega
    subst e
    exact Ev.neg (by omega) (Ev.fix rfl)
  | succ d ih =>
    intro m h
    refine Ev.step (fun k => by rw [fast_reckoner_halves.l0]) ?_
    refine Ev.pos (by omega) (Ev.pos (by omega) (Ev.pos (by omega) ?_))
    have e : (pol N fun n => cv a b m n % P f) = pol N (row (P f) a b m 0) := pol_congr fun n _ => (row_zero _ a b m n).symm
    have e2 : pol N (row (P f) a b m b.length) = pol N fun n => cv a b (m + 1) n % P f := pol_congr fun n _ => row_last _ a b m n
    rw [e]
    refine hprod_inner hp0 a b ea eb N m (by omega) hN hs ?_ b.length 0 (Nat.zero_add _)
    rw [e2]
    exact ih (m + 1) (by omega)
theorem mn_nat (a b : Nat) : mn (a : Int) (b : Int) = ((min a b : Nat) : Int) := by unfold mn; split <;> omega
theorem half_less {x y h : Nat} (s : 16 < min x y) (hh : h = (max x y + 1) / 2) : max (min h x) (x - h) + max (min h y) (y - h) < x + y := by
  have h1 : h < max x y := by omega
  by_cases c : x ≤ y
  · rw [Nat.max_eq_right c] at h1 hh
    have a : max (min h x) (x - h) ≤ x := by omega
    have b : max (min h y) (y - h) < y := by omega
    omega
  · rw [Nat.max_eq_left (by omega)] at h1 hh
    have a : max (min h x) (x - h) < x := by omega
    have b : max (min h y) (y - h) ≤ y := by omega
    omega
theorem half_facts {x y h m1 m2 m3 : Nat} (s : 16 < min x y) (hh : h = (max x y + 1) / 2) (hb : x + y < 1099511627776) (l1 : m1 ≤ min h x + min h y - 1) (l2 : m2 ≤ (x - h) + (y - h) - 1) (l20 : m2 = 0 ∨ (0 < x - h ∧ 0 < y - h))
    (l3 : m3 = max (min h x) (x - h) + max (min h y) (y - h) - 1) : 0 + m1 ≤ m3 ∧ 0 + m2 ≤ m3 ∧ m3 < 17592186044416 ∧ 0 + m1 ≤ x + y - 1 ∧ 2 * h + m2 ≤ x + y - 1 ∧ x + y - 1 < 17592186044416 ∧ h ≤ x + y - 1 := by
  have h1 : min h x ≤ max (min h x) (x - h) := Nat.le_max_left _ _
  have h2 : x - h ≤ max (min h x) (x - h) := Nat.le_max_right _ _
  have h3 : min h y ≤ max (min h y) (y - h) := Nat.le_max_left _ _
  have h4 : y - h ≤ max (min h y) (y - h) := Nat.le_max_right _ _
  have h5 : max (min h x) (x - h) ≤ x := by omega
  have h6 : max (min h y) (y - h) ≤ y := by omega
  generalize max (min h x) (x - h) = u at *
  generalize max (min h y) (y - h) = v at *
  have h7 : max x y ≤ x + y := by omega
  have h8 : 2 * h ≤ max x y + 1 := by omega
  have h9 : max x y + 16 ≤ x + y := by omega
  refine ⟨by omega, by omega, by omega, by omega, ?_, by omega, by omega⟩
  rcases l20 with e | e
  · omega
  · omega
theorem half_rest {N h : Nat} (h1 : h ≤ N) (h2 : N < 17592186044416) : wrap64 ((N : Int) - (h : Int)) = ((N - h : Nat) : Int) := by rw [w64_in (by omega) (by omega)]; omega
theorem half_add {N h z : Nat} (h1 : h ≤ N) (q : z ≤ N - h) : h + z ≤ N := by omega
theorem halves_eq {f : Int} (hp0 : P f ≠ 0) : ∀ (n : Nat) (a b : List Int), a.length + b.length ≤ n → El (P f) a → El (P f) b → n < 1099511627776 → Ev (fun k => fast_reckoner_halves.f k f a b) (mulP (P f) a b) := by
  have hp := P_pr hp0
  have hlo := hp.lo; have hhi := hp.hi
  have hpp : 0 < P f := by omega
  intro n
  induction n using Nat.strongRecOn with
  | ind n ih =>
  intro a b hn ea eb hb
  refine Ev.step (fun k => by rw [fast_reckoner_halves.f]) (Ev.ite (fun c => ?_) (fun c => ?_))
  · refine Ev.step (fun k => by rw [fast_reckoner_halves.j0]) (Ev.pos rfl (Ev.fix ?_))
    unfold mulP
    rw [if_pos (.inl (List.length_eq_zero_iff.1 (by omega)))]
  · by_cases q : b.length = 0
    · refine Ev.step (fun k => by rw [fast_reckoner_halves.j0]) (Ev.pos (by simp [q]) (Ev.fix ?_))
      unfold mulP
      rw [if_pos (.inr (List.length_eq_zero_iff.1 q))]
    · have e : wrap64 (wrap64 ((a.length : Int) + (b.length : Int)) - 1) = ((a.length + b.length - 1 : Nat) : Int) := by rw [w64_in (i := (a.length : Int) + b.length) (by omega) (by omega), w64_in (by omega) (by omega)]; omega
      refine Ev.step (fun k => by rw [fast_reckoner_halves.j0]) (Ev.neg (by simp; intro z; simp [z] at q) ?_)
      rw [e, Int.toNat_natCast]
      refine Ev.pos (by omega) (Ev.pos (by omega) (Ev.bnd rfl ?_))
      rw [mn_nat]
      refine Ev.ite (fun s => ?_) (fun s => ?_)
      · have h := hprod_outer hp0 a b ea eb (a.length + b.length - 1) rfl (by omega) a.length 0 (Nat.zero_add _)
        unfold mulP
        rw [if_neg (fun z => by rcases z with z | z <;> simp [z] at c q), pol_zero]
        simpa [cv] using h
      · have s : 16 < min a.length b.length := by omega
        have hab : a.length + b.length < 1099511627776 := by omega
        have la44 : a.length < 17592186044416 := by omega
        have lb44 : b.length < 17592186044416 := by omega
        obtain ⟨h, hh⟩ : ∃ h : Nat, h = (max a.length b.length + 1) / 2 := ⟨_, rfl⟩
        have e2 : wrap64 (Int.tdiv (wrap64 (mx (a.length : Int) (b.length : Int) + 1)) 2) = (h : Int) := by
          rw [mx_nat, w64_in (i := ((max a.length b.length : Nat) : Int) + 1) (by omega) (by omega), Int.tdiv_eq_ediv_of_nonneg (by omega), w64_in (by omega) (by omega)]; omega
        have e3 : wrap64 (2 * (h : Int)) = ((2 * h : Nat) : Int) := by rw [w64_in (by omega) (by omega)]; omega
        have key := kara (p := P f) hpp (P := a) (Q := b) h (by omega) (by omega) (by omega) (by omega) (by omega)
        have tl : ∀ l : List Int, (l.take h).length = min h l.length := fun l => List.length_take
        have dl : ∀ l : List Int, (l.drop h).length = l.length - h := fun l => List.length_drop
        rw [e2, e3]
        refine Ev.bnd (cut_eq a h) (Ev.bnd (cut_eq b h) ?_)
        have na : a.take h ≠ [] := fun z => by have := tl a; rw [z] at this; simp at this; omega
        have nc : b.take h ≠ [] := fun z => by have := tl b; rw [z] at this; simp at this; omega
        have eta := ea.take h
        have etb := eb.take h
        have eda := ea.drop h
        have edb := eb.drop h
        have lta := tl a
        have ltb := tl b
        have lda := dl a
        have ldb := dl b
        have lz : (List.replicate (a.length + b.length - 1) (0 : Int)).length = a.length + b.length - 1 := List.length_replicate
        have ez : El (P f) (List.replicate (a.length + b.length - 1) (0 : Int)) := fun x hx => by rw [List.eq_of_mem_replicate hx]; exact ⟨Int.le_refl _, hpp⟩
        generalize List.replicate (a.length + b.length - 1) (0 : Int) = Z at *
        generalize a.take h = a1 at *
        generalize a.drop h = a2 at *
        generalize b.take h = b1 at *
        generalize b.drop h = b2 at *
        have l1 := mul_len_le (P f) a1 b1
        have l2 := mul_len_le (P f) a2 b2
        have l20 : (mulP (P f) a2 b2).length = 0 ∨ (0 < a2.length ∧ 0 < b2.length) := by
          by_cases w : a2 = [] ∨ b2 = []
          · refine .inl ?_
            unfold mulP; rw [if_pos w]; rfl
          · exact .inr ⟨len_pos fun q => w (.inl q), len_pos fun q => w (.inr q)⟩
        have s1 := smP_len (P f) a1 a2
        have s2 := smP_len (P f) b1 b2
        have l3 := mulP_len (p := P f) (smP_ne (p := P f) (b := a2) na) (smP_ne (p := P f) (b := b2) nc)
        rw [s1, s2] at l3
        have i1 := ih (a1.length + b1.length) (by omega) a1 b1 (Nat.le_refl _) eta etb (by omega)
        have i2 := ih (a2.length + b2.length) (by omega) a2 b2 (Nat.le_refl _) eda edb (by omega)
        have hle := half_less s hh
        rw [← lta, ← ltb, ← lda, ← ldb] at hle
        have hle2 : max a1.length a2.length + max b1.length b2.length < n := Nat.lt_of_lt_of_le hle hn
        have i3 := ih (max a1.length a2.length + max b1.length b2.length) hle2 (smP (P f) a1 a2) (smP (P f) b1 b2) (by rw [s1, s2]; exact Nat.le_refl _) (smP_el hpp eta) (smP_el hpp etb) (Nat.lt_trans hle2 hb)
        have em1 := mulP_el hpp a1 b1
        have em2 := mulP_el hpp a2 b2
        have em3 := mulP_el hpp (smP (P f) a1 a2) (smP (P f) b1 b2)
        have emid := midP_el hpp a1 a2 b1 b2
        have lmid := midP_len (p := P f) (b := a2) (d := b2) na nc
        have hk := half_facts (m3 := (mulP (P f) (smP (P f) a1 a2) (smP (P f) b1 b2)).length) s hh hab (by rw [lta, ltb] at l1; exact l1) (by rw [lda, ldb] at l2; exact l2) (by rw [lda, ldb] at l20; exact l20) (by rw [l3, lta, ltb, lda, ldb])
        obtain ⟨f1, f2, f3, f4, f5, f6, f7⟩ := hk
        have g1 : a1.length < 17592186044416 := Nat.lt_of_le_of_lt (by rw [lta]; exact Nat.min_le_right _ _) la44
        have g2 : a2.length < 17592186044416 := Nat.lt_of_le_of_lt (by rw [lda]; exact Nat.sub_le _ _) la44
        have g3 : b1.length < 17592186044416 := Nat.lt_of_le_of_lt (by rw [ltb]; exact Nat.min_le_right _ _) lb44
        have g4 : b2.length < 17592186044416 := Nat.lt_of_le_of_lt (by rw [ldb]; exact Nat.sub_le _ _) lb44
        have e4 : wrap64 (((a.length + b.length - 1 : Nat) : Int) - (h : Int)) = ((a.length + b.length - 1 - h : Nat) : Int) := half_rest f7 f6
        have et : (midP (P f) a1 a2 b1 b2).take (min (mulP (P f) (smP (P f) a1 a2) (smP (P f) b1 b2)).length (a.length + b.length - 1 - h)) = (midP (P f) a1 a2 b1 b2).take (a.length + b.length - 1 - h) := by
          rw [l3, ← lmid]
          by_cases w : (midP (P f) a1 a2 b1 b2).length ≤ a.length + b.length - 1 - h
          · rw [Nat.min_eq_left w, List.take_length, List.take_of_length_le w]
          · rw [Nat.min_eq_right (Nat.le_of_not_le w)]
        have et2 : min (mulP (P f) (smP (P f) a1 a2) (smP (P f) b1 b2)).length (a.length + b.length - 1 - h) ≤ (midP (P f) a1 a2 b1 b2).length := by
          rw [l3, ← lmid]; exact Nat.min_le_left _ _
        have et3 : h + ((midP (P f) a1 a2 b1 b2).take (a.length + b.length - 1 - h)).length ≤ a.length + b.length - 1 := by
          exact half_add f7 (by rw [List.length_take]; exact Nat.min_le_left _ _)
        clear s hh lta ltb lda ldb l1 l2 l20 s1 s2 l3 lmid hle hle2 ih hn hb c q e e2 e3 tl dl
        dsimp only
        refine Ev.bind i1 (Ev.bind i2 (Ev.bind (fsum_eq hp0 eta eda g1 g2) (Ev.bind (fsum_eq hp0 etb edb g3 g4) (Ev.bind i3 ?_))))
        refine Ev.bind (putS_eq hp0 (k0 := 0) em3 em1 f1 f3) (Ev.bind (putS_eq hp0 (k0 := 0) (ptS_el hpp _ _ em3) em2 (by rw [ptS_len]; exact f2) (by rw [ptS_len]; exact f3)) ?_)
        refine Ev.bind (putA_eq hp0 (k0 := 0) ez em1 (by rw [lz]; exact f4) (by rw [lz]; exact f6)) (Ev.bind (putA_eq hp0 (k0 := 2 * h) (ptA_el hpp _ _ ez) em2 (by rw [ptA_len, lz]; exact f5) (by rw [ptA_len, lz]; exact f6)) ?_)
        rw [show ptS (P f) (ptS (P f) (mulP (P f) (smP (P f) a1 a2) (smP (P f) b1 b2)) 0 (mulP (P f) a1 b1)) 0 (mulP (P f) a2 b2) = midP (P f) a1 a2 b1 b2 from rfl]
        rw [lz, e4, mn_nat, Int.toNat_natCast, et]
        refine Ev.pos (Int.natCast_nonneg _) (Ev.pos (Int.ofNat_le.2 (Nat.min_le_left _ _)) (Ev.bind (putA_eq hp0 (k0 := h) (ptA_el hpp _ _ (ptA_el hpp _ _ ez)) (emid.take _) (by rw [ptA_len, ptA_len, lz]; exact et3) (by rw [ptA_len, ptA_len, lz]; exact f6)) (Ev.fix ?_)))
        rw [key]
theorem Pmul_chk0 {f : Int} {a b : List Int} (h : (chk f a b).2.2 = 0) : bad f a b = 0 ∧ chk f a b = (trim a, trim b, 0) ∧ Pmul f a b = (mulP (P f) (trim a) (trim b), 0) := by
  unfold chk Pmul at *
  by_cases c : bad f a b = 0
  · rw [if_pos c] at h ⊢
    by_cases d : ¬ (trim a = [] ∨ trim b = []) ∧ (trim a).length + (trim b).length - 1 > 4096
    · rw [if_pos d] at h; exact absurd h (by decide)
    · rw [if_neg d, if_pos c]
      refine ⟨c, rfl, ?_⟩
      by_cases e : trim a = [] ∨ trim b = []
      · rw [if_pos e]; unfold mulP; rw [if_pos e]
      · rw [if_neg e, if_neg (fun q => d ⟨e, q⟩)]
  · rw [if_neg c] at h; exact absurd h c
theorem Pmul_chk1 {f : Int} {a b : List Int} (h : ¬ (chk f a b).2.2 = 0) : Pmul f a b = ([], (chk f a b).2.2) := by
  unfold chk Pmul at *
  by_cases c : bad f a b = 0
  · rw [if_pos c] at h ⊢
    by_cases d : ¬ (trim a = [] ∨ trim b = []) ∧ (trim a).length + (trim b).length - 1 > 4096
    · rw [if_pos d, if_neg d.1, if_pos d.2]; rw [if_pos c]
    · rw [if_neg d] at h; exact absurd rfl h
  · rw [if_neg c, if_neg c]
theorem Kara_eq (f : Int) (a b : List Int) (wa : Wd a) (wb : Wd b) (ha : a.length < 17592186044416) (hb : b.length < 17592186044416) : Ev (fun k => fast_Kara.f k f a b) (Pmul f a b) := by
  unfold fast_Kara.f
  refine Ev.bind (checked_eq f a b ha hb) (Ev.ite (fun c => ?_) (fun c => ?_))
  · obtain ⟨h0, h1, h2⟩ := Pmul_chk0 c
    obtain ⟨ka, kb, la, lb⟩ := bad_zero h0
    have ta := trim_le a; have tb := trim_le b
    have ea := trim_el (wa.el (ok_all ka)); have eb := trim_el (wb.el (ok_all kb))
    rw [h1, h2]
    have ml := mul_len_le (P f) (trim a) (trim b)
    refine Ev.bind (halves_eq (ok_iff.1 ka).1 _ (trim a) (trim b) (Nat.le_refl _) ea eb (by omega)) (Ev.bind (Trim_eq _ (by omega)) (Ev.fix ?_))
    rw [mulP_top (ok_pr ka) (trim_trim a) (trim_trim b) ea eb]
  · rw [Pmul_chk1 c]; exact Ev.fix rfl
end Go.Proofs.Ytaegmhniepfdaaa.FFastFresh
namespace Go.Proofs.Ytaegmhniepfdaaa.FFastFresh
open Go.RowKit Go Go.Proofs.YtaegmhniepfdaaaW.PrintWords Go.Proofs.YtaegmhniepfdaaaW.PrintLast Go.Proofs.YtaegmhniepfdaaaW.PrintMore Go.Proofs.Ytaegmhniepfdaaa.M Go.Proofs.Ytaegmhniepfdaaa.PFastFresh
theorem shr64 (x : Int) (n : Int) (h0 : 0 ≤ n) (h : n ≤ 64) : shr .u64 x n = x / 2 ^ n.toNat := by
  unfold shr
  rw [show IntKind.u64.bits = 64 from rfl, Nat.min_eq_left (by omega)]
theorem shl64 (n : Int) (h0 : 0 ≤ n) (h : n ≤ 62) : shl .i64 1 n = 2 ^ n.toNat := by
  unfold shl
  rw [show IntKind.i64.bits = 64 from rfl, Nat.min_eq_left (by omega), Int.one_mul]
  have h1 : (2 : Int) ^ n.toNat ≤ 2 ^ 62 := by
    have := Nat.pow_le_pow_right (n := 2) (by decide) (show n.toNat ≤ 62 by omega)
    have e : ∀ k : Nat, (2 : Int) ^ k = ((2 ^ k : Nat) : Int) := fun k => by simp
    rw [e, e]; exact Int.ofNat_le.2 this
  have h2 : (0 : Int) < 2 ^ n.toNat := Int.pow_pos (by decide)
  exact IntWalk.i64_in _ ⟨by omega, by omega⟩
theorem tonat_div {x : Int} (h : 0 ≤ x) (n : Nat) : (x / 2 ^ n).toNat = x.toNat / 2 ^ n := by
  obtain ⟨m, rfl⟩ := Int.eq_ofNat_of_zero_le h
  have e : (2 : Int) ^ n = ((2 ^ n : Nat) : Int) := by simp
  rw [e, ← Int.natCast_ediv]; rfl
theorem two_le {i j : Nat} (h : i ≤ j) : (2 : Int) ^ i ≤ 2 ^ j := by
  have e : ∀ k : Nat, (2 : Int) ^ k = ((2 ^ k : Nat) : Int) := fun k => by simp
  rw [e, e]; exact Int.ofNat_le.2 (Nat.pow_le_pow_right (by decide) h)
theorem ok_nl (f : Int) : ok f [] = decide (P f ≠ 0) := by unfold ok; simp [allIn_nil]
theorem f_cases {f : Int} (h : P f ≠ 0) : f = 1 ∨ f = 2 := by
  rcases P_cases f with ⟨e, _⟩ | ⟨e, _⟩ | ⟨_, _, e⟩
  · exact .inl e
  · exact .inr e
  · exact absurd e h
theorem Two_eq (f : Int) : Ev (fun k => root_Two.f k f) (twoE f) := by
  unfold root_Two.f twoE
  refine Ev.bind (In_eq f [] (by simp)) ?_
  rw [ok_nl]
  by_cases h : P f = 0
  · rw [if_pos h]
    exact Ev.neg (by simp [h]) (Ev.fix rfl)
  · rw [if_neg h]
    refine Ev.pos (by simp [h]) (Ev.bnd (a := (0, 27, 32)) rfl ?_)
    rcases f_cases h with rfl | rfl
    · exact Ev.fix (by decide)
    · exact Ev.fix (by decide)
theorem Root_eq (f n : Int) : Ev (fun k => root_Root.f k f n) (rootE f n) := by
  unfold root_Root.f
  refine Ev.bind (Two_eq f) ?_
  have no : Ev (fun k => root_Root.j0 k f n true) (0, 2) := Ev.step (fun k => by rw [root_Root.j0]) (Ev.pos rfl (Ev.fix rfl))
  by_cases h : P f = 0
  · have e1 : twoE f = (0, 2) := by unfold twoE; rw [if_pos h]
    have e2 : rootE f n = (0, 2) := by unfold rootE; rw [if_pos (.inl h)]
    rw [e1, e2]
    exact Ev.neg (by decide) no
  · have e1 : twoE f = (lg f, 0) := by unfold twoE; rw [if_neg h]
    rw [e1]
    refine Ev.pos rfl (Ev.ite (fun c => ?_) (fun c => ?_))
    · have e2 : rootE f n = (0, 2) := by unfold rootE; rw [if_pos (.inr (.inl c))]
      rw [e2]; exact no
    · refine Ev.step (fun k => by rw [root_Root.j0]) (Ev.ite (fun c1 => ?_) (fun c1 => ?_))
      · have c1 : n > lg f := by simpa using c1
        have e2 : rootE f n = (0, 2) := by unfold rootE; rw [if_pos (.inr (.inr c1))]
        rw [e2]; exact Ev.fix rfl
      · have c1 : ¬ n > lg f := by simpa using c1
        have e2 : rootE f n = (rt f n.toNat, 0) := by unfold rootE; rw [if_neg (by omega)]
        rw [e2]
        have hp := P_pr h
        have hlo := hp.lo; have hhi := hp.hi; have hlg := lg_rng f
        refine Ev.bind (Prime_eq f) ?_
        rw [if_neg h]
        refine Ev.pos rfl (Ev.bnd (a := (0, 31, 7)) rfl ?_)
        have hg := gen_rng h
        have hb : 0 ≤ (P f - 1) / 2 ^ n.toNat ∧ (P f - 1) / 2 ^ n.toNat ≤ P f - 1 := ⟨Int.ediv_nonneg (by omega) (Int.le_of_lt (Int.pow_pos (by decide))), Int.ediv_le_self _ (by omega)⟩
        have hP : Ev (fun k => field_Pow.f k f (gen f) ((P f - 1) / 2 ^ n.toNat)) (rt f n.toNat, 0) := by
          refine Ev.cast (Pow_eq f _ _ hg.1 hb.1 (by omega)) ?_
          rw [if_pos (by rw [ok_iff]; exact ⟨h, fun x hx => by simp at hx; subst hx; exact hg.2⟩), tonat_div (by omega)]
          rfl
        dsimp only
        rw [u64w_in _ (by omega) (by omega), shr64 _ _ (by omega) (by omega)]
        rcases f_cases h with rfl | rfl
        · refine Ev.neg (by decide) (Ev.pos rfl (Ev.pos (by omega) (Ev.bind hP (Ev.fix rfl))))
        · refine Ev.neg (by decide) (Ev.neg (by decide) (Ev.pos rfl (Ev.pos (by omega) (Ev.bind hP (Ev.fix rfl)))))
theorem or1 (x : Int) (h0 : 0 ≤ x) (h1 : x < 4611686018427387904) (b : Int) (hb : b = 0 ∨ b = 1) : Go.bits .or .i64 (x * 2) b = 2 * x + b := by
  have hk : ∀ n : Int, 0 ≤ n → n < 2 ^ 63 → IntKind.i64.wrap n = n := fun n a c => IntWalk.i64_in _ ⟨by omega, by simp at c; omega⟩
  rw [bits_join .i64 63 (by decide) hk 1 (x * 2) b (by omega) (by omega) (by simp; omega) (by omega) (by simp; omega) (by simp; omega)]
  omega
theorem and1i (x : Int) (h0 : 0 ≤ x) (h1 : x < 9223372036854775808) : Go.bits .and .i64 x 1 = x % 2 :=
  bits_mask .i64 63 (by decide) (fun n a c => IntWalk.i64_in _ ⟨by omega, by simp at c; omega⟩) 1 (by decide) x h0 (by simpa using h1)
theorem flip_loop (l : Nat) (hl : l ≤ 32) : ∀ (d i : Nat) (n out : Int), 0 ≤ n → n < 9223372036854775808 → 0 ≤ out → out < 2 ^ i → i + d = l →
    Ev (fun k => root_Flip.l0 k n out (l : Int) (i : Int)) (flp d n out, 0) := by
  intro d
  induction d with
  | zero =>
    intro i n out _ _ _ _ hd
    refine Ev.step (fun k => by rw [root_Flip.l0]) ?_
    exact Ev.neg (by omega) (Ev.fix rfl)
  | succ d ih =>
    intro i n out hn hn1 ho ho1 hd
    have h1 := two_le (show i ≤ 32 by omega)
    have h2 : (2 : Int) ^ (i + 1) = 2 ^ i * 2 := Int.pow_succ _ _
    refine Ev.step (fun k => by rw [root_Flip.l0]) (Ev.pos (by omega) ?_)
    rw [w64_succ (by omega), w64_in (by omega) (by omega), and1i n hn hn1, or1 out ho (by omega) _ (by omega), flp]
    exact ih (i + 1) _ _ (by omega) (by omega) (by omega) (by omega) (by omega)
theorem Flip_eq (n l : Int) (hn : n < 9223372036854775808) : Ev (fun k => root_Flip.f k n l) (flipE n l) := by
  unfold root_Flip.f flipE
  have no : Ev (fun k => root_Flip.j0 k n l true) (0, 2) := Ev.step (fun k => by rw [root_Flip.j0]) (Ev.pos rfl (Ev.fix rfl))
  refine Ev.ite (fun c => ?_) (fun c => Ev.ite (fun c1 => ?_) (fun c1 => Ev.ite (fun c2 => ?_) (fun c2 => Ev.pos (by omega) ?_)))
  · rw [if_pos (.inl c)]; exact no
  · rw [if_pos (.inr (.inl c1))]; exact no
  · rw [if_pos (.inr (.inr (.inl c2)))]; exact no
  · rw [shl64 l (by omega) (by omega)]
    by_cases c3 : n ≥ 2 ^ l.toNat
    · rw [if_pos (.inr (.inr (.inr c3))), decide_eq_true c3]; exact no
    · rw [if_neg (by omega), decide_eq_false c3]
      refine Ev.step (fun k => by rw [root_Flip.j0]) (Ev.neg (by decide) ?_)
      have := flip_loop l.toNat (by omega) l.toNat 0 n 0 (by omega) hn (by omega) (by decide) (by omega)
      rw [show ((l.toNat : Nat) : Int) = l by omega] at this
      exact this
end Go.Proofs.Ytaegmhniepfdaaa.FFastFresh
namespace Go.Proofs.Ytaegmhniepfdaaa.FFastFresh
open Go.RowKit Go Go.Proofs.YtaegmhniepfdaaaW.PrintWords Go.Proofs.YtaegmhniepfdaaaW.PrintLast Go.Proofs.YtaegmhniepfdaaaW.PrintMore Go.Proofs.Ytaegmhniepfdaaa.M Go.Proofs.Ytaegmhniepfdaaa.PFastFresh
theorem quot_inv {f b : Int} (hp : P f ≠ 0) (hb : 0 ≤ b ∧ b < P f) (h0 : b ≠ 0) : quot f 1 b = (inv (P f) b, 0) := by
  have hlo := (P_pr hp).lo
  have r := emod_rng (p := P f) (b ^ (P f - 2).toNat) (by omega)
  unfold quot
  rw [if_pos (ok_iff.2 ⟨hp, by simp; omega⟩), if_neg h0, Int.one_mul, Int.emod_emod]
  rfl
theorem pow_le12 {m : Nat} (hm : m ≤ 12) : 2 ^ m ≤ 4096 := Nat.le_trans (Nat.pow_le_pow_right (by omega) hm) (Nat.le_refl (2 ^ 12))
theorem log_eq {m : Nat} (hm : m ≤ 12) : fast_log.f ((2 ^ m : Nat) : Int) = some ((m : Int), true) := by
  have h : m = 0 ∨ m = 1 ∨ m = 2 ∨ m = 3 ∨ m = 4 ∨ m = 5 ∨ m = 6 ∨ m = 7 ∨ m = 8 ∨ m = 9 ∨ m = 10 ∨ m = 11 ∨ m = 12 := by omega
  rcases h with rfl | rfl | rfl | rfl | rfl | rfl | rfl | rfl | rfl | rfl | rfl | rfl | rfl <;> decide +kernel
def fn (m j : Nat) : Nat := (flp m (j : Int) 0).toNat
theorem fn_eq (m j : Nat) : ((fn m j : Nat) : Int) = flp m (j : Int) 0 := Int.toNat_of_nonneg (flp_rng m j (by omega)).1
theorem two_cast (m : Nat) : (2 : Int) ^ m = ((2 ^ m : Nat) : Int) := by simp
theorem fn_lt (m j : Nat) : fn m j < 2 ^ m := by
  have h := (flp_rng m (j : Int) (by omega)).2
  rw [← fn_eq, two_cast] at h; omega
theorem fn_fn {m j : Nat} (h : j < 2 ^ m) : fn m (fn m j) = j := by
  have k := flp_flp m (j : Int) (by omega) (by rw [two_cast]; omega)
  rw [← fn_eq m j, ← fn_eq] at k; omega
def swp (l : List Int) (m i : Nat) : List Int := pol (2 ^ m) fun j => if j < i ∨ fn m j < i then cf l (fn m j) else cf l j
theorem swp_len (l : List Int) (m i : Nat) : (swp l m i).length = 2 ^ m := pol_len
theorem swp_rd {l : List Int} {m i j : Nat} (h : j < 2 ^ m) : rd (swp l m i) (j : Int) = if j < i ∨ fn m j < i then cf l (fn m j) else cf l j := rd_pol h
theorem swp_zero {l : List Int} {m : Nat} (h : l.length = 2 ^ m) : swp l m 0 = l := (pol_ext h fun j _ => by rw [if_neg (by omega)]).symm
theorem swp_set {l : List Int} {m i : Nat} (h : i < 2 ^ m) (_c : i < fn m i) : ((swp l m i).set i (cf l (fn m i))).set (fn m i) (cf l i) = swp l m (i + 1) := by
  unfold swp
  rw [pol_set h, pol_set (fn_lt m i)]
  refine pol_congr fun j hj => ?_
  have ff := fn_fn h
  have fj := fn_fn hj
  by_cases a : j = fn m i
  · rw [if_pos a, if_pos (.inr (by rw [a, ff]; omega)), a, ff]
  · rw [if_neg a]
    by_cases b : j = i
    · rw [if_pos b, if_pos (.inl (by omega)), b]
    · rw [if_neg b]
      have nf : fn m j ≠ i := fun e => a (by rw [← e, fj])
      by_cases d : j < i ∨ fn m j < i
      · rw [if_pos d, if_pos (by omega)]
      · rw [if_neg d, if_neg (by omega)]
theorem swp_stay {l : List Int} {m i : Nat} (h : i < 2 ^ m) (c : ¬ i < fn m i) : swp l m i = swp l m (i + 1) := by
  unfold swp
  refine pol_congr fun j hj => ?_
  have ff := fn_fn h
  have fj := fn_fn hj
  by_cases d : j < i ∨ fn m j < i
  · rw [if_pos d, if_pos (by omega)]
  · rw [if_neg d]
    by_cases b : j = i
    · have e : fn m i = i := by rw [b] at d; omega
      rw [if_pos (.inl (by omega)), b, e]
    · by_cases b2 : fn m j = i
      · have : j = fn m i := by rw [← b2, fj]
        omega
      · rw [if_neg (by omega)]
def mix (p w : Int) (l : List Int) (m s F j : Nat) : List Int := pol (2 ^ m) fun i => if i < F ∨ (F ≤ i ∧ i < F + j) ∨ (F + 2 ^ s ≤ i ∧ i < F + 2 ^ s + j) then stg p w l m (s + 1) i else stg p w l m s i
theorem mix_len (p w : Int) (l : List Int) (m s F j : Nat) : (mix p w l m s F j).length = 2 ^ m := pol_len
theorem mix_next (p w : Int) (l : List Int) (m s F : Nat) : mix p w l m s F (2 ^ s) = mix p w l m s (F + 2 * 2 ^ s) 0 := pol_congr fun i _ => by
  by_cases c : i < F + 2 * 2 ^ s
  · rw [if_pos (by omega), if_pos (.inl c)]
  · rw [if_neg (by omega), if_neg (by omega)]
theorem mix_zero (p w : Int) (l : List Int) (m s : Nat) : mix p w l m s 0 0 = pol (2 ^ m) (stg p w l m s) := pol_congr fun i _ => by rw [if_neg (by omega)]
theorem mix_last (p w : Int) (l : List Int) (m s F : Nat) (h : 2 ^ m ≤ F) : mix p w l m s F 0 = pol (2 ^ m) (stg p w l m (s + 1)) := pol_congr fun i hi => by rw [if_pos (.inl (by omega))]
theorem mix_set {p w : Int} {l : List Int} {m s F j : Nat} (h : F + j + 2 ^ s < 2 ^ m) (hj : j < 2 ^ s) :
    ((mix p w l m s F j).set (F + j) (stg p w l m (s + 1) (F + j))).set (F + j + 2 ^ s) (stg p w l m (s + 1) (F + j + 2 ^ s)) = mix p w l m s F (j + 1) := by
  unfold mix
  rw [pol_set (by omega), pol_set h]
  refine pol_congr fun i _ => ?_
  by_cases a : i = F + j + 2 ^ s
  · rw [if_pos a, if_pos (by omega), a]
  · rw [if_neg a]
    by_cases b : i = F + j
    · rw [if_pos b, if_pos (by omega), b]
    · rw [if_neg b]
      by_cases d : i < F ∨ (F ≤ i ∧ i < F + j) ∨ (F + 2 ^ s ≤ i ∧ i < F + 2 ^ s + j)
      · rw [if_pos d, if_pos (by omega)]
      · rw [if_neg d, if_neg (by omega)]
theorem mix_rd {p w : Int} {l : List Int} {m s F j : Nat} (h : F + j + 2 ^ s < 2 ^ m) (hj : j < 2 ^ s) : rd (mix p w l m s F j) ((F + j : Nat) : Int) = stg p w l m s (F + j) ∧ rd (mix p w l m s F j) ((F + j + 2 ^ s : Nat) : Int) = stg p w l m s (F + j + 2 ^ s) := by
  unfold mix
  refine ⟨?_, ?_⟩
  · rw [rd_pol (by omega), if_neg (by omega)]
  · rw [rd_pol (by omega), if_neg (by omega)]
theorem stg_rng {p : Int} (hp : 0 < p) (w : Int) (l : List Int) (m s i : Nat) : 0 ≤ stg p w l m s i ∧ stg p w l m s i < p := by
  unfold stg; exact ⟨Int.emod_nonneg _ (by omega), Int.emod_lt_of_pos _ hp⟩
theorem turn_inner {f : Int} (hp0 : P f ≠ 0) {w : Int} {l : List Int} {m s B : Nat} (hm : m ≤ 12) (hs : s < m) (hw : Rt (P f) w m) (hB : (B + 1) * (2 * 2 ^ s) ≤ 2 ^ m) {R : List Int}
    (hk : Ev (fun k => fast_reckoner_turn.l2 k w (mix (P f) w l m s ((B + 1) * (2 * 2 ^ s)) 0) ((2 ^ s : Nat) : Int) (w ^ (2 ^ (m - s - 1)) % P f) (((B + 1) * (2 * 2 ^ s) : Nat) : Int) f) R) : ∀ (d j : Nat), j + d = 2 ^ s →
    Ev (fun k => fast_reckoner_turn.l3 k w (mix (P f) w l m s (B * (2 * 2 ^ s)) j) ((2 ^ s : Nat) : Int) (w ^ (2 ^ (m - s - 1)) % P f) ((B * (2 * 2 ^ s) : Nat) : Int) (w ^ (2 ^ (m - s - 1) * j) % P f) ((B * (2 * 2 ^ s) + j : Nat) : Int) f) R := by
  have hp := P_pr hp0
  have hlo := hp.lo; have hhi := hp.hi
  have h4 := pow_le12 hm
  have eB : (B + 1) * (2 * 2 ^ s) = B * (2 * 2 ^ s) + 2 * 2 ^ s := by rw [Nat.add_mul, Nat.one_mul]
  intro d
  induction d with
  | zero =>
    intro j h
    refine Ev.step (fun k => by rw [fast_reckoner_turn.l3]) ?_
    have e : j = 2 ^ s := by omega
    subst e
    rw [show wrap64 (((B * (2 * 2 ^ s) : Nat) : Int) + ((2 ^ s : Nat) : Int)) = ((B * (2 * 2 ^ s) + 2 ^ s : Nat) : Int) by rw [w64_in (by omega) (by omega)]; omega]
    rw [show wrap64 (2 * ((2 ^ s : Nat) : Int)) = ((2 * 2 ^ s : Nat) : Int) by rw [w64_in (by omega) (by omega)]; omega]
    rw [show wrap64 (((B * (2 * 2 ^ s) : Nat) : Int) + ((2 * 2 ^ s : Nat) : Int)) = (((B + 1) * (2 * 2 ^ s) : Nat) : Int) by rw [w64_in (by omega) (by omega), eB]; omega]
    rw [mix_next, ← eB]
    exact Ev.neg (by omega) hk
  | succ d ih =>
    intro j h
    refine Ev.step (fun k => by rw [fast_reckoner_turn.l3]) ?_
    have hj : j < 2 ^ s := by omega
    have hb : B * (2 * 2 ^ s) + j + 2 ^ s < 2 ^ m := by omega
    obtain ⟨r1, r2⟩ := mix_rd (p := P f) (w := w) (l := l) hb hj
    obtain ⟨s1, s2⟩ := stg_step l (B := B) hs hw hj
    rw [show wrap64 (((B * (2 * 2 ^ s) : Nat) : Int) + ((2 ^ s : Nat) : Int)) = ((B * (2 * 2 ^ s) + 2 ^ s : Nat) : Int) by rw [w64_in (by omega) (by omega)]; omega]
    rw [show wrap64 (((B * (2 * 2 ^ s) + j : Nat) : Int) + ((2 ^ s : Nat) : Int)) = ((B * (2 * 2 ^ s) + j + 2 ^ s : Nat) : Int) by rw [w64_in (by omega) (by omega)]; omega]
    rw [show wrap64 (((B * (2 * 2 ^ s) + j : Nat) : Int) + 1) = ((B * (2 * 2 ^ s) + (j + 1) : Nat) : Int) by rw [w64_in (by omega) (by omega)]; omega]
    rw [mix_len, r1, r2]
    have ga := stg_rng (p := P f) (by omega) w l m s (B * (2 * 2 ^ s) + j)
    have gb := stg_rng (p := P f) (by omega) w l m s (B * (2 * 2 ^ s) + j + 2 ^ s)
    have gx := emod_rng (p := P f) (w ^ (2 ^ (m - s - 1) * j)) (by omega)
    have gs := emod_rng (p := P f) (w ^ (2 ^ (m - s - 1))) (by omega)
    refine Ev.pos (by omega) (Ev.pos (by omega) (Ev.pos (by omega) (Ev.pos (by omega) (Ev.pos (by omega) (Ev.bind (fmul_eq hp0 gx gb) ?_)))))
    have gt := emod_rng (p := P f) (w ^ (2 ^ (m - s - 1) * j) % P f * stg (P f) w l m s (B * (2 * 2 ^ s) + j + 2 ^ s)) (by omega)
    refine Ev.bind (fadd_eq hp0 ga gt) (Ev.bind (fsub_eq hp0 ga gt) (Ev.bind (fmul_eq hp0 gx gs) ?_))
    rw [emod_mul_l, emod_add_r, emod_sub_r, ← s1, ← s2, Int.toNat_natCast, Int.toNat_natCast, mix_set hb hj, emod_mul_l, emod_mul_r, ← Int.pow_add, show 2 ^ (m - s - 1) * j + 2 ^ (m - s - 1) = 2 ^ (m - s - 1) * (j + 1) by rw [Nat.mul_add, Nat.mul_one]]
    exact ih (j + 1) (by omega)
theorem turn_mid {f : Int} (hp0 : P f ≠ 0) {w : Int} {l : List Int} {m s : Nat} (hm : m ≤ 12) (hs : s < m) (hw : Rt (P f) w m) {R : List Int}
    (hk : Ev (fun k => fast_reckoner_turn.l1 k w (pol (2 ^ m) (stg (P f) w l m (s + 1))) ((2 ^ (s + 1) : Nat) : Int) f) R) : ∀ (d B : Nat), B + d = 2 ^ (m - s - 1) →
    Ev (fun k => fast_reckoner_turn.l2 k w (mix (P f) w l m s (B * (2 * 2 ^ s)) 0) ((2 ^ s : Nat) : Int) (w ^ (2 ^ (m - s - 1)) % P f) ((B * (2 * 2 ^ s) : Nat) : Int) f) R := by
  have h4 := pow_le12 hm
  have hs4 := pow_le12 (show s + 1 ≤ 12 by omega)
  have e2 : (2 : Nat) ^ (s + 1) = 2 * 2 ^ s := by rw [Nat.pow_succ, Nat.mul_comm]
  have eN : 2 ^ (m - s - 1) * (2 * 2 ^ s) = 2 ^ m := by rw [← e2, ← Nat.pow_add]; congr 1; omega
  have hp := P_pr hp0
  have hlo := hp.lo
  intro d
  induction d with
  | zero =>
    intro B h
    refine Ev.step (fun k => by rw [fast_reckoner_turn.l2]) ?_
    have e : B = 2 ^ (m - s - 1) := by omega
    subst e
    rw [eN, mix_len, mix_last _ _ _ _ _ _ (Nat.le_refl _), show wrap64 (((2 ^ s : Nat) : Int) * 2) = ((2 ^ (s + 1) : Nat) : Int) by rw [w64_in (by omega) (by omega)]; omega]
    exact Ev.neg (by omega) hk
  | succ d ih =>
    intro B h
    refine Ev.step (fun k => by rw [fast_reckoner_turn.l2]) ?_
    have hB : (B + 1) * (2 * 2 ^ s) ≤ 2 ^ m := by rw [← eN]; exact Nat.mul_le_mul_right _ (by omega)
    have hB2 : B * (2 * 2 ^ s) < 2 ^ m := by
      have : (B + 1) * (2 * 2 ^ s) = B * (2 * 2 ^ s) + 2 * 2 ^ s := by rw [Nat.add_mul, Nat.one_mul]
      have := Nat.two_pow_pos s
      omega
    rw [mix_len]
    have q := turn_inner hp0 (l := l) hm hs hw hB (ih (B + 1) (by omega)) (2 ^ s) 0 (by omega)
    rw [Nat.mul_zero, Int.pow_zero, one_mod hp, Nat.add_zero] at q
    exact Ev.pos (by omega) q
theorem turn_outer {f : Int} (hp0 : P f ≠ 0) {w : Int} {l : List Int} {m : Nat} (hm : m ≤ 12) (hw : Rt (P f) w m) (hw0 : 0 ≤ w ∧ w < P f) : ∀ (d s : Nat), s + d = m →
    Ev (fun k => fast_reckoner_turn.l1 k w (pol (2 ^ m) (stg (P f) w l m s)) ((2 ^ s : Nat) : Int) f) (pol (2 ^ m) (stg (P f) w l m m)) := by
  have h4 := pow_le12 hm
  intro d
  induction d with
  | zero =>
    intro s h
    refine Ev.step (fun k => by rw [fast_reckoner_turn.l1]) ?_
    have e : s = m := by omega
    subst e
    exact Ev.neg (by rw [pol_len]; omega) (Ev.fix rfl)
  | succ d ih =>
    intro s h
    have hs : s < m := by omega
    have hs4 := pow_le12 (show s + 1 ≤ 12 by omega)
    have e2 : (2 : Nat) ^ (s + 1) = 2 * 2 ^ s := by rw [Nat.pow_succ, Nat.mul_comm]
    have eN : 2 ^ (m - s - 1) * (2 * 2 ^ s) = 2 ^ m := by rw [← e2, ← Nat.pow_add]; congr 1; omega
    have p0 := Nat.two_pow_pos s
    have lt : 2 ^ s < 2 ^ m := Nat.pow_lt_pow_right (by omega) hs
    refine Ev.step (fun k => by rw [fast_reckoner_turn.l1]) ?_
    rw [pol_len, show wrap64 (2 * ((2 ^ s : Nat) : Int)) = ((2 * 2 ^ s : Nat) : Int) by rw [w64_in (by omega) (by omega)]; omega]
    have ed : ((2 ^ m : Nat) : Int) / ((2 * 2 ^ s : Nat) : Int) = ((2 ^ (m - s - 1) : Nat) : Int) := by
      rw [← eN, ← Int.natCast_ediv, Nat.mul_div_cancel _ (by omega)]
    have hle : 2 ^ (m - s - 1) ≤ 2 ^ m := Nat.pow_le_pow_right (by omega) (by omega)
    have q0 := Nat.two_pow_pos (m - s - 1)
    rw [ed, w64_in (by omega) (by omega), u64w_in _ (by omega) (by omega)]
    have hP := Pow_eq f w ((2 ^ (m - s - 1) : Nat) : Int) hw0.1 (by omega) (by omega)
    rw [if_pos (ok_iff.2 ⟨hp0, by simp [hw0.2]⟩), Int.toNat_natCast] at hP
    refine Ev.pos (by omega) (Ev.neg (by omega) (Ev.bind hP ?_))
    have q := turn_mid hp0 (l := l) hm hs hw (ih (s + 1) (by omega)) (2 ^ (m - s - 1)) 0 (by omega)
    rw [Nat.zero_mul, mix_zero] at q
    exact q
theorem turn_swap {f : Int} (_hp0 : P f ≠ 0) {w : Int} {l : List Int} {m : Nat} (hm : m ≤ 12) (hl : l.length = 2 ^ m) {R : List Int}
    (hk : Ev (fun k => fast_reckoner_turn.l1 k w (swp l m (2 ^ m)) 1 f) R) : ∀ (d i : Nat), i + d = 2 ^ m →
    Ev (fun k => fast_reckoner_turn.l0 k w (m : Int) (swp l m i) ((2 ^ m : Nat) : Int) (i : Int) f) R := by
  have h4 := pow_le12 hm
  intro d
  induction d with
  | zero =>
    intro i h
    refine Ev.step (fun k => by rw [fast_reckoner_turn.l0]) ?_
    have e : i = 2 ^ m := by omega
    subst e
    exact Ev.neg (by omega) hk
  | succ d ih =>
    intro i h
    have hi : i < 2 ^ m := by omega
    have hF := fn_lt m i
    refine Ev.step (fun k => by rw [fast_reckoner_turn.l0]) ?_
    have hf := Flip_eq (i : Int) (m : Int) (by omega)
    unfold flipE at hf
    rw [Int.toNat_natCast, two_cast, if_neg (by omega), ← fn_eq] at hf
    refine Ev.pos (by omega) (Ev.bind hf ?_)
    rw [w64_succ (by omega), swp_len, Int.toNat_natCast, Int.toNat_natCast, swp_rd hi, swp_rd hF, fn_fn hi]
    refine Ev.ite (fun c => ?_) (fun c => ?_)
    · have c : i < fn m i := by simpa using c
      rw [if_neg (by omega), if_neg (by omega), swp_set hi c]
      exact Ev.pos (by omega) (Ev.pos (by omega) (Ev.pos (by omega) (Ev.pos (by omega) (ih (i + 1) (by omega)))))
    · have c : ¬ i < fn m i := by simpa using c
      rw [swp_stay hi c]
      exact ih (i + 1) (by omega)
theorem turn_eq {f : Int} (hp0 : P f ≠ 0) {w : Int} {l : List Int} {m : Nat} (hm : m ≤ 12) (hl : l.length = 2 ^ m) (el : El (P f) l) (hw : Rt (P f) w m) (hw0 : 0 ≤ w ∧ w < P f) :
    Ev (fun k => fast_reckoner_turn.f k f l w) (tf (P f) l w (2 ^ m)) := by
  have h4 := pow_le12 hm
  have hlo := (P_pr hp0).lo
  unfold fast_reckoner_turn.f
  rw [hl]
  refine Ev.bnd (log_eq hm) (Ev.bnd (clone_eq l (by omega)) ?_)
  have o := turn_outer hp0 (l := l) hm hw hw0 m 0 (by omega)
  have e1 : pol (2 ^ m) (stg (P f) w l m m) = tf (P f) l w (2 ^ m) := pol_congr fun i hi => stg_last hl hi
  have e0 : pol (2 ^ m) (stg (P f) w l m 0) = swp l m (2 ^ m) := pol_congr fun i hi => by
    rw [stg_zero el (by omega), if_pos (.inl hi), ← fn_eq]; rfl
  rw [e1, e0] at o
  have s := turn_swap hp0 hm hl o (2 ^ m) 0 (by omega)
  rw [swp_zero hl] at s
  rw [hl]
  exact s
theorem m_lg {m : Nat} (f : Int) (hm : m ≤ 12) : (m : Int) ≤ lg f := by have := lg_rng f; omega
theorem root_at {f : Int} (hp0 : P f ≠ 0) {m : Nat} (hm : m ≤ 12) : rootE f (m : Int) = (rt f m, 0) := by
  have := lg_rng f
  unfold rootE; rw [if_neg (by omega)]; rfl
theorem there_eq {f : Int} (hp0 : P f ≠ 0) {l : List Int} {m : Nat} (hm : m ≤ 12) (hl : l.length = 2 ^ m) (el : El (P f) l) :
    Ev (fun k => fast_reckoner_there.f k f l) (tf (P f) l (rt f m) (2 ^ m)) := by
  unfold fast_reckoner_there.f
  rw [hl]
  refine Ev.bnd (log_eq hm) (Ev.bind (Root_eq f m) ?_)
  rw [root_at hp0 hm]
  exact Ev.bind (turn_eq hp0 hm hl el (rt_Rt hp0 m (m_lg f hm)) (rt_rng hp0 m)) (Ev.fix rfl)
theorem back_loop {f : Int} (hp0 : P f ≠ 0) {c : Int} (hc : 0 ≤ c ∧ c < P f) (o : List Int) (eo : El (P f) o) (hs : o.length < 17592186044416) : ∀ (d i : Nat), i + d = o.length →
    Ev (fun k => fast_reckoner_back.l0 k c (pol o.length fun j => if j < i then cf o j * c % P f else cf o j) (o.length : Int) (i : Int) f) (pol o.length fun j => cf o j * c % P f) := by
  have hlo := (P_pr hp0).lo
  intro d
  induction d with
  | zero =>
    intro i h
    refine Ev.step (fun k => by rw [fast_reckoner_back.l0]) ?_
    rw [pol_congr (g' := fun j => cf o j * c % P f) fun j hj => if_pos (by omega)]
    exact Ev.neg (by omega) (Ev.fix rfl)
  | succ d ih =>
    intro i h
    have hi : i < o.length := by omega
    refine Ev.step (fun k => by rw [fast_reckoner_back.l0]) ?_
    rw [w64_succ (by omega), rd_pol hi, if_neg (by omega), pol_len, Int.toNat_natCast]
    refine Ev.pos (by omega) (Ev.pos (by omega) (Ev.pos (by omega) (Ev.bind (fmul_eq hp0 (cf_el eo (by omega) i) hc) ?_)))
    rw [pol_set hi, pol_congr (g' := fun j => if j < i + 1 then cf o j * c % P f else cf o j) fun j hj => by
      by_cases q : j = i
      · rw [if_pos q, if_pos (by omega), q]
      · rw [if_neg q]
        by_cases r : j < i
        · rw [if_pos r, if_pos (by omega)]
        · rw [if_neg r, if_neg (by omega)]]
    exact ih (i + 1) (by omega)
theorem back_eq {f : Int} (hp0 : P f ≠ 0) {l : List Int} {m : Nat} (hm : m ≤ 12) (hl : l.length = 2 ^ m) (el : El (P f) l) :
    Ev (fun k => fast_reckoner_back.f k f l) (bk (P f) l (rt f m) (2 ^ m)) := by
  have hp := P_pr hp0
  have hlo := hp.lo; have hhi := hp.hi
  have h4 := pow_le12 hm
  have p0 := Nat.two_pow_pos m
  have R := rt_Rt hp0 m (m_lg f hm)
  have rr := rt_rng hp0 m
  have r0 : rt f m ≠ 0 := fun e => by have := R.unit hp; rw [e] at this; simp at this
  have tm := two_mod hp (show m ≤ 20 by omega)
  unfold fast_reckoner_back.f
  rw [hl, u64w_in _ (by omega) (by omega)]
  have i1 := Inv_eq f (rt f m) rr.1
  rw [quot_inv hp0 rr r0] at i1
  have i2 := Inv_eq f ((2 ^ m : Nat) : Int) (by omega)
  rw [quot_inv hp0 ⟨by omega, tm.2⟩ (by omega)] at i2
  refine Ev.bnd (log_eq hm) (Ev.bind (Root_eq f m) ?_)
  rw [root_at hp0 hm]
  refine Ev.bind i1 (Ev.bind i2 ?_)
  have hr := inv_rng hp (rt f m)
  refine Ev.bind (turn_eq hp0 hm hl el (R.inv hp (inv_mul hp (R.unit hp))) hr) ?_
  have b := back_loop hp0 (inv_rng hp ((2 ^ m : Nat) : Int)) (tf (P f) l (inv (P f) (rt f m)) (2 ^ m)) (tf_el (by omega) _ _ _) (by rw [tf_len]; omega) (2 ^ m) 0 (by rw [tf_len]; omega)
  rw [tf_len] at b ⊢
  rw [← pol_ext (g := fun j => if j < 0 then cf (tf (P f) l (inv (P f) (rt f m)) (2 ^ m)) j * inv (P f) ((2 ^ m : Nat) : Int) % P f else cf (tf (P f) l (inv (P f) (rt f m)) (2 ^ m)) j) (tf_len (P f) l (inv (P f) (rt f m)) (2 ^ m)) (fun j _ => by rw [if_neg (by omega)])] at b
  refine Ev.cast b ?_
  unfold bk
  refine pol_congr fun j hj => ?_
  unfold tf
  rw [cf_pol, if_pos hj]
theorem round_loop {f : Int} (hp0 : P f ≠ 0) {m : Nat} (hm : m ≤ 12) (x y : List Int) (ex : El (P f) x) (ey : El (P f) y) (hx : x.length = 2 ^ m) (hy : y.length = 2 ^ m) : ∀ (d i : Nat), i + d = 2 ^ m →
    Ev (fun k => fast_reckoner_round.l0 k (pol (2 ^ m) fun j => if j < i then cf x j * cf y j % P f else cf x j) y ((2 ^ m : Nat) : Int) (i : Int) f) (bk (P f) (hd (P f) x y (2 ^ m)) (rt f m) (2 ^ m)) := by
  have hlo := (P_pr hp0).lo
  have h4 := pow_le12 hm
  intro d
  induction d with
  | zero =>
    intro i h
    refine Ev.step (fun k => by rw [fast_reckoner_round.l0]) ?_
    rw [pol_congr (g' := fun j => cf x j * cf y j % P f) fun j hj => if_pos (by omega)]
    refine Ev.neg (by omega) (Ev.bind (back_eq hp0 hm pol_len ?_) (Ev.fix rfl))
    exact pol_el fun j _ => emod_rng _ (by omega)
  | succ d ih =>
    intro i h
    have hi : i < 2 ^ m := by omega
    refine Ev.step (fun k => by rw [fast_reckoner_round.l0]) ?_
    rw [w64_succ (by omega), rd_pol hi, if_neg (by omega), pol_len, Int.toNat_natCast, show rd y (i : Int) = cf y i from rfl]
    refine Ev.pos (by omega) (Ev.pos (by omega) (Ev.pos (by omega) (Ev.pos (by omega) (Ev.bind (fmul_eq hp0 (cf_el ex (by omega) i) (cf_el ey (by omega) i)) ?_))))
    rw [pol_set hi, pol_congr (g' := fun j => if j < i + 1 then cf x j * cf y j % P f else cf x j) fun j hj => by
      by_cases q : j = i
      · rw [if_pos q, if_pos (by omega), q]
      · rw [if_neg q]
        by_cases r : j < i
        · rw [if_pos r, if_pos (by omega)]
        · rw [if_neg r, if_neg (by omega)]]
    exact ih (i + 1) (by omega)
def rnd (f : Int) (a b : List Int) (m : Nat) : List Int := bk (P f) (hd (P f) (tf (P f) a (rt f m) (2 ^ m)) (tf (P f) b (rt f m) (2 ^ m)) (2 ^ m)) (rt f m) (2 ^ m)
theorem round_eq {f : Int} (hp0 : P f ≠ 0) {a b : List Int} {m : Nat} (hm : m ≤ 12) (ha : a.length = 2 ^ m) (hb : b.length = 2 ^ m) (ea : El (P f) a) (eb : El (P f) b) :
    Ev (fun k => fast_reckoner_round.f k f a b) (rnd f a b m) := by
  have hlo := (P_pr hp0).lo
  unfold fast_reckoner_round.f rnd
  refine Ev.bind (there_eq hp0 hm ha ea) (Ev.bind (there_eq hp0 hm hb eb) ?_)
  have h := round_loop hp0 hm (tf (P f) a (rt f m) (2 ^ m)) (tf (P f) b (rt f m) (2 ^ m)) (tf_el (by omega) _ _ _) (tf_el (by omega) _ _ _) (tf_len _ _ _ _) (tf_len _ _ _ _) (2 ^ m) 0 (by omega)
  rw [← pol_ext (g := fun j => if j < 0 then cf (tf (P f) a (rt f m) (2 ^ m)) j * cf (tf (P f) b (rt f m) (2 ^ m)) j % P f else cf (tf (P f) a (rt f m) (2 ^ m)) j) (tf_len (P f) a (rt f m) (2 ^ m)) (fun j _ => by rw [if_neg (by omega)])] at h
  rw [tf_len]
  exact h
theorem shaped_loop (_f : Int) (L : List (List Int)) {m : Nat} (hm : m ≤ 12) (hL : ∀ l ∈ L, l.length = 2 ^ m) (hn : L.length < 4611686018427387904) : ∀ (d i : Nat), i + d = L.length →
    Ev (fun k => fast_shaped.l0 k L L (L.length : Int) (i : Int)) 0 := by
  intro d
  induction d with
  | zero =>
    intro i h
    refine Ev.step (fun k => by rw [fast_shaped.l0]) ?_
    exact Ev.neg (by omega) (Ev.fix rfl)
  | succ d ih =>
    intro i h
    have hi : i < L.length := by omega
    refine Ev.step (fun k => by rw [fast_shaped.l0]) ?_
    have e0 : rd_L1 L 0 = L[0] := rd_L1_lt (i := 0) (by omega)
    rw [rd_L1_lt hi, w64_succ (by omega), e0, hL _ (List.getElem_mem hi), hL _ (List.getElem_mem (show 0 < L.length by omega))]
    exact Ev.pos (by omega) (Ev.pos (by omega) (Ev.pos (by omega) (Ev.bnd (log_eq hm) (Ev.pos rfl (Ev.pos (by omega) (Ev.pos rfl (ih (i + 1) (by omega))))))))
theorem shaped1_eq {f : Int} (hp0 : P f ≠ 0) {l : List Int} {m : Nat} (hm : m ≤ 12) (hl : l.length = 2 ^ m) (el : El (P f) l) : Ev (fun k => fast_shaped.f k f [l]) 0 := by
  have h4 := pow_le12 hm
  unfold fast_shaped.f
  have h := fmay1_eq f l (by omega)
  rw [bad_good hp0 el El.nil (by omega) (by simp)] at h
  exact Ev.bind h (Ev.pos rfl (shaped_loop f [l] hm (by simp [hl]) (by simp) 1 0 rfl))
theorem shaped2_eq {f : Int} (hp0 : P f ≠ 0) {a b : List Int} {m : Nat} (hm : m ≤ 12) (ha : a.length = 2 ^ m) (hb : b.length = 2 ^ m) (ea : El (P f) a) (eb : El (P f) b) : Ev (fun k => fast_shaped.f k f [a, b]) 0 := by
  have h4 := pow_le12 hm
  unfold fast_shaped.f
  have h := fmay2_eq f a b (by omega) (by omega)
  rw [bad_good hp0 ea eb (by omega) (by omega)] at h
  exact Ev.bind h (Ev.pos rfl (shaped_loop f [a, b] hm (by simp [ha, hb]) (by simp) 2 0 rfl))
theorem shaped_nil {f : Int} (hp0 : P f ≠ 0) : Ev (fun k => fast_shaped.f k f [[]]) 3 := by
  unfold fast_shaped.f
  have h := fmay1_eq f [] (by simp)
  rw [bad_good hp0 El.nil El.nil (by simp) (by simp)] at h
  refine Ev.bind h (Ev.pos rfl ?_)
  refine Ev.step (fun k => by rw [fast_shaped.l0]) ?_
  have e0 : rd_L1 [[]] 0 = [] := rfl
  have e1 : fast_log.f ((([] : List Int).length : Nat) : Int) = some (-1, false) := by decide +kernel
  rw [e0]
  exact Ev.pos (by simp) (Ev.pos (by omega) (Ev.pos (by simp) (Ev.bnd e1 (Ev.neg (by simp) (Ev.fix rfl)))))
theorem Transform_eq {f : Int} (hp0 : P f ≠ 0) {l : List Int} {m : Nat} (hm : m ≤ 12) (hl : l.length = 2 ^ m) (el : El (P f) l) :
    Ev (fun k => fast_Transform.f k f l) (tf (P f) l (rt f m) (2 ^ m), 0) := by
  unfold fast_Transform.f
  exact Ev.bind (shaped1_eq hp0 hm hl el) (Ev.pos rfl (Ev.bind (there_eq hp0 hm hl el) (Ev.fix rfl)))
theorem Transform_nil {f : Int} (hp0 : P f ≠ 0) : Ev (fun k => fast_Transform.f k f []) ([], 3) := by
  unfold fast_Transform.f
  exact Ev.bind (shaped_nil hp0) (Ev.neg (by decide) (Ev.fix rfl))
theorem Back_eq {f : Int} (hp0 : P f ≠ 0) {l : List Int} {m : Nat} (hm : m ≤ 12) (hl : l.length = 2 ^ m) (el : El (P f) l) :
    Ev (fun k => fast_Back.f k f l) (bk (P f) l (rt f m) (2 ^ m), 0) := by
  unfold fast_Back.f
  exact Ev.bind (shaped1_eq hp0 hm hl el) (Ev.pos rfl (Ev.bind (back_eq hp0 hm hl el) (Ev.fix rfl)))
theorem Round_eq {f : Int} (hp0 : P f ≠ 0) {a b : List Int} {m : Nat} (hm : m ≤ 12) (ha : a.length = 2 ^ m) (hb : b.length = 2 ^ m) (ea : El (P f) a) (eb : El (P f) b) :
    Ev (fun k => fast_Round.f k f a b) (rnd f a b m, 0) := by
  unfold fast_Round.f
  exact Ev.bind (shaped2_eq hp0 hm ha hb ea eb) (Ev.pos rfl (Ev.bind (round_eq hp0 hm ha hb ea eb) (Ev.fix rfl)))
end Go.Proofs.Ytaegmhniepfdaaa.FFastFresh
namespace Go.Proofs.Ytaegmhniepfdaaa.FFastFresh
open Go.RowKit Go Go.Proofs.YtaegmhniepfdaaaW.PrintWords Go.Proofs.YtaegmhniepfdaaaW.PrintLast Go.Proofs.YtaegmhniepfdaaaW.PrintMore Go.Proofs.Ytaegmhniepfdaaa.M Go.Proofs.Ytaegmhniepfdaaa.PFastFresh
theorem Pmul_cn {f : Int} (hp0 : P f ≠ 0) {a b : List Int} (ca : Cn (P f) a) (cb : Cn (P f) b) (la : a.length ≤ 4096) (lb : b.length ≤ 4096) (h : a.length + b.length ≤ 4097) : Pmul f a b = (mulP (P f) a b, 0) := by
  have e := Pmul_good hp0 ca.el cb.el la lb (.inr (.inr (by rw [ca.tr, cb.tr]; exact h)))
  rwa [ca.tr, cb.tr] at e
theorem grown_eq (a : List Int) (m : Nat) (hm : m ≤ 12) (h : a.length ≤ 2 ^ m) : fast_Mul_1.f a ((2 ^ m : Nat) : Int) = some (pol (2 ^ m) (cf a)) := by
  have h4 := pow_le12 hm
  unfold fast_Mul_1.f
  have e : wrap64 (((2 ^ m : Nat) : Int) - (a.length : Int)) = ((2 ^ m - a.length : Nat) : Int) := by rw [w64_in (by omega) (by omega)]; omega
  rw [e, Int.toNat_natCast, if_pos (by omega), if_pos (by omega)]
  congr 1
  refine pol_ext (by simp; omega) fun i hi => ?_
  unfold cf rd
  rw [Int.toNat_natCast, List.getD_eq_getElem?_getD, List.getD_eq_getElem?_getD]
  by_cases c : i < a.length
  · rw [List.getElem?_append_left c]
  · rw [List.getElem?_append_right (by omega), List.getElem?_eq_none (l := a) (by omega), List.getElem?_replicate]
    split <;> rfl
theorem tf_pad (p : Int) (a : List Int) (w : Int) (n : Nat) (h : a.length ≤ n) : tf p (pol n (cf a)) w n = tf p a w n := pol_congr fun j _ => by
  rw [ev_congr (a := pol n (cf a)) (b := a) fun i => by
    rw [cf_pol]; split
    · rfl
    · rw [cf_ge (by omega)]]
theorem rnd_mul {f : Int} (hp0 : P f ≠ 0) {a b : List Int} {m : Nat} (hm : m ≤ 12) (h : (mulP (P f) a b).length ≤ 2 ^ m) (ha : a.length ≤ 2 ^ m) (hb : b.length ≤ 2 ^ m) :
    rnd f (pol (2 ^ m) (cf a)) (pol (2 ^ m) (cf b)) m = pol (2 ^ m) (cf (mulP (P f) a b)) := by
  unfold rnd
  rw [tf_pad _ a _ _ ha, tf_pad _ b _ _ hb]
  exact bk_mul (P_pr hp0) (by omega) (rt_Rt hp0 m (m_lg f hm)) h
theorem trim_pad (l : List Int) (n : Nat) (h : l.length ≤ n) : trim (pol n (cf l)) = trim l := trim_ext fun i => by
  rw [cf_pol]; split
  · rfl
  · rw [cf_ge (by omega)]
theorem mul_loop {f : Int} (hp0 : P f ≠ 0) {a b : List Int} (ca : Cn (P f) a) (cb : Cn (P f) b) (na : a ≠ []) (nb : b ≠ []) (h : a.length + b.length ≤ 4097) : ∀ (d j : Nat), j + d = 12 →
    Ev (fun k => fast_Mul.l0 k a b ((a.length + b.length - 1 : Nat) : Int) f ((2 ^ j : Nat) : Int)) (mulP (P f) a b, 0) := by
  have hp := P_pr hp0
  have hlo := hp.lo
  have la := len_pos na
  have lb := len_pos nb
  have ml := mulP_len (p := P f) na nb
  have done : ∀ j, j ≤ 12 → a.length + b.length - 1 ≤ 2 ^ j → Ev (fun k => (fast_Mul_1.f a ((2 ^ j : Nat) : Int)).bind fun t447 => ((fast_Mul_1.f b ((2 ^ j : Nat) : Int)).bind fun t450 => ((fast_reckoner_round.f k f t447 t450).bind fun t453 => ((poly_Trim.f k t453).bind fun t456 => (some (t456, (0 : Int))))))) (mulP (P f) a b, 0) := by
    intro j hj hn
    have h4 := pow_le12 hj
    refine Ev.bnd (grown_eq a j hj (by omega)) (Ev.bnd (grown_eq b j hj (by omega)) (Ev.bind (round_eq hp0 hj pol_len pol_len (pol_el fun i _ => cf_el ca.el (by omega) i) (pol_el fun i _ => cf_el cb.el (by omega) i)) ?_))
    rw [rnd_mul hp0 hj (by omega) (by omega) (by omega)]
    refine Ev.bind (Trim_eq _ (by rw [pol_len]; omega)) (Ev.fix ?_)
    rw [trim_pad _ _ (by omega), (mulP_cn hp ca cb).tr]
  intro d
  induction d with
  | zero =>
    intro j hj
    have e : j = 12 := by omega
    subst e
    refine Ev.step (fun k => by rw [fast_Mul.l0]) ?_
    exact Ev.neg (by omega) (done 12 (by omega) (by omega))
  | succ d ih =>
    intro j hj
    have h4 := pow_le12 (show j + 1 ≤ 12 by omega)
    have e2 : (2 : Nat) ^ (j + 1) = 2 * 2 ^ j := by rw [Nat.pow_succ, Nat.mul_comm]
    refine Ev.step (fun k => by rw [fast_Mul.l0]) (Ev.ite (fun c => ?_) (fun c => ?_))
    · rw [show wrap64 (((2 ^ j : Nat) : Int) * 2) = ((2 ^ (j + 1) : Nat) : Int) by rw [w64_in (by omega) (by omega)]; omega]
      exact ih (j + 1) (by omega)
    · exact done j (by omega) (by omega)
theorem FMul_eq (f : Int) (a b : List Int) (wa : Wd a) (wb : Wd b) (ha : a.length < 17592186044416) (hb : b.length < 17592186044416) : Ev (fun k => fast_Mul.f k f a b) (Pmul f a b) := by
  unfold fast_Mul.f
  refine Ev.bind (checked_eq f a b ha hb) (Ev.ite (fun c => ?_) (fun c => ?_))
  · obtain ⟨h0, h1, h2⟩ := Pmul_chk0 c
    obtain ⟨ka, kb, la, lb⟩ := bad_zero h0
    have hp0 := (ok_iff.1 ka).1
    have hp := P_pr hp0
    have hhi := hp.hi
    have ta := trim_le a; have tb := trim_le b
    have ea := trim_el (wa.el (ok_all ka)); have eb := trim_el (wb.el (ok_all kb))
    have ca : Cn (P f) (trim a) := ⟨ea, trim_trim a⟩
    have cb : Cn (P f) (trim b) := ⟨eb, trim_trim b⟩
    have hlen : trim a ≠ [] → trim b ≠ [] → (trim a).length + (trim b).length ≤ 4097 := by
      intro na nb
      unfold chk at c
      rw [if_pos h0] at c
      refine Nat.le_of_not_lt fun q => ?_
      rw [if_pos ⟨fun z => by rcases z with z | z <;> contradiction, by omega⟩] at c
      exact absurd c (by decide)
    rw [h1, h2]
    dsimp only
    have ml := mul_len_le (P f) (trim a) (trim b)
    have bl : (trim a).length + (trim b).length < 1099511627776 := by omega
    have ml4 : (mulP (P f) (trim a) (trim b)).length < 17592186044416 := by omega
    clear h0 h1 h2 ka kb c
    refine Ev.ite (fun s => ?_) (fun s => ?_)
    · have g := PMul_eq f (trim a) (trim b) (ea.wd (by omega)) (eb.wd (by omega)) (by omega) (by omega)
      have e : Pmul f (trim a) (trim b) = (mulP (P f) (trim a) (trim b), 0) := by
        by_cases na : trim a = []
        · rw [Pmul_good hp0 ea eb (by omega) (by omega) (.inl (by rw [trim_trim]; exact na)), trim_trim, trim_trim]
        · by_cases nb : trim b = []
          · rw [Pmul_good hp0 ea eb (by omega) (by omega) (.inr (.inl (by rw [trim_trim]; exact nb))), trim_trim, trim_trim]
          · exact Pmul_cn hp0 ca cb (by omega) (by omega) (hlen na nb)
      rw [e] at g
      exact Ev.bind g (Ev.fix rfl)
    · have s2 : 16 < (trim a).length ∧ 16 < (trim b).length := by
        have e := mn_nat (trim a).length (trim b).length
        have e3 : ¬ mn ((trim a).length : Int) ((trim b).length : Int) ≤ 16 := s
        rw [e] at e3; omega
      have na : trim a ≠ [] := fun z => by rw [z] at s2; simp at s2
      have nb : trim b ≠ [] := fun z => by rw [z] at s2; simp at s2
      have hl := hlen na nb
      have e : wrap64 (wrap64 (((trim a).length : Int) + ((trim b).length : Int)) - 1) = (((trim a).length + (trim b).length - 1 : Nat) : Int) := by rw [w64_in (i := ((trim a).length : Int) + (trim b).length) (by omega) (by omega), w64_in (by omega) (by omega)]; omega
      rw [e]
      refine Ev.ite (fun q => ?_) (fun q => ?_)
      · refine Ev.bind (halves_eq hp0 _ (trim a) (trim b) (Nat.le_refl _) ea eb bl) (Ev.bind (Trim_eq _ ml4) (Ev.fix ?_))
        rw [mulP_top hp (trim_trim a) (trim_trim b) ea eb]
      · have g := mul_loop hp0 ca cb na nb hl 12 0 rfl
        rw [show ((2 ^ 0 : Nat) : Int) = 1 from rfl] at g
        exact g
  · rw [Pmul_chk1 c]; exact Ev.fix rfl
theorem anchored4 : Ev (fun k => conclavelaw04_anchored.f k) true := by
  unfold conclavelaw04_anchored.f
  have w1 : Wd [1, 2] := Wd.cons (by omega) (Wd.cons (by omega) Wd.nil)
  have w2 : Wd [3, 4] := Wd.cons (by omega) (Wd.cons (by omega) Wd.nil)
  have p1 : P 1 = 2013265921 := rfl
  have el : El (P 1) [1, 2] := by rw [p1]; exact El.cons (by omega) (El.cons (by omega) El.nil)
  have e1 : Pmul 2 [1, 2] [3, 4] = ([3, 10, 8], 0) := by kernel_rfl
  have r : rt 1 1 = 2013265920 := rt_one (f := 1) (by decide)
  have e2 : tf (P 1) [1, 2] (rt 1 1) (2 ^ 1) = [3, 2013265920] := by rw [r]; kernel_rfl
  have h1 := FMul_eq 2 [1, 2] [3, 4] w1 w2 (by simp) (by simp)
  have h2 := Transform_eq (f := 1) (by decide) (m := 1) (by omega) (l := [1, 2]) rfl el
  rw [e1] at h1
  rw [e2] at h2
  exact Ev.bind h1 (Ev.bind h2 (Ev.bind (Transform_nil (by decide)) (Ev.pos rfl (Ev.pos rfl (Ev.pos rfl (Ev.bind (rSame _ _ (by simp)) (Ev.pos (by simp) (Ev.bind (rSame _ _ (by simp)) (Ev.fix (by simp))))))))))
end Go.Proofs.Ytaegmhniepfdaaa.FFastFresh
namespace Go.Proofs.Ytaegmhniepfdaaa.FFastFresh
open Go.RowKit Go Go.Proofs.YtaegmhniepfdaaaW.PrintWords Go.Proofs.YtaegmhniepfdaaaW.PrintLast Go.Proofs.YtaegmhniepfdaaaW.PrintMore Go.Proofs.Ytaegmhniepfdaaa.M Go.Proofs.Ytaegmhniepfdaaa.PFastFresh
theorem list_fill {f : Int} (hp0 : P f ≠ 0) (l : List Int) (wl : Wd l) (n : Nat) (hn : n ≤ 4096) : ∀ (d i : Nat) (A : List Int), i + d = n → A.length = n → El (P f) A →
    ∃ out, out.length = n ∧ El (P f) out ∧ Ev (fun k => conclavelaw04_list.l1 k l f (n : Int) A (i : Int)) (f, out) := by
  have hlo := (P_pr hp0).lo
  intro d
  induction d with
  | zero =>
    intro i A h hA eA
    exact ⟨A, hA, eA, Ev.step (fun k => by rw [conclavelaw04_list.l1]) (Ev.neg (by omega) (Ev.fix rfl))⟩
  | succ d ih =>
    intro i A h hA eA
    by_cases c : i < l.length
    · have r := wl.rd c
      have t := emod_rng (p := P f) (rd l (i : Int)) (by omega)
      obtain ⟨out, h1, h2, h3⟩ := ih (i + 1) (A.set i (rd l (i : Int) % P f)) (by omega) (by rw [List.length_set, hA]) (fun x hx => by
        rcases List.mem_or_eq_of_mem_set hx with q | q
        · exact eA x q
        · rw [q]; exact t)
      refine ⟨out, h1, h2, Ev.step (fun k => by rw [conclavelaw04_list.l1]) ?_⟩
      refine Ev.pos (by omega) (Ev.pos (by omega) (Ev.pos (by omega) (Ev.bnd (rP f) (Ev.neg hp0 (Ev.pos (by omega) ?_)))))
      rw [w64_succ (by omega), Int.tmod_eq_emod_of_nonneg r.1, Int.toNat_natCast]
      exact h3
    · exact ⟨A, hA, eA, Ev.step (fun k => by rw [conclavelaw04_list.l1]) (Ev.pos (by omega) (Ev.neg (by omega) (Ev.fix rfl)))⟩
theorem shl_two {m : Nat} (hm : m ≤ 12) : shl .i64 1 (IntKind.u64.wrap (m : Int)) = ((2 ^ m : Nat) : Int) := by
  rw [u64w_in (m : Int) (by omega) (by omega), shl64 _ (by omega) (by omega), Int.toNat_natCast, two_cast]
theorem list_grow {f : Int} (hp0 : P f ≠ 0) (l : List Int) (wl : Wd l) (_hl : l.length < 17592186044416) (most : Nat) (hm : most ≤ 12) : ∀ (d j : Nat), j + d = most →
    ∃ m out, m ≤ most ∧ out.length = 2 ^ m ∧ El (P f) out ∧ Ev (fun k => conclavelaw04_list.l0 k l (most : Int) f ((2 ^ j : Nat) : Int)) (f, out) := by
  have done : ∀ j, j ≤ most → ∃ m out, m ≤ most ∧ out.length = 2 ^ m ∧ El (P f) out ∧ Ev (fun k => conclavelaw04_list.j1 k l f ((2 ^ j : Nat) : Int)) (f, out) := by
    intro j hj
    have h4 := pow_le12 (show j ≤ 12 by omega)
    obtain ⟨out, h1, h2, h3⟩ := list_fill hp0 l wl (2 ^ j) h4 (2 ^ j) 0 (List.replicate (2 ^ j) 0) (by omega) List.length_replicate (fun x hx => by rw [List.eq_of_mem_replicate hx]; have := (P_pr hp0).lo; omega)
    refine ⟨j, out, hj, h1, h2, Ev.step (fun k => by rw [conclavelaw04_list.j1]) (Ev.pos (by omega) (Ev.pos (by rw [Int.toNat_natCast]; omega) ?_))⟩
    rw [Int.toNat_natCast]
    exact h3
  intro d
  induction d with
  | zero =>
    intro j hj
    have e : j = most := by omega
    subst e
    obtain ⟨m, out, h0, h1, h2, h3⟩ := done j (Nat.le_refl _)
    refine ⟨m, out, h0, h1, h2, Ev.step (fun k => by rw [conclavelaw04_list.l0]) ?_⟩
    rw [shl_two hm, u64w_in (j : Int) (by omega) (by omega)]
    exact Ev.ite (fun _ => Ev.pos (by omega) (Ev.neg (by omega) h3)) (fun _ => h3)
  | succ d ih =>
    intro j hj
    have h4 := pow_le12 (show j + 1 ≤ 12 by omega)
    have e2 : (2 : Nat) ^ (j + 1) = 2 * 2 ^ j := by rw [Nat.pow_succ, Nat.mul_comm]
    by_cases c : 2 * 2 ^ j ≤ l.length
    · obtain ⟨m, out, h0, h1, h2, h3⟩ := ih (j + 1) (by omega)
      refine ⟨m, out, h0, h1, h2, Ev.step (fun k => by rw [conclavelaw04_list.l0]) ?_⟩
      have lt : 2 ^ j < 2 ^ most := Nat.pow_lt_pow_right (by omega) (by omega)
      have h5 := pow_le12 hm
      rw [shl_two hm, show wrap64 (2 * ((2 ^ j : Nat) : Int)) = ((2 ^ (j + 1) : Nat) : Int) by rw [w64_in (by omega) (by omega)]; omega, u64w_in (most : Int) (by omega) (by omega)]
      exact Ev.pos (by omega) (Ev.pos (by omega) (Ev.pos (by omega) h3))
    · obtain ⟨m, out, h0, h1, h2, h3⟩ := done j (by omega)
      refine ⟨m, out, h0, h1, h2, Ev.step (fun k => by rw [conclavelaw04_list.l0]) ?_⟩
      rw [show wrap64 (2 * ((2 ^ j : Nat) : Int)) = ((2 ^ (j + 1) : Nat) : Int) by rw [w64_in (by omega) (by omega)]; omega]
      exact Ev.neg (by omega) h3
def fld (a : Int) : Int := a % 2 + 1
theorem fld_nz (a : Int) : P (fld a) ≠ 0 := by
  unfold fld
  have : a % 2 = 0 ∨ a % 2 = 1 := by omega
  rcases this with e | e <;> rw [e] <;> decide
theorem list_ex (a : Int) (ha : 0 ≤ a) (l : List Int) (wl : Wd l) (hl : l.length < 17592186044416) (most : Nat) (hm : most ≤ 12) :
    ∃ m out, m ≤ most ∧ out.length = 2 ^ m ∧ El (P (fld a)) out ∧ Ev (fun k => conclavelaw04_list.f k a l (most : Int)) (fld a, out) := by
  obtain ⟨m, out, h0, h1, h2, h3⟩ := list_grow (fld_nz a) l wl hl most hm most 0 (by omega)
  refine ⟨m, out, h0, h1, h2, ?_⟩
  unfold conclavelaw04_list.f
  have e : (Int.tmod a 2 + 1) % 256 = fld a := by
    rw [Int.tmod_eq_emod_of_nonneg ha]
    unfold fld; omega
  rw [e]
  exact h3
end Go.Proofs.Ytaegmhniepfdaaa.FFastFresh
namespace Go.Proofs.Ytaegmhniepfdaaa.FFastFresh
open Go.RowKit Go Go.Proofs.YtaegmhniepfdaaaW.PrintWords Go.Proofs.YtaegmhniepfdaaaW.PrintLast Go.Proofs.YtaegmhniepfdaaaW.PrintMore Go.Proofs.Ytaegmhniepfdaaa.M Go.Proofs.Ytaegmhniepfdaaa.PFastFresh
theorem rCopy (l : List Int) (hn : l.length < 17592186044416) : cr1_Copy.f l = some l := by
  unfold cr1_Copy.f
  simp [hn]
theorem spoil_b (m : Int) : ∀ (d : Nat) (l : List Int) (i : Nat), i + d = l.length → l.length < 4611686018427387904 → Ev (fun k => cr1_Spoil.l1 k l m (i : Int)) () := by
  intro d
  induction d with
  | zero =>
    intro l i hi _
    refine Ev.step (fun k => by rw [cr1_Spoil.l1]) ?_
    exact Ev.neg (by omega) (Ev.fix rfl)
  | succ d ih =>
    intro l i hi hn
    refine Ev.step (fun k => by rw [cr1_Spoil.l1]) ?_
    refine Ev.pos (by omega) (Ev.pos (by omega) ?_)
    rw [w64_succ (by omega)]
    exact ih _ (i + 1) (by simp; omega) (by simpa using hn)
theorem spoil_a (m : Int) : ∀ (d : Nat) (l : List Int) (i : Nat), i + d = l.length → l.length < 17592186044410 → Ev (fun k => cr1_Spoil.l0 k l m (i : Int)) () := by
  intro d
  induction d with
  | zero =>
    intro l i hi hn
    refine Ev.step (fun k => by rw [cr1_Spoil.l0]) ?_
    refine Ev.neg (by omega) (Ev.bnd rfl (Ev.pos (by simp; omega) ?_))
    exact spoil_b m _ _ 0 (Nat.zero_add _) (by simp; omega)
  | succ d ih =>
    intro l i hi hn
    refine Ev.step (fun k => by rw [cr1_Spoil.l0]) ?_
    refine Ev.pos (by omega) (Ev.pos (by omega) ?_)
    rw [w64_succ (by omega)]
    exact ih _ (i + 1) (by simp; omega) (by simpa using hn)
theorem rSpoil (l : List Int) (m : Int) (hn : l.length < 17592186044410) : Ev (fun k => cr1_Spoil.f k l m) () := by
  unfold cr1_Spoil.f
  exact spoil_a m l.length l 0 (by omega) hn
end Go.Proofs.Ytaegmhniepfdaaa.FFastFresh
namespace Go.Proofs.Ytaegmhniepfdaaa.Pure
open Go.RowKit Go.Proofs.Ytaegmhniepfdaaa.PFastFresh Go.Proofs.YtaegmhniepfdaaaW.PrintWords Go.Proofs.YtaegmhniepfdaaaW.PrintLast Go.Proofs.Ytaegmhniepfdaaa.M Go.Proofs.Ytaegmhniepfdaaa.FFastFresh
theorem Pmul_len (f : Int) (a b : List Int) : (Pmul f a b).1.length ≤ 4096 := by
  unfold Pmul
  split
  · split
    · exact Nat.zero_le _
    · split
      · exact Nat.zero_le _
      · rename_i h
        unfold mulP; split
        · exact Nat.zero_le _
        · rw [pol_len]; omega
  · exact Nat.zero_le _
theorem FastFresh : conclavelaw04_FastFresh.Pure := by
  intro a0 l1 l2 h0 _ ha wa _ hb wb
  refine Ev.rounds (g := fun k => conclavelaw04_FastFresh.f k a0 l1 l2) ?_
  have a00 := (wf_u8 h0).1
  obtain ⟨m, a, hm, la, ea, ga⟩ := list_ex a0 a00 l1 (Wd.of_wf wa) (by omega) 6 (by omega)
  obtain ⟨n, b, hn, lb, eb, gb⟩ := list_ex a0 a00 l2 (Wd.of_wf wb) (by omega) 6 (by omega)
  have hp0 := fld_nz a0
  generalize fld a0 = f at *
  have hp := P_pr hp0
  have hhi := hp.hi
  have m12 : m ≤ 12 := by omega
  have m4 := pow_le12 m12
  have n4 := pow_le12 (show n ≤ 12 by omega)
  have wda := ea.wd (show P f ≤ 18446744073709551616 by omega)
  have wdb := eb.wd (show P f ≤ 18446744073709551616 by omega)
  have la4 : a.length < 17592186044410 := by omega
  have lb4 : b.length < 17592186044410 := by omega
  have pl := Pmul_len f a b
  have g1 := Transform_eq hp0 m12 la ea
  have g2 := Back_eq hp0 m12 la ea
  have g3 := FMul_eq f a b wda wdb (by omega) (by omega)
  have g4 := Kara_eq f a b wda wdb (by omega) (by omega)
  have g5 := Round_eq hp0 m12 la la ea ea
  have g6 := rPMul f a b wda wdb (by omega) (by omega)
  have s1 := rSpoil (tf (P f) a (rt f m) (2 ^ m)) 1 (by rw [tf_len]; omega)
  have s2 := rSpoil (bk (P f) a (rt f m) (2 ^ m)) 31 (by rw [bk_len]; omega)
  have s3 := rSpoil (Pmul f a b).1 61 (by omega)
  have s4 := rSpoil (Pmul f a b).1 91 (by omega)
  have s5 := rSpoil (rnd f a a m) 121 (by unfold rnd; rw [bk_len]; omega)
  unfold conclavelaw04_FastFresh.f
  refine Ev.bind ga (Ev.bind gb (Ev.bnd (rCopy a (by omega)) (Ev.bnd (rCopy b (by omega)) (Ev.bind g1 (Ev.bind g2 (Ev.bind g3 (Ev.bind g4 (Ev.bind g5 ?_))))))))
  refine Ev.bind s1 (Ev.bind s2 (Ev.bind s3 (Ev.bind s4 (Ev.bind s5 (Ev.bind g3 (Ev.bind g6 (Ev.bind anchored4 (Ev.pos rfl ?_))))))))
  exact Ev.bind (rSame _ _ (by omega)) (Ev.pos (by simp) (Ev.bind (rSame _ _ (by omega)) (Ev.pos (by simp) (Ev.bind (rSame _ _ (by omega)) (Ev.pos (by simp) (Ev.fix (by simp)))))))
end Go.Proofs.Ytaegmhniepfdaaa.Pure
