/- EuclidInverts: the product with an inverse has the remainder 1; where there is none, both have a common factor; where a list may not be or nothing divides, there is an error. For every field number and every two lists of words. -/
import Derived.Test.YteofgcmgncaojaaMEuclidInverts
import Derived.Test.YteofgcmgncaojaaPEuclidInvertsx
namespace Go.Proofs.Yteofgcmgncaojaa.FEuclidInverts
open Go.RowKit Go Go.Proofs.YteofgcmgncaojaaW.PrintWords Go.Proofs.YteofgcmgncaojaaW.PrintLast Go.Proofs.YteofgcmgncaojaaW.PrintMore Go.Proofs.Yteofgcmgncaojaa.M Go.Proofs.Yteofgcmgncaojaa.PEuclidInverts
theorem trimmed_loop (l : List Int) (hl : l.length < 4611686018427387904) : ∀ n : Nat, n ≤ l.length → Ev (fun k => poly_trimmed.l0 k l (n : Int)) (l.take (tl l n)) := by
  intro n
  induction n with
  | zero =>
    intro _
    refine Ev.step (fun k => by rw [poly_trimmed.l0]) ?_
    exact Ev.neg (by omega) (Ev.pos (by omega) (Ev.pos (by omega) (Ev.fix rfl)))
  | succ n ih =>
    intro hn
    have e : wrap64 (((n + 1 : Nat) : Int) - 1) = (n : Int) := by rw [w64_in (by omega) (by omega)]; omega
    refine Ev.step (fun k => by rw [poly_trimmed.l0]) ?_
    rw [e]
    refine Ev.pos (by omega) (Ev.pos (by omega) (Ev.pos (by omega) (Ev.ite (fun c => ?_) (fun c => ?_))))
    · rw [tl, if_pos c]; exact ih (by omega)
    · rw [tl, if_neg c]; exact Ev.pos (by omega) (Ev.pos (by omega) (Ev.fix rfl))
theorem trimmed_eq (l : List Int) (hl : l.length < 4611686018427387904) : Ev (fun k => poly_trimmed.f k l) (trim l) := by
  unfold poly_trimmed.f
  exact trimmed_loop l hl l.length (Nat.le_refl _)
theorem clone_eq (l : List Int) (hl : l.length < 17592186044416) : slices_Clone_uint64_uint64.f l = some l := by
  unfold slices_Clone_uint64_uint64.f; rw [if_pos hl]
theorem Trim_eq (l : List Int) (hl : l.length < 17592186044416) : Ev (fun k => poly_Trim.f k l) (trim l) := by
  unfold poly_Trim.f
  exact Ev.bind (trimmed_eq l (by omega)) (Ev.bnd (clone_eq _ (by have := trim_le l; omega)) (Ev.fix rfl))
theorem Degree_eq (l : List Int) (hl : l.length < 4611686018427387904) : Ev (fun k => poly_Degree.f k l) (((trim l).length : Int) - 1) := by
  unfold poly_Degree.f
  have := trim_le l
  refine Ev.bind (trimmed_eq l hl) (Ev.fix ?_)
  rw [w64_in (by omega) (by omega)]
theorem rTrim_loop (l : List Int) (hl : l.length < 17592186044416) : ∀ n : Nat, n ≤ l.length → Ev (fun k => cr3_Trim.l0 k l (n : Int)) (l.take (tl l n)) := by
  have hc : ∀ m : Nat, cr1_Copy.f (l.take ((m : Int) : Int).toNat) = some (l.take m) := fun m => by
    unfold cr1_Copy.f
    have : (l.take m).length ≤ l.length := List.length_take_le' _ _
    simp only [Int.toNat_natCast, Option.bind_some, List.length_nil, List.nil_append, Nat.zero_add]
    rw [if_pos (by omega)]
  intro n
  induction n with
  | zero =>
    intro _
    refine Ev.step (fun k => by rw [cr3_Trim.l0]) ?_
    exact Ev.neg (by omega) (Ev.pos (by omega) (Ev.pos (by omega) (Ev.bnd (hc 0) (Ev.fix rfl))))
  | succ n ih =>
    intro hn
    have e : wrap64 (((n + 1 : Nat) : Int) - 1) = (n : Int) := by rw [w64_in (by omega) (by omega)]; omega
    refine Ev.step (fun k => by rw [cr3_Trim.l0]) ?_
    rw [e]
    refine Ev.pos (by omega) (Ev.pos (by omega) (Ev.pos (by omega) (Ev.ite (fun c => ?_) (fun c => ?_))))
    · rw [tl, if_pos c]; exact ih (by omega)
    · rw [tl, if_neg c]; exact Ev.pos (by omega) (Ev.pos (by omega) (Ev.bnd (hc (n + 1)) (Ev.fix rfl)))
theorem rTrim (l : List Int) (hl : l.length < 17592186044416) : Ev (fun k => cr3_Trim.f k l) (trim l) := by
  unfold cr3_Trim.f
  exact rTrim_loop l hl l.length (Nat.le_refl _)
end Go.Proofs.Yteofgcmgncaojaa.FEuclidInverts
namespace Go.Proofs.Yteofgcmgncaojaa.FEuclidInverts
open Go.RowKit Go Go.Proofs.YteofgcmgncaojaaW.PrintWords Go.Proofs.YteofgcmgncaojaaW.PrintLast Go.Proofs.YteofgcmgncaojaaW.PrintMore Go.Proofs.Yteofgcmgncaojaa.M Go.Proofs.Yteofgcmgncaojaa.PEuclidInverts
def PF (p : Int) (w : Bool) : Prop := (p = 2013265921 ∧ w = false) ∨ (p = 18446744069414584321 ∧ w = true)
theorem PF.lo {p : Int} {w : Bool} (h : PF p w) : 2013265921 ≤ p := by unfold PF at h; omega
theorem PF.hi {p : Int} {w : Bool} (h : PF p w) : p ≤ 18446744069414584321 := by unfold PF at h; omega
theorem addLo_eq (a b : Int) (ha : 0 ≤ a) (hb : 0 ≤ b) : addLo a b = (a + b) % 18446744073709551616 := by unfold addLo; omega
theorem addHi_eq (a b : Int) (ha : 0 ≤ a) (hb : 0 ≤ b) : addHi a b = (a + b) / 18446744073709551616 := by unfold addHi; omega
theorem subLo_eq (a b : Int) (ha : 0 ≤ a) (hb : 0 ≤ b) (hb1 : b < 18446744073709551616) : subLo a b = (a - b) % 18446744073709551616 := by unfold subLo; omega
theorem subHi_eq (a b : Int) (ha : 0 ≤ a) (hb : 0 ≤ b) : subHi a b = if a < b then 1 else 0 := by
  unfold subHi; split <;> split <;> omega
theorem add_eq {p : Int} {w : Bool} (h : PF p w) {a b : Int} (ha : 0 ≤ a) (ha1 : a < p) (hb : 0 ≤ b) (hb1 : b < p) : field_reckoner_add.f p w a b = some ((a + b) % p) := by
  have h1 := h.lo; have h2 := h.hi
  have e : (a + b) % p = if a + b < p then a + b else a + b - p := by
    split
    · exact Int.emod_eq_of_lt (by omega) (by omega)
    · rw [← Int.sub_emod_right]; exact Int.emod_eq_of_lt (by omega) (by omega)
  unfold field_reckoner_add.f
  rw [addLo_eq _ _ ha hb, addHi_eq _ _ ha hb, e]
  simp only [u64w]
  (repeat' split) <;> (congr 1; omega)
theorem sub_eq {p : Int} {w : Bool} (h : PF p w) {a b : Int} (ha : 0 ≤ a) (ha1 : a < p) (hb : 0 ≤ b) (hb1 : b < p) : field_reckoner_sub.f p w a b = some ((a - b) % p) := by
  have h1 := h.lo; have h2 := h.hi
  have e : (a - b) % p = if a < b then a - b + p else a - b := by
    split
    · rw [← Int.add_emod_right]; exact Int.emod_eq_of_lt (by omega) (by omega)
    · exact Int.emod_eq_of_lt (by omega) (by omega)
  unfold field_reckoner_sub.f
  rw [subLo_eq _ _ ha hb (by omega), subHi_eq _ _ ha hb, e]
  simp only [u64w]
  (repeat' split) <;> first | (exfalso; omega) | (congr 1; omega)
theorem mul64_eq {a b : Int} (ha : 0 ≤ a) (ha1 : a < 18446744073709551616) (hb : 0 ≤ b) (hb1 : b < 18446744073709551616) :
    bits_Mul64.f a b = some (a * b / 18446744073709551616, a * b % 18446744073709551616) := by
  have e := mul_parts a b
  have k1 := mul_half (a / 4294967296) (b / 4294967296) (by omega) (by omega) (by omega) (by omega)
  have k2 := mul_half (a / 4294967296) (b % 4294967296) (by omega) (by omega) (by omega) (by omega)
  have k3 := mul_half (a % 4294967296) (b / 4294967296) (by omega) (by omega) (by omega) (by omega)
  have k4 := mul_half (a % 4294967296) (b % 4294967296) (by omega) (by omega) (by omega) (by omega)
  unfold bits_Mul64.f
  rw [and32 a ha ha1, and32 b hb hb1]
  generalize a / 4294967296 * (b / 4294967296) = t11 at *
  generalize a / 4294967296 * (b % 4294967296) = t10 at *
  generalize a % 4294967296 * (b / 4294967296) = t01 at *
  generalize a % 4294967296 * (b % 4294967296) = t00 at *
  rw [e]
  rw [u64w_in t11 (by omega) (by omega), u64w_in t10 (by omega) (by omega), u64w_in t01 (by omega) (by omega), u64w_in t00 (by omega) (by omega)]
  rw [u64w_in (t10 + t00 / 4294967296) (by omega) (by omega), and32 (t10 + t00 / 4294967296) (by omega) (by omega)]
  obtain ⟨q, hq⟩ : ∃ q, q = t00 / 4294967296 := ⟨_, rfl⟩
  obtain ⟨r, hr⟩ : ∃ r, r = t00 % 4294967296 := ⟨_, rfl⟩
  have et : t00 = q * 4294967296 + r := by omega
  have qb : 0 ≤ q ∧ q ≤ 4294967294 := by omega
  have rb : 0 ≤ r ∧ r < 4294967296 := by omega
  rw [← hq]
  clear hq hr
  subst et
  obtain ⟨s1, hs1⟩ : ∃ s1, s1 = (t10 + q) / 4294967296 := ⟨_, rfl⟩
  obtain ⟨s0, hs0⟩ : ∃ s0, s0 = (t10 + q) % 4294967296 := ⟨_, rfl⟩
  have es : t10 = s1 * 4294967296 + s0 - q := by omega
  have sb : 0 ≤ s0 ∧ s0 < 4294967296 := by omega
  have sb1 : 0 ≤ s1 ∧ s1 < 4294967296 := by omega
  rw [← hs1, ← hs0]
  clear hs1 hs0
  subst es
  obtain ⟨v1, hv1⟩ : ∃ v1, v1 = (s0 + t01) / 4294967296 := ⟨_, rfl⟩
  obtain ⟨v0, hv0⟩ : ∃ v0, v0 = (s0 + t01) % 4294967296 := ⟨_, rfl⟩
  have ev : t01 = v1 * 4294967296 + v0 - s0 := by omega
  have vb : 0 ≤ v0 ∧ v0 < 4294967296 := by omega
  have vb1 : 0 ≤ v1 ∧ v1 < 4294967296 := by omega
  rw [u64w_in (s0 + t01) (by omega) (by omega), ← hv1]
  clear hv1 hv0
  subst ev
  rw [u64w_in (t11 + s1) (by omega) (by omega), u64w_in (t11 + s1 + v1) (by omega) (by omega)]
  have e2 : t11 * 18446744073709551616 + (s1 * 4294967296 + s0 - q + (v1 * 4294967296 + v0 - s0)) * 4294967296 + (q * 4294967296 + r) = (t11 + s1 + v1) * 18446744073709551616 + (v0 * 4294967296 + r) := by omega
  rw [e2, u64w]
  simp only [Option.some.injEq, Prod.mk.injEq]
  exact ⟨by omega, trivial⟩
theorem mul_lt {p a b : Int} (ha : 0 ≤ a) (ha1 : a < p) (hb : 0 ≤ b) (hb1 : b < p) : 0 ≤ a * b ∧ a * b < p * p := by
  refine ⟨Int.mul_nonneg ha hb, ?_⟩
  have h := Int.mul_le_mul (show a ≤ p - 1 by omega) (show b ≤ p - 1 by omega) hb (by omega)
  have : (p - 1) * (p - 1) = p * p - 2 * p + 1 := by grind
  omega
theorem emod_rng {p : Int} (x : Int) (hp : 0 < p) : 0 ≤ x % p ∧ x % p < p := ⟨Int.emod_nonneg _ (by omega), Int.emod_lt_of_pos _ hp⟩
theorem mul_eq {p : Int} {w : Bool} (h : PF p w) {a b : Int} (ha : 0 ≤ a) (ha1 : a < p) (hb : 0 ≤ b) (hb1 : b < p) : field_reckoner_mul.f p w a b = some (a * b % p) := by
  have h1 := h.lo; have h2 := h.hi
  obtain ⟨m0, m1⟩ := mul_lt ha ha1 hb hb1
  unfold field_reckoner_mul.f
  rw [mul64_eq ha (by omega) hb (by omega)]
  simp only [Option.bind_some]
  rcases h with ⟨rfl, rfl⟩ | ⟨rfl, rfl⟩
  · simp only [Bool.false_eq_true, if_false, bits_Rem64.f, bits_Div64.f]
    generalize a * b = m at *
    have e0 : m / 18446744073709551616 = 0 := by omega
    have e1 : m % 18446744073709551616 = m := by omega
    rw [e0, e1]
    simp [Int.tmod_eq_emod_of_nonneg m0]
  · simp only [if_true]
    generalize a * b = m at *
    have hhi : 0 ≤ m / 18446744073709551616 ∧ m / 18446744073709551616 < 18446744073709551616 := by omega
    rw [and32 _ hhi.1 hhi.2]
    have hP : PF 18446744069414584321 true := .inr ⟨rfl, rfl⟩
    rw [u64w_in (m / 18446744073709551616 % 4294967296 * 4294967296) (by omega) (by omega), u64w_in (m / 18446744073709551616 % 4294967296 * 4294967296 - m / 18446744073709551616 % 4294967296) (by omega) (by omega)]
    split
    · rw [u64w_in _ (by omega) (by omega), sub_eq hP (by omega) (by omega) (by omega) (by omega)]
      simp only [Option.bind_some]
      rw [add_eq hP (emod_rng _ (by omega)).1 (emod_rng _ (by omega)).2 (by omega) (by omega)]
      simp only [Option.bind_some, Option.some.injEq]
      omega
    · rw [sub_eq hP (by omega) (by omega) (by omega) (by omega)]
      simp only [Option.bind_some]
      rw [add_eq hP (emod_rng _ (by omega)).1 (emod_rng _ (by omega)).2 (by omega) (by omega)]
      simp only [Option.bind_some, Option.some.injEq]
      omega
theorem pow_loop {p : Int} {w : Bool} (h : PF p w) : ∀ (d : Nat) (a n acc : Int), 0 ≤ a → a < p → 0 ≤ acc → acc < p → 0 ≤ n → n < 2 ^ d → n < 18446744073709551616 →
    Ev (fun k => field_reckoner_pow.l0 k a n acc p w) (acc * a ^ n.toNat % p) := by
  have h1 := h.lo; have h2 := h.hi
  intro d
  induction d with
  | zero =>
    intro a n acc ha ha1 hc hc1 hn hn1 hn2
    obtain rfl : n = 0 := by simp at hn1; omega
    refine Ev.step (fun k => by rw [field_reckoner_pow.l0]) ?_
    refine Ev.neg (by omega) (Ev.fix ?_)
    simp [Int.emod_eq_of_lt hc hc1]
  | succ d ih =>
    intro a n acc ha ha1 hc hc1 hn hn1 hn2
    refine Ev.step (fun k => by rw [field_reckoner_pow.l0]) ?_
    refine Ev.ite (fun c => ?_) (fun c => ?_)
    · have r1 := emod_rng (a * a) (p := p) (by omega)
      have r2 := emod_rng (acc * a) (p := p) (by omega)
      have hd : n / 2 < 2 ^ d := by
        have : (2 : Int) ^ (d + 1) = 2 ^ d * 2 := Int.pow_succ _ _
        omega
      have hnn : n.toNat = 2 * (n / 2).toNat + (n % 2).toNat := by omega
      have hsq : ∀ m : Nat, a ^ (2 * m) = (a * a) ^ m := fun m => by
        rw [Int.pow_mul]; congr 1; rw [Int.pow_succ, Int.pow_succ]; simp
      refine Ev.ite (fun c1 => ?_) (fun c1 => ?_)
      · rw [and1 n hn hn2] at c1
        refine Ev.bnd (mul_eq h hc hc1 ha ha1) (Ev.bnd (mul_eq h ha ha1 ha ha1) ?_)
        refine Ev.cast (ih _ _ _ r1.1 r1.2 r2.1 r2.2 (by omega) hd (by omega)) ?_
        rw [hnn, c1, show (1 : Int).toNat = 1 from rfl, Int.pow_succ, hsq]
        rw [emod_mul_l, ← emod_mul_r _ ((a * a % p) ^ _), emod_pow_l, emod_mul_r]
        congr 1; grind
      · rw [and1 n hn hn2] at c1
        have c2 : n % 2 = 0 := by omega
        refine Ev.bnd (mul_eq h ha ha1 ha ha1) ?_
        refine Ev.cast (ih _ _ _ r1.1 r1.2 hc hc1 (by omega) hd (by omega)) ?_
        rw [hnn, c2, show (0 : Int).toNat = 0 from rfl, Nat.add_zero, hsq]
        rw [← emod_mul_r _ ((a * a % p) ^ _), emod_pow_l, emod_mul_r]
    · obtain rfl : n = 0 := by omega
      refine Ev.fix ?_
      simp [Int.emod_eq_of_lt hc hc1]
theorem pow_eq {p : Int} {w : Bool} (h : PF p w) {a n : Int} (ha : 0 ≤ a) (ha1 : a < p) (hn : 0 ≤ n) (hn2 : n < 18446744073709551616) :
    Ev (fun k => field_reckoner_pow.f k p w a n) (a ^ n.toNat % p) := by
  have h1 := h.lo
  exact Ev.cast (pow_loop h 64 a n 1 ha ha1 (by omega) (by omega) hn (by simpa using hn2) hn2) (by simp)
end Go.Proofs.Yteofgcmgncaojaa.FEuclidInverts
namespace Go.Proofs.Yteofgcmgncaojaa.FEuclidInverts
open Go.RowKit Go Go.Proofs.YteofgcmgncaojaaW.PrintWords Go.Proofs.YteofgcmgncaojaaW.PrintLast Go.Proofs.YteofgcmgncaojaaW.PrintMore Go.Proofs.Yteofgcmgncaojaa.M Go.Proofs.Yteofgcmgncaojaa.PEuclidInverts
theorem pf_of {f : Int} (h : P f ≠ 0) : PF (P f) (wd f) := by
  unfold PF P wd at *
  by_cases h1 : f = 1
  · subst h1; simp
  · by_cases h2 : f = 2
    · subst h2; simp
    · simp [h1, h2] at h
theorem of_is (f : Int) : field_of.f f = some (P f, wd f, decide (P f ≠ 0)) := by
  unfold field_of.f P wd
  by_cases h1 : f = 1
  · subst h1; simp
  · by_cases h2 : f = 2
    · subst h2; simp
    · simp [h1, h2]
theorem in_loop (p : Int) (w : Bool) (l : List Int) (hl : l.length < 4611686018427387904) : ∀ (d i : Nat), i + d = l.length →
    Ev (fun k => field_reckoner_in.l0 k l (l.length : Int) (i : Int) p w) (allIn p (l.drop i)) := by
  intro d
  induction d with
  | zero =>
    intro i hi
    refine Ev.step (fun k => by rw [field_reckoner_in.l0]) ?_
    refine Ev.neg (by omega) (Ev.fix ?_)
    rw [List.drop_eq_nil_of_le (by omega), allIn_nil]
  | succ d ih =>
    intro i hi
    have hlt : i < l.length := by omega
    refine Ev.step (fun k => by rw [field_reckoner_in.l0]) ?_
    refine Ev.pos (by omega) (Ev.pos (by omega) (Ev.pos (by omega) ?_))
    rw [drop_rd hlt, allIn_cons]
    refine Ev.ite (fun c => ?_) (fun c => ?_)
    · refine Ev.fix ?_
      rw [decide_eq_false (by omega), Bool.false_and]
    · rw [decide_eq_true (by omega), Bool.true_and, w64_succ (by omega)]
      exact ih (i + 1) (by omega)
theorem in_eq (p : Int) (w : Bool) (l : List Int) (hl : l.length < 4611686018427387904) : Ev (fun k => field_reckoner_in.f k p w l) (allIn p l) := by
  have := in_loop p w l hl l.length 0 (by omega)
  simpa [field_reckoner_in.f] using this
theorem asked_eq (f : Int) (l : List Int) (hl : l.length < 4611686018427387904) :
    Ev (fun k => field_asked.f k f l) (if ok f l then (P f, wd f, 0) else (0, false, 2)) := by
  unfold field_asked.f
  refine Ev.bnd (of_is f) ?_
  by_cases hp : P f = 0
  · have e : ok f l = false := by unfold ok; simp [hp]
    simp only [hp, e]
    exact Ev.fix (by simp)
  · refine Ev.pos (by simpa using hp) ?_
    refine Ev.bind (in_eq (P f) (wd f) l hl) ?_
    have e : ok f l = allIn (P f) l := by unfold ok; simp [hp]
    rw [e]
    refine Ev.ite (fun c => ?_) (fun c => ?_)
    · exact Ev.fix (by rw [if_pos c])
    · exact Ev.fix (by rw [if_neg c])
theorem ok2 {f a b : Int} (h : ok f [a, b] = true) : PF (P f) (wd f) ∧ a < P f ∧ b < P f := by
  have := ok_iff.1 h
  exact ⟨pf_of this.1, this.2 a (by simp), this.2 b (by simp)⟩
theorem Add_eq (f a b : Int) (ha : 0 ≤ a) (hb : 0 ≤ b) : Ev (fun k => field_Add.f k f a b) (if ok f [a, b] then ((a + b) % P f, 0) else (0, 2)) := by
  unfold field_Add.f
  refine Ev.bind (asked_eq f _ (by simp)) ?_
  by_cases h : ok f [a, b] = true
  · simp only [h, if_true]
    obtain ⟨hp, h1, h2⟩ := ok2 h
    exact Ev.bnd (add_eq hp ha h1 hb h2) (Ev.fix rfl)
  · simp only [h]
    exact Ev.fix (by simp)
theorem Sub_eq (f a b : Int) (ha : 0 ≤ a) (hb : 0 ≤ b) : Ev (fun k => field_Sub.f k f a b) (if ok f [a, b] then ((a - b) % P f, 0) else (0, 2)) := by
  unfold field_Sub.f
  refine Ev.bind (asked_eq f _ (by simp)) ?_
  by_cases h : ok f [a, b] = true
  · simp only [h, if_true]
    obtain ⟨hp, h1, h2⟩ := ok2 h
    exact Ev.bnd (sub_eq hp ha h1 hb h2) (Ev.fix rfl)
  · simp only [h]
    exact Ev.fix (by simp)
theorem Mul_eq (f a b : Int) (ha : 0 ≤ a) (hb : 0 ≤ b) : Ev (fun k => field_Mul.f k f a b) (if ok f [a, b] then (a * b % P f, 0) else (0, 2)) := by
  unfold field_Mul.f
  refine Ev.bind (asked_eq f _ (by simp)) ?_
  by_cases h : ok f [a, b] = true
  · simp only [h, if_true]
    obtain ⟨hp, h1, h2⟩ := ok2 h
    exact Ev.bnd (mul_eq hp ha h1 hb h2) (Ev.fix rfl)
  · simp only [h]
    exact Ev.fix (by simp)
theorem inv_eq {p : Int} {w : Bool} (h : PF p w) {a : Int} (ha : 0 ≤ a) (ha1 : a < p) : Ev (fun k => field_reckoner_inv.f k p w a) (a ^ (p - 2).toNat % p) := by
  have h1 := h.lo; have h2 := h.hi
  unfold field_reckoner_inv.f
  rw [u64w_in _ (by omega) (by omega)]
  exact Ev.bind (pow_eq h ha ha1 (by omega) (by omega)) (Ev.fix rfl)
def quot (f a b : Int) : Int × Int := if ok f [a, b] then (if b = 0 then (0, 5) else (a * (b ^ (P f - 2).toNat % P f) % P f, 0)) else (0, 2)
theorem Div_eq (f a b : Int) (ha : 0 ≤ a) (hb : 0 ≤ b) : Ev (fun k => field_Div.f k f a b) (quot f a b) := by
  unfold field_Div.f quot
  refine Ev.bind (asked_eq f _ (by simp)) ?_
  by_cases h : ok f [a, b] = true
  · simp only [h, if_true]
    obtain ⟨hp, h1, h2⟩ := ok2 h
    by_cases hb0 : b = 0
    · simp only [hb0, if_true]; exact Ev.fix rfl
    · simp only [hb0, if_false]
      have hr := emod_rng (p := P f) (b ^ (P f - 2).toNat) (by have := hp.lo; omega)
      exact Ev.bind (inv_eq hp hb h2) (Ev.bnd (mul_eq hp ha h1 hr.1 hr.2) (Ev.fix rfl))
  · simp only [h]
    exact Ev.fix (by simp)
theorem Inv_eq (f a : Int) (ha : 0 ≤ a) : Ev (fun k => field_Inv.f k f a) (quot f 1 a) := by
  unfold field_Inv.f
  exact Ev.bind (Div_eq f 1 a (by decide) ha) (Ev.fix rfl)
theorem In_eq (f : Int) (l : List Int) (hl : l.length < 4611686018427387904) : Ev (fun k => field_In.f k f l) (ok f l) := by
  unfold field_In.f
  refine Ev.bind (asked_eq f _ hl) ?_
  by_cases h : ok f l = true
  · simp only [h]; exact Ev.fix (by simp)
  · simp only [h]; exact Ev.fix (by simp)
end Go.Proofs.Yteofgcmgncaojaa.FEuclidInverts
namespace Go.Proofs.Yteofgcmgncaojaa.FEuclidInverts
open Go.RowKit Go Go.Proofs.YteofgcmgncaojaaW.PrintWords Go.Proofs.YteofgcmgncaojaaW.PrintLast Go.Proofs.YteofgcmgncaojaaW.PrintMore Go.Proofs.Yteofgcmgncaojaa.M Go.Proofs.Yteofgcmgncaojaa.PEuclidInverts
theorem rP (f : Int) : cr1_P.f f = some (P f) := by
  unfold cr1_P.f P; split <;> (try split) <;> rfl
theorem rSum {p a b : Int} (hp : 0 < p) (hp1 : p < 18446744073709551616) (ha : 0 ≤ a) (ha1 : a < p) (hb : 0 ≤ b) (hb1 : b < p) : cr1_Sum.f p a b = some ((a + b) % p) := by
  have e : (a + b) % p = if a + b < p then a + b else a + b - p := by
    split
    · exact Int.emod_eq_of_lt (by omega) (by omega)
    · rw [← Int.sub_emod_right]; exact Int.emod_eq_of_lt (by omega) (by omega)
  unfold cr1_Sum.f
  rw [e]
  simp only [u64w]
  (repeat' split) <;> first | (exfalso; omega) | (congr 1; omega)
theorem rLess {p a b : Int} (hp : 0 < p) (hp1 : p < 18446744073709551616) (ha : 0 ≤ a) (ha1 : a < p) (hb : 0 ≤ b) (hb1 : b < p) : cr1_Less.f p a b = some ((a - b) % p) := by
  have e : (a - b) % p = if a < b then a - b + p else a - b := by
    split
    · rw [← Int.add_emod_right]; exact Int.emod_eq_of_lt (by omega) (by omega)
    · exact Int.emod_eq_of_lt (by omega) (by omega)
  unfold cr1_Less.f
  rw [e]
  simp only [u64w]
  (repeat' split) <;> first | (exfalso; omega) | (congr 1; omega)
theorem shr_eq (b : Int) (i : Nat) (hi : i < 64) : shr .u64 b (IntKind.u64.wrap (i : Int)) = b / 2 ^ i := by
  unfold shr
  rw [u64w_in _ (by omega) (by omega)]
  simp [IntKind.bits, Nat.min_eq_left (show i ≤ 64 by omega)]
theorem bit_split (b : Int) (i : Nat) : b % 2 ^ (i + 1) = (b / 2 ^ i % 2) * 2 ^ i + b % 2 ^ i := by
  have h : (2 : Int) ^ (i + 1) = 2 ^ i * 2 := Int.pow_succ _ _
  have hp : (0 : Int) < 2 ^ i := Int.pow_pos (by decide)
  have h1 := Int.emod_add_mul_ediv b (2 ^ i)
  have h2 := Int.emod_add_mul_ediv (b / 2 ^ i) 2
  have h3 := Int.emod_nonneg b (show (2 : Int) ^ i ≠ 0 by omega)
  have h4 := Int.emod_lt_of_pos b hp
  have h5 : (b / 2 ^ i % 2) * 2 ^ i + b % 2 ^ i < 2 ^ (i + 1) := by
    have : b / 2 ^ i % 2 = 0 ∨ b / 2 ^ i % 2 = 1 := by omega
    rcases this with e | e <;> rw [e, h] <;> omega
  have h6 : 0 ≤ (b / 2 ^ i % 2) * 2 ^ i + b % 2 ^ i := by
    have := Int.mul_nonneg (show 0 ≤ b / 2 ^ i % 2 by omega) (show (0 : Int) ≤ 2 ^ i by omega)
    omega
  have h7 : b = (b / 2 ^ i % 2) * 2 ^ i + b % 2 ^ i + 2 ^ (i + 1) * (b / 2 ^ i / 2) := by
    rw [h]
    generalize b / 2 ^ i = q at *
    generalize b % 2 ^ i = r at *
    generalize (2 : Int) ^ i = t at *
    generalize q % 2 = c at *
    generalize q / 2 = e at *
    subst h2
    rw [← h1]
    grind
  conv => lhs; rw [h7, Int.add_mul_emod_self_left]
  exact Int.emod_eq_of_lt h6 h5
theorem times_loop {p : Int} (hp : 0 < p) (hp1 : p < 18446744073709551616) {a b : Int} (ha : 0 ≤ a) (ha1 : a < p) (hb : 0 ≤ b) (hb1 : b < 18446744073709551616) : ∀ (d : Nat) (s : Int), d ≤ 64 → 0 ≤ s → s < p →
    Ev (fun k => cr1_Times.l0 k p a b s ((d : Int) - 1)) ((s * 2 ^ d + (b % 2 ^ d) * a) % p) := by
  intro d
  induction d with
  | zero =>
    intro s _ hs hs1
    refine Ev.step (fun k => by rw [cr1_Times.l0]) ?_
    refine Ev.neg (by omega) (Ev.fix ?_)
    simp [Int.emod_one, Int.emod_eq_of_lt hs hs1]
  | succ d ih =>
    intro s hd hs hs1
    have r1 : 0 ≤ (s + s) % p ∧ (s + s) % p < p := ⟨Int.emod_nonneg _ (by omega), Int.emod_lt_of_pos _ hp⟩
    have r2 : 0 ≤ ((s + s) % p + a) % p ∧ ((s + s) % p + a) % p < p := ⟨Int.emod_nonneg _ (by omega), Int.emod_lt_of_pos _ hp⟩
    have hi : wrap64 (((d + 1 : Nat) : Int) - 1 - 1) = (d : Int) - 1 := by rw [w64_in (by omega) (by omega)]; omega
    have hx : (((d + 1 : Nat) : Int) - 1) = ((d : Nat) : Int) := by omega
    refine Ev.step (fun k => by rw [cr1_Times.l0]) ?_
    refine Ev.pos (by omega) (Ev.bnd (rSum hp hp1 hs hs1 hs hs1) ?_)
    rw [hi, hx, shr_eq b d (by omega)]
    have hbd : 0 ≤ b / 2 ^ d := Int.ediv_nonneg hb (Int.le_of_lt (Int.pow_pos (by decide)))
    have hbd1 : b / 2 ^ d ≤ b := Int.ediv_le_self _ hb
    rw [and1 _ hbd (by omega), bit_split b d]
    have h2 : (2 : Int) ^ (d + 1) = 2 ^ d * 2 := Int.pow_succ _ _
    refine Ev.pos (by rw [u64w]; omega) (Ev.ite (fun c => ?_) (fun c => ?_))
    · refine Ev.bnd (rSum hp hp1 r1.1 r1.2 ha ha1) (Ev.cast (ih _ (by omega) r2.1 r2.2) ?_)
      rw [c, ← emod_add_l ((((s + s) % p + a) % p) * 2 ^ d), emod_mul_l, ← emod_mul_l, emod_add_l (s + s) a p, emod_mul_l, emod_add_l, h2]
      congr 1; grind
    · have c0 : b / 2 ^ d % 2 = 0 := by omega
      refine Ev.cast (ih _ (by omega) r1.1 r1.2) ?_
      rw [c0, ← emod_add_l ((s + s) % p * 2 ^ d), emod_mul_l, emod_add_l, h2]
      congr 1; grind
theorem rTimes {p : Int} (hp : 0 < p) (hp1 : p < 18446744073709551616) {a b : Int} (ha : 0 ≤ a) (ha1 : a < p) (hb : 0 ≤ b) (hb1 : b < 18446744073709551616) : Ev (fun k => cr1_Times.f k p a b) (a * b % p) := by
  have h := times_loop hp hp1 ha ha1 hb hb1 64 0 (by omega) (by omega) hp
  refine Ev.cast h ?_
  rw [Int.emod_eq_of_lt hb (by simpa using hb1)]
  congr 1; grind
theorem power_loop {p : Int} (hp : 0 < p) (hp1 : p < 18446744073709551616) {a n : Int} (ha : 0 ≤ a) (ha1 : a < p) (hn : 0 ≤ n) (hn1 : n < 18446744073709551616) : ∀ (d : Nat) (s : Int), d ≤ 64 → 0 ≤ s → s < p →
    Ev (fun k => cr1_Power.l0 k p a n s ((d : Int) - 1)) ((s ^ (2 ^ d) * a ^ (n % 2 ^ d).toNat) % p) := by
  intro d
  induction d with
  | zero =>
    intro s _ hs hs1
    refine Ev.step (fun k => by rw [cr1_Power.l0]) ?_
    refine Ev.neg (by omega) (Ev.fix ?_)
    rw [show ((2 : Nat) ^ 0) = 1 from rfl, show (2 : Int) ^ 0 = 1 from rfl, Int.emod_one, Int.pow_succ, Int.pow_zero, Int.one_mul]
    simp [Int.emod_eq_of_lt hs hs1]
  | succ d ih =>
    intro s hd hs hs1
    have r1 : 0 ≤ (s * s) % p ∧ (s * s) % p < p := ⟨Int.emod_nonneg _ (by omega), Int.emod_lt_of_pos _ hp⟩
    have r2 : 0 ≤ ((s * s) % p * a) % p ∧ ((s * s) % p * a) % p < p := ⟨Int.emod_nonneg _ (by omega), Int.emod_lt_of_pos _ hp⟩
    have hi : wrap64 (((d + 1 : Nat) : Int) - 1 - 1) = (d : Int) - 1 := by rw [w64_in (by omega) (by omega)]; omega
    have hx : (((d + 1 : Nat) : Int) - 1) = ((d : Nat) : Int) := by omega
    refine Ev.step (fun k => by rw [cr1_Power.l0]) ?_
    refine Ev.pos (by omega) (Ev.bind (rTimes hp hp1 hs hs1 hs (by omega)) ?_)
    rw [hi, hx, shr_eq n d (by omega)]
    have hbd : 0 ≤ n / 2 ^ d := Int.ediv_nonneg hn (Int.le_of_lt (Int.pow_pos (by decide)))
    have hbd1 : n / 2 ^ d ≤ n := Int.ediv_le_self _ hn
    rw [and1 _ hbd (by omega), bit_split n d]
    have h2 : (2 : Nat) ^ (d + 1) = 2 * 2 ^ d := by rw [Nat.pow_succ, Nat.mul_comm]
    have h3 : s ^ (2 ^ (d + 1)) = (s * s) ^ (2 ^ d) := by
      rw [h2, Int.pow_mul]; congr 1; rw [Int.pow_succ, Int.pow_succ]; simp
    have h4 : ((2 : Int) ^ d).toNat = 2 ^ d := by
      have : ((2 : Int) ^ d) = ((2 ^ d : Nat) : Int) := by simp
      rw [this]; rfl
    have h5 : 0 ≤ n % 2 ^ d := Int.emod_nonneg _ (Int.ne_of_gt (Int.pow_pos (by decide)))
    refine Ev.pos (by rw [u64w]; omega) (Ev.ite (fun c => ?_) (fun c => ?_))
    · refine Ev.bind (rTimes hp hp1 r1.1 r1.2 ha (by omega)) (Ev.cast (ih _ (by omega) r2.1 r2.2) ?_)
      have e1 : (1 * 2 ^ d + n % 2 ^ d).toNat = 2 ^ d + (n % 2 ^ d).toNat := by
        rw [Int.one_mul, Int.toNat_add (Int.le_of_lt (Int.pow_pos (by decide))) h5, h4]
      rw [c, e1, h3, emod_mul_l, ← emod_mul_l, emod_pow_l, emod_mul_l, Int.mul_pow, Int.pow_add]
      congr 1; grind
    · have c0 : n / 2 ^ d % 2 = 0 := by omega
      refine Ev.cast (ih _ (by omega) r1.1 r1.2) ?_
      rw [c0, h3, ← emod_mul_l, emod_pow_l, emod_mul_l, Int.zero_mul, Int.zero_add]
theorem rPower {p : Int} (hp : 0 < p) (hp1 : p < 18446744073709551616) {a n : Int} (ha : 0 ≤ a) (ha1 : a < p) (hn : 0 ≤ n) (hn1 : n < 18446744073709551616) : Ev (fun k => cr1_Power.f k p a n) (a ^ n.toNat % p) := by
  unfold cr1_Power.f
  refine Ev.neg (by omega) ?_
  have h := power_loop hp hp1 ha ha1 hn hn1 64 (1 % p) (by omega) (Int.emod_nonneg _ (by omega)) (Int.emod_lt_of_pos _ hp)
  refine Ev.cast h ?_
  rw [Int.emod_eq_of_lt hn (by simpa using hn1), ← emod_mul_l, emod_pow_l, Int.one_pow, emod_mul_l, Int.one_mul]
theorem rTurned {p : Int} (hp : 1 < p) (hp1 : p < 18446744073709551616) {a : Int} (ha : 0 ≤ a) (ha1 : a < p) : Ev (fun k => cr1_Turned.f k p a) (a ^ (p - 2).toNat % p) := by
  unfold cr1_Turned.f
  rw [u64w_in _ (by omega) (by omega)]
  exact Ev.bind (rPower (by omega) hp1 ha ha1 (by omega) (by omega)) (Ev.fix rfl)
theorem rIn_loop (p : Int) (l : List Int) (hl : l.length < 4611686018427387904) : ∀ (d i : Nat), i + d = l.length →
    Ev (fun k => cr1_In.l0 k l p (i : Int)) (allIn p (l.drop i) && p != 0) := by
  intro d
  induction d with
  | zero =>
    intro i hi
    refine Ev.step (fun k => by rw [cr1_In.l0]) ?_
    refine Ev.neg (by omega) (Ev.fix ?_)
    rw [List.drop_eq_nil_of_le (by omega), allIn_nil, Bool.true_and]
  | succ d ih =>
    intro i hi
    have hlt : i < l.length := by omega
    refine Ev.step (fun k => by rw [cr1_In.l0]) ?_
    refine Ev.pos (by omega) (Ev.pos (by omega) ?_)
    rw [drop_rd hlt, allIn_cons]
    refine Ev.ite (fun c => ?_) (fun c => ?_)
    · refine Ev.fix ?_
      rw [decide_eq_false (by omega), Bool.false_and, Bool.false_and]
    · rw [decide_eq_true (by omega), Bool.true_and, w64_succ (by omega)]
      exact ih (i + 1) (by omega)
theorem rIn (f : Int) (l : List Int) (hl : l.length < 4611686018427387904) : Ev (fun k => cr1_In.f k f l) (ok f l) := by
  unfold cr1_In.f
  refine Ev.bnd (rP f) ?_
  have := rIn_loop (P f) l hl l.length 0 (by omega)
  refine Ev.cast this ?_
  unfold ok
  rw [List.drop_zero, Bool.and_comm]
  congr 1
  by_cases h : P f = 0 <;> simp [h]
theorem rSame_loop (a b : List Int) (hl : a.length < 4611686018427387904) (he : a.length = b.length) : ∀ (d i : Nat), i + d = a.length →
    Ev (fun k => cr1_Same.l0 k a b (i : Int)) (decide (a.drop i = b.drop i)) := by
  intro d
  induction d with
  | zero =>
    intro i hi
    refine Ev.step (fun k => by rw [cr1_Same.l0]) ?_
    refine Ev.neg (by omega) (Ev.fix ?_)
    rw [List.drop_eq_nil_of_le (by omega), List.drop_eq_nil_of_le (by omega)]; simp
  | succ d ih =>
    intro i hi
    refine Ev.step (fun k => by rw [cr1_Same.l0]) ?_
    refine Ev.pos (by omega) (Ev.pos (by omega) ?_)
    rw [drop_rd (l := a) (by omega), drop_rd (l := b) (by omega), w64_succ (by omega)]
    have hb : (i : Int) < (b.length : Int) := by omega
    by_cases c : rd a (i : Int) = rd b (i : Int)
    · refine Ev.cast (r := decide (a.drop (i + 1) = b.drop (i + 1))) ?_ (by simp [c])
      simp only [hb, c, if_true]
      exact ih (i + 1) (by omega)
    · refine Ev.cast (r := false) ?_ (by simp [c])
      simp only [hb, c, if_true, if_false]
      exact Ev.fix rfl
theorem rSame (a b : List Int) (hl : a.length < 4611686018427387904) : Ev (fun k => cr1_Same.f k a b) (decide (a = b)) := by
  unfold cr1_Same.f
  by_cases he : a.length = b.length
  · have h := rSame_loop a b hl he a.length 0 (by omega)
    rw [List.drop_zero, List.drop_zero] at h
    have he' : (a.length : Int) = (b.length : Int) := by omega
    simp only [he', if_true]
    exact h
  · refine Ev.cast (r := false) ?_ (by rw [decide_eq_false]; rintro rfl; exact he rfl)
    have he' : ¬ (a.length : Int) = (b.length : Int) := by omega
    simp only [he', if_false]
    exact Ev.fix rfl
end Go.Proofs.Yteofgcmgncaojaa.FEuclidInverts
namespace Go.Proofs.Yteofgcmgncaojaa.FEuclidInverts
open Go.RowKit Go Go.Proofs.YteofgcmgncaojaaW.PrintWords Go.Proofs.YteofgcmgncaojaaW.PrintLast Go.Proofs.YteofgcmgncaojaaW.PrintMore Go.Proofs.Yteofgcmgncaojaa.M Go.Proofs.Yteofgcmgncaojaa.PEuclidInverts
theorem ok_two {f a b : Int} (hp : P f ≠ 0) (ha : a < P f) (hb : b < P f) : ok f [a, b] = true := ok_iff.2 ⟨hp, by simp [ha, hb]⟩
theorem ok_nil {f : Int} : ok f [] = true ↔ P f ≠ 0 := by rw [ok_iff]; simp
theorem mx_nat (a b : Nat) : mx (a : Int) (b : Int) = ((max a b : Nat) : Int) := by unfold mx; split <;> omega
theorem kadd_eq {f a b : Int} (hp : P f ≠ 0) (ha : 0 ≤ a ∧ a < P f) (hb : 0 ≤ b ∧ b < P f) : Ev (fun k => poly_reckoner_add.f k f a b) ((a + b) % P f) := by
  unfold poly_reckoner_add.f
  refine Ev.bind (Add_eq f a b ha.1 hb.1) ?_
  rw [if_pos (ok_two hp ha.2 hb.2)]
  exact Ev.fix rfl
theorem ksub_eq {f a b : Int} (hp : P f ≠ 0) (ha : 0 ≤ a ∧ a < P f) (hb : 0 ≤ b ∧ b < P f) : Ev (fun k => poly_reckoner_sub.f k f a b) ((a - b) % P f) := by
  unfold poly_reckoner_sub.f
  refine Ev.bind (Sub_eq f a b ha.1 hb.1) ?_
  rw [if_pos (ok_two hp ha.2 hb.2)]
  exact Ev.fix rfl
theorem kmul_eq {f a b : Int} (hp : P f ≠ 0) (ha : 0 ≤ a ∧ a < P f) (hb : 0 ≤ b ∧ b < P f) : Ev (fun k => poly_reckoner_mul.f k f a b) (a * b % P f) := by
  unfold poly_reckoner_mul.f
  refine Ev.bind (Mul_eq f a b ha.1 hb.1) ?_
  rw [if_pos (ok_two hp ha.2 hb.2)]
  exact Ev.fix rfl
theorem trimmed_own_loop (l : List Int) (hl : l.length < 4611686018427387904) : ∀ n : Nat, n ≤ l.length → Ev (fun k => poly_trimmed_own.l0 k l (n : Int)) (l.take (tl l n)) := by
  intro n
  induction n with
  | zero =>
    intro _
    refine Ev.step (fun k => by rw [poly_trimmed_own.l0]) ?_
    exact Ev.neg (by omega) (Ev.pos (by omega) (Ev.pos (by omega) (Ev.fix rfl)))
  | succ n ih =>
    intro hn
    have e : wrap64 (((n + 1 : Nat) : Int) - 1) = (n : Int) := by rw [w64_in (by omega) (by omega)]; omega
    refine Ev.step (fun k => by rw [poly_trimmed_own.l0]) ?_
    rw [e]
    refine Ev.pos (by omega) (Ev.pos (by omega) (Ev.pos (by omega) (Ev.ite (fun c => ?_) (fun c => ?_))))
    · rw [tl, if_pos c]; exact ih (by omega)
    · rw [tl, if_neg c]; exact Ev.pos (by omega) (Ev.pos (by omega) (Ev.fix rfl))
theorem trimmed_own_eq (l : List Int) (hl : l.length < 4611686018427387904) : Ev (fun k => poly_trimmed_own.f k l) (trim l) := by
  unfold poly_trimmed_own.f
  exact trimmed_own_loop l hl l.length (Nat.le_refl _)
def bads (f : Int) : List (List Int) → Int → Int
  | [], e => e
  | l :: r, e => if ok f l = true then bads f r (if l.length > 4096 then 4 else e) else 2
theorem rd_L1_lt {L : List (List Int)} {i : Nat} (h : i < L.length) : rd_L1 L (i : Int) = L[i] := by
  unfold rd_L1; rw [Int.toNat_natCast, List.getD_eq_getElem?_getD, List.getElem?_eq_getElem h]; rfl
theorem may_loop (f : Int) (L : List (List Int)) (hL : ∀ l ∈ L, l.length < 4611686018427387904) (hn : L.length < 4611686018427387904) : ∀ (d i : Nat) (e : Int), i + d = L.length →
    Ev (fun k => poly_may.l0 k f e L (L.length : Int) (i : Int)) (bads f (L.drop i) e) := by
  intro d
  induction d with
  | zero =>
    intro i e h
    refine Ev.step (fun k => by rw [poly_may.l0]) ?_
    rw [List.drop_of_length_le (by omega)]
    exact Ev.neg (by omega) (Ev.fix rfl)
  | succ d ih =>
    intro i e h
    have hi : i < L.length := by omega
    refine Ev.step (fun k => by rw [poly_may.l0]) ?_
    rw [rd_L1_lt hi, w64_succ (by omega), List.drop_eq_getElem_cons hi, bads]
    refine Ev.pos (by omega) (Ev.pos (by omega) (Ev.pos (by omega) (Ev.bind (In_eq f _ (hL _ (List.getElem_mem hi))) (Ev.ite (fun c => ?_) (fun c => ?_)))))
    · rw [if_pos c]
      refine Ev.ite (fun q => ?_) (fun q => ?_)
      · rw [if_pos (by omega)]; exact ih (i + 1) 4 (by omega)
      · rw [if_neg (by omega)]; exact ih (i + 1) e (by omega)
    · rw [if_neg c]; exact Ev.fix rfl
theorem may_eq (f : Int) (L : List (List Int)) (hL : ∀ l ∈ L, l.length < 4611686018427387904) (hn : L.length < 4611686018427387904) : Ev (fun k => poly_may.f k f L) (if P f = 0 then 2 else bads f L 0) := by
  unfold poly_may.f
  refine Ev.bind (In_eq f [] (by simp)) (Ev.ite (fun c => ?_) (fun c => ?_))
  · rw [if_neg (ok_nil.1 c)]
    exact may_loop f L hL hn L.length 0 0 (by omega)
  · rw [if_pos (Classical.not_not.1 fun z => c (ok_nil.2 z))]; exact Ev.fix rfl
theorem may2_eq (f : Int) (a b : List Int) (ha : a.length < 4611686018427387904) (hb : b.length < 4611686018427387904) : Ev (fun k => poly_may.f k f [a, b]) (bad f a b) := by
  refine Ev.cast (may_eq f [a, b] (by simp [ha, hb]) (by simp)) ?_
  unfold bad
  by_cases z : P f = 0
  · rw [if_pos z, if_neg (fun c => (ok_iff.1 c.1).1 z)]
  · rw [if_neg z]
    by_cases ca : ok f a = true
    · by_cases cb : ok f b = true
      · simp only [bads, if_pos ca, if_pos cb, if_pos (And.intro ca cb)]
        by_cases la : a.length ≤ 4096
        · by_cases lb : b.length ≤ 4096
          · rw [if_neg (by omega), if_neg (by omega), if_pos ⟨la, lb⟩]
          · rw [if_pos (by omega), if_neg (fun q => lb q.2)]
        · rw [if_neg (show ¬ (a.length ≤ 4096 ∧ b.length ≤ 4096) from fun q => la q.1), if_pos (show a.length > 4096 by omega)]
          split <;> rfl
      · rw [if_neg (fun c => cb c.2)]; simp only [bads, if_pos ca, if_neg cb]
    · rw [if_neg (fun c => ca c.1)]; simp only [bads, if_neg ca]
theorem padded (a b : List Int) : a.take (List.replicate (max a.length b.length) (0 : Int)).length ++ (List.replicate (max a.length b.length) (0 : Int)).drop a.length = pol (max a.length b.length) (cf a) := by
  refine pol_ext (by simp; omega) fun i hi => ?_
  rw [List.take_of_length_le (by simp; omega)]
  unfold cf rd
  rw [Int.toNat_natCast, List.getD_eq_getElem?_getD, List.getD_eq_getElem?_getD]
  by_cases c : i < a.length
  · rw [List.getElem?_append_left c]
  · rw [List.getElem?_append_right (by omega), List.getElem?_eq_none (l := a) (by omega), List.getElem?_drop, List.getElem?_replicate]
    split <;> rfl
theorem put_loop_sub {f : Int} (hp : Pr (P f)) (hp0 : P f ≠ 0) (a b : List Int) (ea : El (P f) a) (eb : El (P f) b) (N : Nat) (hN : N < 17592186044416) : ∀ (d m : Nat), m + d = N →
    Ev (fun k => poly_placed_sub.l0 k b f (pol N fun i => if i < m then (cf a i - cf b i) % P f else cf a i) (N : Int) (m : Int)) (trim (pol N fun i => (cf a i - cf b i) % P f), 0) := by
  have hlo := hp.lo
  intro d
  induction d with
  | zero =>
    intro m h
    refine Ev.step (fun k => by rw [poly_placed_sub.l0]) ?_
    have e : (pol N fun i => if i < m then (cf a i - cf b i) % P f else cf a i) = pol N fun i => (cf a i - cf b i) % P f := pol_congr fun i hi => by rw [if_pos (by omega)]
    rw [e]
    exact Ev.neg (by omega) (Ev.bind (trimmed_own_eq _ (by rw [pol_len]; omega)) (Ev.fix rfl))
  | succ d ih =>
    intro m h
    have hm : m < N := by omega
    have e : (pol N fun i => if i < m then (cf a i - cf b i) % P f else cf a i).set m ((cf a m - cf b m) % P f) = pol N fun i => if i < m + 1 then (cf a i - cf b i) % P f else cf a i := by
      rw [pol_set hm]
      refine pol_congr fun i _ => ?_
      by_cases c : i = m
      · rw [if_pos c, if_pos (by omega), c]
      · rw [if_neg c]
        by_cases q : i < m
        · rw [if_pos q, if_pos (by omega)]
        · rw [if_neg q, if_neg (by omega)]
    have r : rd (pol N fun i => if i < m then (cf a i - cf b i) % P f else cf a i) (m : Int) = cf a m := by
      have := cf_pol (n := N) (g := fun i => if i < m then (cf a i - cf b i) % P f else cf a i) (i := m)
      rw [if_pos hm] at this; unfold cf at this ⊢
      rw [this]; simp
    have go : Ev (fun k => (poly_reckoner_sub.f k f (cf a m) (cf b m)).bind fun t => poly_placed_sub.l0 k b f ((pol N fun i => if i < m then (cf a i - cf b i) % P f else cf a i).set m t) (N : Int) (wrap64 ((m : Int) + 1))) (trim (pol N fun i => (cf a i - cf b i) % P f), 0) := by
      refine Ev.bind (ksub_eq hp0 (cf_el ea (by omega) m) (cf_el eb (by omega) m)) ?_
      rw [e, w64_succ (by omega)]
      exact ih (m + 1) (by omega)
    refine Ev.step (fun k => by rw [poly_placed_sub.l0]) ?_
    simp only [r, pol_len, Int.toNat_natCast]
    refine Ev.pos (by omega) (Ev.ite (fun c => ?_) (fun c => ?_))
    · exact Ev.pos (by omega) (Ev.pos (by omega) go)
    · have z : cf b m = 0 := cf_ge (by omega)
      rw [z] at go
      exact Ev.pos (by omega) (Ev.pos (by omega) go)
theorem PSub_eq (f : Int) (a b : List Int) (wa : Wd a) (wb : Wd b) (ha : a.length < 17592186044416) (hb : b.length < 17592186044416) : Ev (fun k => poly_Sub.f k f a b) (Psub f a b) := by
  unfold poly_Sub.f poly_placed_sub.f
  refine Ev.bind (a := Psub f a b) (Ev.bind (may2_eq f a b (by omega) (by omega)) ?_) (Ev.fix rfl)
  unfold Psub
  refine Ev.ite (fun c => ?_) (fun c => ?_)
  · rw [if_pos c]
    obtain ⟨ka, kb, la, lb⟩ := bad_zero c
    rw [mx_nat]
    simp only [Int.toNat_natCast]
    refine Ev.pos (by omega) (Ev.pos (by omega) (Ev.bnd rfl (Ev.bnd rfl ?_)))
    rw [padded a b, pol_len]
    have h := put_loop_sub (ok_pr ka) (ok_iff.1 ka).1 a b (wa.el (by unfold ok at ka; simp at ka; exact ka.2)) (wb.el (by unfold ok at kb; simp at kb; exact kb.2)) (max a.length b.length) (by omega) (max a.length b.length) 0 (by omega)
    unfold lessP
    simpa using h
  · rw [if_neg c]; exact Ev.fix rfl
end Go.Proofs.Yteofgcmgncaojaa.FEuclidInverts
namespace Go.Proofs.Yteofgcmgncaojaa.FEuclidInverts
open Go.RowKit Go Go.Proofs.YteofgcmgncaojaaW.PrintWords Go.Proofs.YteofgcmgncaojaaW.PrintLast Go.Proofs.YteofgcmgncaojaaW.PrintMore Go.Proofs.Yteofgcmgncaojaa.M Go.Proofs.Yteofgcmgncaojaa.PEuclidInverts
theorem ok_all {f : Int} {l : List Int} (h : ok f l = true) : allIn (P f) l = true := by unfold ok at h; simp at h; exact h.2
theorem rBad (f : Int) (a b : List Int) (ha : a.length < 4611686018427387904) (hb : b.length < 4611686018427387904) : Ev (fun k => cr3_Bad.f k f a b) (bad f a b) := by
  unfold cr3_Bad.f bad
  refine Ev.bind (rIn f a ha) (Ev.ite (fun c => ?_) (fun c => ?_))
  · refine Ev.bind (rIn f b hb) ?_
    refine Ev.step (fun k => by rw [cr3_Bad.j0]) ?_
    by_cases cb : ok f b = true
    · rw [if_pos (And.intro c cb), cb]
      refine Ev.neg (by simp) (Ev.ite (fun q => ?_) (fun q => Ev.ite (fun r => ?_) (fun r => ?_)))
      · rw [if_neg (fun z => by have := z.1; omega)]; exact Ev.fix rfl
      · rw [if_neg (fun z => by have := z.2; omega)]; exact Ev.fix rfl
      · rw [if_pos ⟨by omega, by omega⟩]; exact Ev.fix rfl
    · rw [if_neg (show ¬ (ok f a = true ∧ ok f b = true) from fun z => cb z.2), show ok f b = false by simpa using cb]
      exact Ev.pos rfl (Ev.fix rfl)
  · rw [if_neg (fun z => c z.1)]
    refine Ev.step (fun k => by rw [cr3_Bad.j0]) ?_
    exact Ev.pos rfl (Ev.fix rfl)
theorem rd_pol {n i : Nat} {g : Nat → Int} (h : i < n) : rd (pol n g) (i : Int) = g i := by
  have := cf_pol (n := n) (g := g) (i := i); rw [if_pos h] at this; exact this
theorem prod_inner {f : Int} (hp0 : P f ≠ 0) (a b : List Int) (ea : El (P f) a) (eb : El (P f) b) (N m : Nat) (hm : m < a.length) (hN : N = a.length + b.length - 1) (hs : N < 17592186044416) {R : List Int}
    (hk : Ev (fun k => poly_reckoner_product.l0 k b (pol N (row (P f) a b m b.length)) a (a.length : Int) ((m + 1 : Nat) : Int) f) R) : ∀ (d j : Nat), j + d = b.length →
    Ev (fun k => poly_reckoner_product.l1 k b (pol N (row (P f) a b m j)) (m : Int) (cf a m) a (a.length : Int) (m : Int) b (b.length : Int) (j : Int) f) R := by
  have hp := P_pr hp0
  have hlo := hp.lo; have hhi := hp.hi
  intro d
  induction d with
  | zero =>
    intro j h
    refine Ev.step (fun k => by rw [poly_reckoner_product.l1]) ?_
    have e : j = b.length := by omega
    subst e
    rw [show wrap64 ((m : Int) + 1) = ((m + 1 : Nat) : Int) from w64_succ (by omega)]
    exact Ev.neg (by omega) hk
  | succ d ih =>
    intro j h
    refine Ev.step (fun k => by rw [poly_reckoner_product.l1]) ?_
    rw [show wrap64 ((j : Int) + 1) = ((j + 1 : Nat) : Int) from w64_succ (by omega), show wrap64 ((m : Int) + (j : Int)) = ((m + j : Nat) : Int) by rw [w64_in (by omega) (by omega)]; omega, rd_pol (by omega), show rd b (j : Int) = cf b j from rfl]
    have ra := cf_el ea (by omega) m; have rb := cf_el eb (by omega) j
    refine Ev.pos (by omega) (Ev.pos (by omega) (Ev.pos (by omega) (Ev.pos (by omega) (Ev.pos (by rw [pol_len]; omega) (Ev.bind (kmul_eq hp0 ra rb) (Ev.bind (kadd_eq hp0 (row_rng (by omega) a b m j (m + j)) (emod_rng _ (by omega))) ?_))))))
    rw [Int.toNat_natCast, row_set (by omega)]
    exact ih (j + 1) (by omega)
theorem prod_outer {f : Int} (hp0 : P f ≠ 0) (a b : List Int) (ea : El (P f) a) (eb : El (P f) b) (N : Nat) (hN : N = a.length + b.length - 1) (hs : N < 17592186044416) : ∀ (d m : Nat), m + d = a.length →
    Ev (fun k => poly_reckoner_product.l0 k b (pol N fun n => cv a b m n % P f) a (a.length : Int) (m : Int) f) (pol N fun n => cv a b a.length n % P f) := by
  intro d
  induction d with
  | zero =>
    intro m h
    refine Ev.step (fun k => by rw [poly_reckoner_product.l0]) ?_
    have e : m = a.length := by omega
    subst e
    exact Ev.neg (by omega) (Ev.fix rfl)
  | succ d ih =>
    intro m h
    refine Ev.step (fun k => by rw [poly_reckoner_product.l0]) ?_
    refine Ev.pos (by omega) (Ev.pos (by omega) (Ev.pos (by omega) ?_))
    have e : (pol N fun n => cv a b m n % P f) = pol N (row (P f) a b m 0) := pol_congr fun n _ => (row_zero _ a b m n).symm
    have e2 : pol N (row (P f) a b m b.length) = pol N fun n => cv a b (m + 1) n % P f := pol_congr fun n _ => row_last _ a b m n
    rw [e]
    refine prod_inner hp0 a b ea eb N m (by omega) hN hs ?_ b.length 0 (Nat.zero_add _)
    rw [e2]
    exact ih (m + 1) (by omega)
theorem product_eq {f : Int} (hp0 : P f ≠ 0) (a b : List Int) (ea : El (P f) a) (eb : El (P f) b) (ha : a.length < 4398046511104) (hb : b.length < 4398046511104) : Ev (fun k => poly_reckoner_product.f k f a b) (mulP (P f) a b) := by
  unfold poly_reckoner_product.f mulP
  refine Ev.ite (fun c => ?_) (fun c => ?_)
  · refine Ev.step (fun k => by rw [poly_reckoner_product.j0]) ?_
    rw [if_pos (.inl (List.length_eq_zero_iff.1 (by omega)))]
    exact Ev.pos rfl (Ev.fix rfl)
  · refine Ev.step (fun k => by rw [poly_reckoner_product.j0]) ?_
    refine Ev.ite (fun q => ?_) (fun q => ?_)
    · rw [if_pos (.inr (List.length_eq_zero_iff.1 (by have := beq_iff_eq.1 q; omega)))]
      exact Ev.fix rfl
    · have hb0 : 0 < b.length := Nat.pos_of_ne_zero fun z => q (by simp [z])
      rw [if_neg (fun z => by rcases z with z | z <;> simp [z] at c hb0)]
      have e : wrap64 (wrap64 ((a.length : Int) + (b.length : Int)) - 1) = ((a.length + b.length - 1 : Nat) : Int) := by rw [w64_in (i := (a.length : Int) + b.length) (by omega) (by omega), w64_in (by omega) (by omega)]; omega
      rw [e, Int.toNat_natCast, pol_zero]
      refine Ev.pos (by omega) (Ev.pos (by omega) ?_)
      have h := prod_outer hp0 a b ea eb (a.length + b.length - 1) rfl (by omega) a.length 0 (Nat.zero_add _)
      simpa [cv] using h
theorem PMul_eq (f : Int) (a b : List Int) (wa : Wd a) (wb : Wd b) (ha : a.length < 17592186044416) (hb : b.length < 17592186044416) : Ev (fun k => poly_Mul.f k f a b) (Pmul f a b) := by
  unfold poly_Mul.f Pmul
  refine Ev.bind (may2_eq f a b (by omega) (by omega)) (Ev.ite (fun c => ?_) (fun c => ?_))
  · rw [if_pos c]
    obtain ⟨ka, kb, la, lb⟩ := bad_zero c
    have ta := trim_le a; have tb := trim_le b
    have ea := trim_el (wa.el (ok_all ka)); have eb := trim_el (wb.el (ok_all kb))
    have pr := product_eq (ok_iff.1 ka).1 (trim a) (trim b) ea eb (by omega) (by omega)
    refine Ev.bind (trimmed_eq a (by omega)) (Ev.bind (trimmed_eq b (by omega)) ?_)
    have nil : ∀ l : List Int, (¬ (l.length : Int) > 0) → l = [] := fun l q => List.length_eq_zero_iff.1 (by omega)
    refine Ev.ite (fun q => Ev.ite (fun r => ?_) (fun r => ?_)) (fun q => ?_)
    · rw [if_neg (fun z => by rcases z with z | z <;> simp [z] at q r)]
      have e : wrap64 (wrap64 (((trim a).length : Int) + ((trim b).length : Int)) - 1) = (((trim a).length + (trim b).length - 1 : Nat) : Int) := by rw [w64_in (i := ((trim a).length : Int) + (trim b).length) (by omega) (by omega), w64_in (by omega) (by omega)]; omega
      rw [e]
      refine Ev.ite (fun s => ?_) (fun s => ?_)
      · rw [if_pos (by omega)]; exact Ev.fix rfl
      · rw [if_neg (by omega)]; exact Ev.bind pr (Ev.fix rfl)
    · have z : trim a = [] ∨ trim b = [] := .inr (nil _ r)
      rw [if_pos z]
      refine Ev.bind pr (Ev.fix ?_)
      unfold mulP; rw [if_pos z]
    · have z : trim a = [] ∨ trim b = [] := .inl (nil _ q)
      rw [if_pos z]
      refine Ev.bind pr (Ev.fix ?_)
      unfold mulP; rw [if_pos z]
  · rw [if_neg c]; exact Ev.fix rfl
theorem rprod_inner {f : Int} (hp0 : P f ≠ 0) (a b : List Int) (ea : El (P f) a) (eb : El (P f) b) (N m : Nat) (hm : m < a.length) (hN : N = a.length + b.length - 1) (hs : N < 17592186044416) {R : List Int × Int}
    (hk : Ev (fun k => cr3_Mul.l0 k f a b (pol N (row (P f) a b m b.length)) ((m + 1 : Nat) : Int)) R) : ∀ (d j : Nat), j + d = b.length →
    Ev (fun k => cr3_Mul.l1 k f a b (pol N (row (P f) a b m j)) (m : Int) (j : Int)) R := by
  have hp := P_pr hp0
  have hlo := hp.lo; have hhi := hp.hi
  intro d
  induction d with
  | zero =>
    intro j h
    refine Ev.step (fun k => by rw [cr3_Mul.l1]) ?_
    have e : j = b.length := by omega
    subst e
    rw [show wrap64 ((m : Int) + 1) = ((m + 1 : Nat) : Int) from w64_succ (by omega)]
    exact Ev.neg (by omega) hk
  | succ d ih =>
    intro j h
    refine Ev.step (fun k => by rw [cr3_Mul.l1]) ?_
    rw [show wrap64 ((j : Int) + 1) = ((j + 1 : Nat) : Int) from w64_succ (by omega), show wrap64 ((m : Int) + (j : Int)) = ((m + j : Nat) : Int) by rw [w64_in (by omega) (by omega)]; omega, rd_pol (by omega), show rd b (j : Int) = cf b j from rfl, show rd a (m : Int) = cf a m from rfl]
    have ra := cf_el ea (by omega) m; have rb := cf_el eb (by omega) j
    have rr := row_rng (p := P f) (by omega) a b m j (m + j)
    have rt := emod_rng (p := P f) (cf a m * cf b j) (by omega)
    refine Ev.pos (by omega) (Ev.bnd (rP f) (Ev.pos (by omega) (Ev.pos (by rw [pol_len]; omega) (Ev.bnd (rP f) (Ev.pos (by omega) (Ev.pos (by omega) (Ev.pos (by omega) (Ev.bind (rTimes (by omega) (by omega) ra.1 ra.2 rb.1 (by omega)) (Ev.bnd (rSum (by omega) (by omega) rr.1 rr.2 rt.1 rt.2) ?_)))))))))
    rw [Int.toNat_natCast, row_set (by omega)]
    exact ih (j + 1) (by omega)
theorem rprod_outer {f : Int} (hp0 : P f ≠ 0) (a b : List Int) (ea : El (P f) a) (eb : El (P f) b) (N : Nat) (hN : N = a.length + b.length - 1) (hs : N < 17592186044416) : ∀ (d m : Nat), m + d = a.length →
    Ev (fun k => cr3_Mul.l0 k f a b (pol N fun n => cv a b m n % P f) (m : Int)) (trim (pol N fun n => cv a b a.length n % P f), 0) := by
  intro d
  induction d with
  | zero =>
    intro m h
    refine Ev.step (fun k => by rw [cr3_Mul.l0]) ?_
    have e : m = a.length := by omega
    subst e
    exact Ev.neg (by omega) (Ev.bind (rTrim _ (by rw [pol_len]; exact hs)) (Ev.fix rfl))
  | succ d ih =>
    intro m h
    refine Ev.step (fun k => by rw [cr3_Mul.l0]) ?_
    refine Ev.pos (by omega) ?_
    have e : (pol N fun n => cv a b m n % P f) = pol N (row (P f) a b m 0) := pol_congr fun n _ => (row_zero _ a b m n).symm
    have e2 : pol N (row (P f) a b m b.length) = pol N fun n => cv a b (m + 1) n % P f := pol_congr fun n _ => row_last _ a b m n
    rw [e]
    refine rprod_inner hp0 a b ea eb N m (by omega) hN hs ?_ b.length 0 (Nat.zero_add _)
    rw [e2]
    exact ih (m + 1) (by omega)
theorem rPMul (f : Int) (a b : List Int) (wa : Wd a) (wb : Wd b) (ha : a.length < 17592186044416) (hb : b.length < 17592186044416) : Ev (fun k => cr3_Mul.f k f a b) (Pmul f a b) := by
  unfold cr3_Mul.f Pmul
  refine Ev.bind (rBad f a b (by omega) (by omega)) (Ev.ite (fun c => ?_) (fun c => ?_))
  · rw [if_pos c]
    obtain ⟨ka, kb, la, lb⟩ := bad_zero c
    have ta := trim_le a; have tb := trim_le b
    have ea := trim_el (wa.el (ok_all ka)); have eb := trim_el (wb.el (ok_all kb))
    refine Ev.bind (rTrim a ha) (Ev.bind (rTrim b hb) ?_)
    refine Ev.ite (fun q => ?_) (fun q => ?_)
    · rw [if_pos (.inl (List.length_eq_zero_iff.1 (by omega)))]
      refine Ev.step (fun k => by rw [cr3_Mul.j0]) ?_
      exact Ev.pos rfl (Ev.fix rfl)
    · refine Ev.step (fun k => by rw [cr3_Mul.j0]) ?_
      refine Ev.ite (fun r => ?_) (fun r => ?_)
      · rw [if_pos (.inr (List.length_eq_zero_iff.1 (by have := beq_iff_eq.1 r; omega)))]
        exact Ev.fix rfl
      · have hb0 : 0 < (trim b).length := Nat.pos_of_ne_zero fun z => r (by simp [z])
        have hn : ¬ (trim a = [] ∨ trim b = []) := fun z => by rcases z with z | z <;> simp [z] at q hb0
        rw [if_neg hn]
        have e : wrap64 (wrap64 (((trim a).length : Int) + ((trim b).length : Int)) - 1) = (((trim a).length + (trim b).length - 1 : Nat) : Int) := by rw [w64_in (i := ((trim a).length : Int) + (trim b).length) (by omega) (by omega), w64_in (by omega) (by omega)]; omega
        rw [e]
        refine Ev.ite (fun s => ?_) (fun s => ?_)
        · rw [if_pos (by omega)]; exact Ev.fix rfl
        · rw [if_neg (by omega), Int.toNat_natCast, pol_zero]
          refine Ev.pos (by omega) (Ev.pos (by omega) ?_)
          have h := rprod_outer (ok_iff.1 ka).1 (trim a) (trim b) ea eb ((trim a).length + (trim b).length - 1) rfl (by omega) (trim a).length 0 (Nat.zero_add _)
          have t := mulP_top (ok_pr ka) (trim_trim a) (trim_trim b) ea eb
          have d : mulP (P f) (trim a) (trim b) = pol ((trim a).length + (trim b).length - 1) fun n => cv (trim a) (trim b) (trim a).length n % P f := by unfold mulP; rw [if_neg hn]
          rw [← d, t] at h
          simpa [cv] using h
  · rw [if_neg c]; exact Ev.fix rfl
end Go.Proofs.Yteofgcmgncaojaa.FEuclidInverts
namespace Go.Proofs.Yteofgcmgncaojaa.FEuclidInverts
open Go.RowKit Go Go.Proofs.YteofgcmgncaojaaW.PrintWords Go.Proofs.YteofgcmgncaojaaW.PrintLast Go.Proofs.YteofgcmgncaojaaW.PrintMore Go.Proofs.Yteofgcmgncaojaa.M Go.Proofs.Yteofgcmgncaojaa.PEuclidInverts
def rowR (p c : Int) (d : Nat) (q r : List Int) (j i : Nat) : Int := if d ≤ i ∧ i < d + j then (cf r i - c * cf q (i - d)) % p else cf r i
theorem rowR_zero (p c : Int) (d : Nat) (q r : List Int) : pol r.length (rowR p c d q r 0) = r :=
  (pol_ext rfl fun i _ => by unfold rowR; rw [if_neg (by omega)]).symm
theorem rowR_last (p c : Int) (d : Nat) (q r : List Int) (h : r.length = d + q.length) : trim (pol r.length (rowR p c d q r q.length)) = stepR p c d q r := by
  unfold stepR
  congr 1
  refine pol_congr fun i hi => ?_
  unfold rowR
  by_cases c : d ≤ i
  · rw [if_pos ⟨c, by omega⟩, if_pos c]
  · rw [if_neg (fun z => c z.1), if_neg c]
theorem rowR_set {p c : Int} {d : Nat} {q r : List Int} {j : Nat} (h : d + j < r.length) : (pol r.length (rowR p c d q r j)).set (d + j) ((rowR p c d q r j (d + j) - c * cf q j % p) % p) = pol r.length (rowR p c d q r (j + 1)) := by
  rw [pol_set h]
  refine pol_congr fun i _ => ?_
  by_cases e : i = d + j
  · subst e
    unfold rowR
    rw [if_pos rfl, if_neg (by omega), if_pos (by omega), show d + j - d = j by omega, emod_sub_r]
  · rw [if_neg e]
    unfold rowR
    by_cases q : d ≤ i ∧ i < d + j
    · rw [if_pos q, if_pos ⟨q.1, by omega⟩]
    · rw [if_neg q, if_neg (by omega)]
theorem rowR_rng {p c : Int} (hp : 0 < p) {d : Nat} {q r : List Int} (hr : El p r) (j i : Nat) : 0 ≤ rowR p c d q r j i ∧ rowR p c d q r j i < p := by
  unfold rowR; split
  · exact ⟨Int.emod_nonneg _ (by omega), Int.emod_lt_of_pos _ hp⟩
  · exact cf_el hr hp i
theorem dm_stop {p top : Int} {q : List Int} {n : Nat} {g : Nat → Int} {r : List Int} (h : r.length < q.length) : dm p top q n g r = (g, r) := by
  cases n with
  | zero => rfl
  | succ n => rw [dm, if_pos h]
theorem quot_inv {f b : Int} (hp : P f ≠ 0) (hb : 0 ≤ b ∧ b < P f) (h0 : b ≠ 0) : quot f 1 b = (inv (P f) b, 0) := by
  have h := P_pr hp
  have hlo := h.lo
  unfold quot
  rw [if_pos (ok_two hp (by omega) hb.2), if_neg h0, Int.one_mul, Int.emod_emod]; rfl
theorem bad_el {f : Int} {a b : List Int} (wa : Wd a) (wb : Wd b) (h : bad f a b = 0) : Pr (P f) ∧ P f ≠ 0 ∧ El (P f) a ∧ El (P f) b ∧ a.length ≤ 4096 ∧ b.length ≤ 4096 := by
  obtain ⟨ka, kb, la, lb⟩ := bad_zero h
  exact ⟨ok_pr ka, (ok_iff.1 ka).1, wa.el (ok_all ka), wb.el (ok_all kb), la, lb⟩
theorem divm_inner {f : Int} (hp0 : P f ≠ 0) {c top : Int} (hc : 0 ≤ c ∧ c < P f) {d : Nat} {q r quo : List Int} (hq : El (P f) q) (hr : El (P f) r) (hl : r.length = d + q.length) (hs : r.length < 17592186044416) {R : List Int × List Int × Int}
    (hk : Ev (fun k => poly_DivMod.l0 k q quo (pol r.length (rowR (P f) c d q r q.length)) top f) R) : ∀ (n j : Nat), j + n = q.length →
    Ev (fun k => poly_DivMod.l1 k q quo (pol r.length (rowR (P f) c d q r j)) top (d : Int) c q (q.length : Int) (j : Int) f) R := by
  have hp := P_pr hp0
  have hlo := hp.lo; have hhi := hp.hi
  intro n
  induction n with
  | zero =>
    intro j h
    refine Ev.step (fun k => by rw [poly_DivMod.l1]) ?_
    have e : j = q.length := by omega
    subst e
    exact Ev.neg (by omega) hk
  | succ n ih =>
    intro j h
    refine Ev.step (fun k => by rw [poly_DivMod.l1]) ?_
    rw [show wrap64 ((j : Int) + 1) = ((j + 1 : Nat) : Int) from w64_succ (by omega), show wrap64 ((d : Int) + (j : Int)) = ((d + j : Nat) : Int) by rw [w64_in (by omega) (by omega)]; omega, rd_pol (by omega), show rd q (j : Int) = cf q j from rfl]
    have rb := cf_el hq (by omega) j
    refine Ev.pos (by omega) (Ev.pos (by omega) (Ev.pos (by omega) (Ev.pos (by omega) (Ev.pos (by rw [pol_len]; omega) (Ev.bind (kmul_eq hp0 hc rb) (Ev.bind (ksub_eq hp0 (rowR_rng (by omega) hr j (d + j)) (emod_rng _ (by omega))) ?_))))))
    rw [Int.toNat_natCast, rowR_set (by omega)]
    exact ih (j + 1) (by omega)
theorem divm_loop {f : Int} (hp0 : P f ≠ 0) {top : Int} (ht0 : 0 ≤ top ∧ top < P f) {q : List Int} (hq : Cn (P f) q) (hq0 : q ≠ []) (ht : cf q (q.length - 1) * top % P f = 1) (hql : q.length < 17592186044416) (N : Nat) (hN : N < 17592186044416) : ∀ (n : Nat) (g : Nat → Int) (x r : List Int), trim x = r → El (P f) x → x.length < 17592186044416 → r.length ≤ n → r.length < N + q.length →
    Ev (fun k => poly_DivMod.l0 k q (pol N g) x top f) (trim (pol N (dm (P f) top q n g r).1), (dm (P f) top q n g r).2, 0) := by
  have hp := P_pr hp0
  have hlo := hp.lo
  have q0 : q.length ≠ 0 := fun e => hq0 (List.length_eq_zero_iff.1 e)
  have stop : ∀ (n : Nat) (g : Nat → Int) (x r : List Int), trim x = r → x.length < 17592186044416 → r.length < N + q.length → r.length < q.length →
      Ev (fun k => poly_DivMod.l0 k q (pol N g) x top f) (trim (pol N (dm (P f) top q n g r).1), (dm (P f) top q n g r).2, 0) := by
    intro n g x r e hx hr hc
    refine Ev.step (fun k => by rw [poly_DivMod.l0]) ?_
    refine Ev.bind (trimmed_own_eq x (by omega)) ?_
    rw [e, dm_stop hc]
    have : q.length < N + q.length ∨ N = 0 := by omega
    refine Ev.pos ?_ (Ev.bind (trimmed_own_eq _ (by rw [pol_len]; omega)) (Ev.fix rfl))
    unfold wrap64; have := trim_le x; rw [e] at this; omega
  intro n
  induction n with
  | zero =>
    intro g x r e ex hx hn hN
    exact stop 0 g x r e hx hN (by omega)
  | succ n ih =>
    intro g x r e ex hx hn hN
    by_cases hc : r.length < q.length
    · exact stop (n + 1) g x r e hx hN hc
    · have hr : Cn (P f) r := by rw [← e]; exact Cn.trim ex
      have hl := trim_le x
      rw [e] at hl
      refine Ev.step (fun k => by rw [poly_DivMod.l0]) ?_
      refine Ev.bind (trimmed_own_eq x (by omega)) ?_
      rw [e, dm, if_neg hc]
      rw [show wrap64 ((r.length : Int) - (q.length : Int)) = ((r.length - q.length : Nat) : Int) by rw [w64_in (by omega) (by omega)]; omega, show wrap64 ((r.length : Int) - 1) = ((r.length - 1 : Nat) : Int) by rw [w64_in (by omega) (by omega)]; omega, show rd r ((r.length - 1 : Nat) : Int) = cf r (r.length - 1) from rfl]
      have hc2 := emod_rng (p := P f) (cf r (r.length - 1) * top) (by omega)
      refine Ev.neg (by omega) (Ev.pos (by omega) (Ev.pos (by omega) (Ev.bind (kmul_eq hp0 (cf_el hr.el (by omega) _) ht0) (Ev.pos (by omega) (Ev.pos (by rw [pol_len]; omega) ?_)))))
      rw [Int.toNat_natCast, pol_set (by omega)]
      have e2 := rowR_zero (P f) (cf r (r.length - 1) * top % P f) (r.length - q.length) q r
      have k2 := rowR_last (P f) (cf r (r.length - 1) * top % P f) (r.length - q.length) q r (by omega)
      have hlt := stepR_len hp hq0 hr (by omega) ht
      have h := divm_inner hp0 (top := top) (quo := pol N fun i => if i = r.length - q.length then cf r (r.length - 1) * top % P f else g i) hc2 (d := r.length - q.length) hq.el hr.el (by omega) (by omega)
        (ih _ _ _ k2 (pol_el fun i _ => rowR_rng (by omega) hr.el _ i) (by rw [pol_len]; omega) (by omega) (by omega)) q.length 0 (Nat.zero_add _)
      rw [e2] at h
      exact h
theorem PDivMod_eq (f : Int) (a b : List Int) (wa : Wd a) (wb : Wd b) (ha : a.length < 17592186044416) (hb : b.length < 17592186044416) : Ev (fun k => poly_DivMod.f k f a b) (Pdm f a b) := by
  unfold poly_DivMod.f Pdm
  refine Ev.bind (may2_eq f a b (by omega) (by omega)) (Ev.ite (fun c => ?_) (fun c => ?_))
  · rw [if_pos c]
    obtain ⟨hp, hp0, ea, eb, la, lb⟩ := bad_el wa wb c
    have hlo := hp.lo
    have ta := trim_le a; have tb := trim_le b
    refine Ev.bind (trimmed_eq b (by omega)) (Ev.ite (fun z => ?_) (fun z => ?_))
    · rw [if_pos (List.length_eq_zero_iff.1 (by omega))]; exact Ev.fix rfl
    · have hb0 : trim b ≠ [] := fun e => z (by rw [e]; rfl)
      have cb := Cn.trim (p := P f) eb
      have ca := Cn.trim (p := P f) ea
      rw [if_neg hb0, show wrap64 (((trim b).length : Int) - 1) = (((trim b).length - 1 : Nat) : Int) by rw [w64_in (by omega) (by omega)]; omega, show rd (trim b) (((trim b).length - 1 : Nat) : Int) = cf (trim b) ((trim b).length - 1) from rfl]
      have rb := cf_el cb.el (p := P f) (by omega) ((trim b).length - 1)
      have hi := Inv_eq f (cf (trim b) ((trim b).length - 1)) rb.1
      rw [quot_inv hp0 rb (cb.top hb0)] at hi
      have rg := inv_rng hp (cf (trim b) ((trim b).length - 1))
      refine Ev.pos (by omega) (Ev.pos (by omega) (Ev.bind hi (Ev.pos rfl (Ev.bind (Trim_eq a ha) ?_))))
      obtain ⟨N, hN⟩ : ∃ N : Nat, N = max 0 ((trim a).length + 1 - (trim b).length) := ⟨_, rfl⟩
      have e : mx 0 (wrap64 (wrap64 (((trim a).length : Int) - ((trim b).length : Int)) + 1)) = (N : Int) := by
        rw [w64_in (i := ((trim a).length : Int) - ((trim b).length : Int)) (by omega) (by omega), w64_in (by omega) (by omega)]
        unfold mx; split <;> omega
      rw [e, Int.toNat_natCast, pol_zero]
      refine Ev.pos (by omega) (Ev.pos (by omega) ?_)
      refine Ev.cast (divm_loop hp0 rg cb hb0 (top_inv hp cb hb0) (by omega) N (by omega) (trim a).length (fun _ => 0) (trim a) (trim a) (trim_trim a) ca.el (by omega) (Nat.le_refl _) (by omega)) ?_
      obtain ⟨_, _, a3, _, _⟩ := dmP_inv hp ca cb hb0
      unfold dmP
      refine Prod.ext ?_ rfl
      refine trim_ext fun i => ?_
      rw [cf_pol, cf_pol]
      by_cases q : i < N
      · rw [if_pos q, if_pos (by omega)]
      · rw [if_neg q]; split
        · exact (a3 i (by omega)).symm
        · rfl
  · rw [if_neg c]; exact Ev.fix rfl
theorem rdivm_inner {f : Int} (hp0 : P f ≠ 0) {c top : Int} (hc : 0 ≤ c ∧ c < P f) {d : Nat} {q r quo : List Int} (hq : El (P f) q) (hr : El (P f) r) (hl : r.length = d + q.length) (hs : r.length < 17592186044416) {R : List Int × List Int × Int}
    (hk : Ev (fun k => cr3_DivMod.l0 k f q (trim (pol r.length (rowR (P f) c d q r q.length))) top quo) R) : ∀ (n j : Nat), j + n = q.length →
    Ev (fun k => cr3_DivMod.l1 k f q (pol r.length (rowR (P f) c d q r j)) top quo (d : Int) c (j : Int)) R := by
  have hp := P_pr hp0
  have hlo := hp.lo; have hhi := hp.hi
  intro n
  induction n with
  | zero =>
    intro j h
    refine Ev.step (fun k => by rw [cr3_DivMod.l1]) ?_
    have e : j = q.length := by omega
    subst e
    exact Ev.neg (by omega) (Ev.bind (rTrim _ (by rw [pol_len]; omega)) hk)
  | succ n ih =>
    intro j h
    refine Ev.step (fun k => by rw [cr3_DivMod.l1]) ?_
    rw [show wrap64 ((j : Int) + 1) = ((j + 1 : Nat) : Int) from w64_succ (by omega), show wrap64 ((d : Int) + (j : Int)) = ((d + j : Nat) : Int) by rw [w64_in (by omega) (by omega)]; omega, rd_pol (by omega), show rd q (j : Int) = cf q j from rfl]
    have rb := cf_el hq (by omega) j
    have rr := rowR_rng (c := c) (d := d) (q := q) (show 0 < P f by omega) hr j (d + j)
    have rt := emod_rng (p := P f) (c * cf q j) (by omega)
    refine Ev.pos (by omega) (Ev.bnd (rP f) (Ev.pos (by omega) (Ev.pos (by rw [pol_len]; omega) (Ev.bnd (rP f) (Ev.pos (by omega) (Ev.bind (rTimes (by omega) (by omega) hc.1 hc.2 rb.1 (by omega)) (Ev.bnd (rLess (by omega) (by omega) rr.1 rr.2 rt.1 rt.2) ?_)))))))
    rw [Int.toNat_natCast, rowR_set (by omega)]
    exact ih (j + 1) (by omega)
theorem rdivm_loop {f : Int} (hp0 : P f ≠ 0) {top : Int} (ht0 : 0 ≤ top ∧ top < P f) {q : List Int} (hq : Cn (P f) q) (hq0 : q ≠ []) (ht : cf q (q.length - 1) * top % P f = 1) (N : Nat) (hN : N < 17592186044416) : ∀ (n : Nat) (g : Nat → Int) (r : List Int), Cn (P f) r → r.length < 17592186044416 → r.length ≤ n → r.length < N + q.length →
    Ev (fun k => cr3_DivMod.l0 k f q r top (pol N g)) (trim (pol N (dm (P f) top q n g r).1), (dm (P f) top q n g r).2, 0) := by
  have hp := P_pr hp0
  have hlo := hp.lo; have hhi := hp.hi
  have q0 : q.length ≠ 0 := fun e => hq0 (List.length_eq_zero_iff.1 e)
  have stop : ∀ (n : Nat) (g : Nat → Int) (r : List Int), r.length < q.length →
      Ev (fun k => cr3_DivMod.l0 k f q r top (pol N g)) (trim (pol N (dm (P f) top q n g r).1), (dm (P f) top q n g r).2, 0) := by
    intro n g r hc
    refine Ev.step (fun k => by rw [cr3_DivMod.l0]) ?_
    rw [dm_stop hc]
    exact Ev.neg (by omega) (Ev.bind (rTrim _ (by rw [pol_len]; exact hN)) (Ev.fix rfl))
  intro n
  induction n with
  | zero =>
    intro g r hr hx hn hN
    exact stop 0 g r (by omega)
  | succ n ih =>
    intro g r hr hx hn hN
    by_cases hc : r.length < q.length
    · exact stop (n + 1) g r hc
    · refine Ev.step (fun k => by rw [cr3_DivMod.l0]) ?_
      rw [dm, if_neg hc]
      rw [show wrap64 ((r.length : Int) - (q.length : Int)) = ((r.length - q.length : Nat) : Int) by rw [w64_in (by omega) (by omega)]; omega, show wrap64 ((r.length : Int) - 1) = ((r.length - 1 : Nat) : Int) by rw [w64_in (by omega) (by omega)]; omega, show rd r ((r.length - 1 : Nat) : Int) = cf r (r.length - 1) from rfl]
      have rr := cf_el hr.el (p := P f) (by omega) (r.length - 1)
      have hc2 := emod_rng (p := P f) (cf r (r.length - 1) * top) (by omega)
      refine Ev.pos (by omega) (Ev.bnd (rP f) (Ev.pos (by omega) (Ev.pos (by omega) (Ev.bind (rTimes (by omega) (by omega) rr.1 rr.2 ht0.1 (by omega)) (Ev.pos (by omega) (Ev.pos (by rw [pol_len]; omega) ?_))))))
      rw [Int.toNat_natCast, pol_set (by omega)]
      have e2 := rowR_zero (P f) (cf r (r.length - 1) * top % P f) (r.length - q.length) q r
      have k2 := rowR_last (P f) (cf r (r.length - 1) * top % P f) (r.length - q.length) q r (by omega)
      have hlt := stepR_len hp hq0 hr (by omega) ht
      have h := rdivm_inner hp0 (top := top) (quo := pol N fun i => if i = r.length - q.length then cf r (r.length - 1) * top % P f else g i) hc2 (d := r.length - q.length) hq.el hr.el (by omega) (by omega)
        (by rw [k2]; exact ih _ _ (stepR_cn (by omega) _ _ q hr) (by omega) (by omega) (by omega)) q.length 0 (Nat.zero_add _)
      rw [e2] at h
      exact h
theorem rPDivMod (f : Int) (a b : List Int) (wa : Wd a) (wb : Wd b) (ha : a.length < 17592186044416) (hb : b.length < 17592186044416) : Ev (fun k => cr3_DivMod.f k f a b) (Pdm f a b) := by
  unfold cr3_DivMod.f Pdm
  refine Ev.bind (rBad f a b (by omega) (by omega)) (Ev.ite (fun c => ?_) (fun c => ?_))
  · rw [if_pos c]
    obtain ⟨hp, hp0, ea, eb, la, lb⟩ := bad_el wa wb c
    have hlo := hp.lo; have hhi := hp.hi
    have ta := trim_le a; have tb := trim_le b
    refine Ev.bind (rTrim a ha) (Ev.bind (rTrim b hb) (Ev.ite (fun z => ?_) (fun z => ?_)))
    · rw [if_pos (List.length_eq_zero_iff.1 (by omega))]; exact Ev.fix rfl
    · have hb0 : trim b ≠ [] := fun e => z (by rw [e]; rfl)
      have cb := Cn.trim (p := P f) eb
      have ca := Cn.trim (p := P f) ea
      rw [if_neg hb0, show wrap64 (((trim b).length : Int) - 1) = (((trim b).length - 1 : Nat) : Int) by rw [w64_in (by omega) (by omega)]; omega, show rd (trim b) (((trim b).length - 1 : Nat) : Int) = cf (trim b) ((trim b).length - 1) from rfl, show wrap64 (((trim a).length : Int) + 1) = (((trim a).length + 1 : Nat) : Int) from w64_succ (by omega)]
      have rb := cf_el cb.el (p := P f) (by omega) ((trim b).length - 1)
      have rg := inv_rng hp (cf (trim b) ((trim b).length - 1))
      rw [Int.toNat_natCast, pol_zero]
      refine Ev.bnd (rP f) (Ev.pos (by omega) (Ev.pos (by omega) (Ev.bind (rTurned (by omega) (by omega) rb.1 rb.2) (Ev.pos (by omega) (Ev.pos (by omega) ?_)))))
      exact rdivm_loop hp0 rg cb hb0 (top_inv hp cb hb0) ((trim a).length + 1) (by omega) (trim a).length (fun _ => 0) (trim a) ca (by omega) (Nat.le_refl _) (by omega)
  · rw [if_neg c]; exact Ev.fix rfl
end Go.Proofs.Yteofgcmgncaojaa.FEuclidInverts
namespace Go.Proofs.Yteofgcmgncaojaa.FEuclidInverts
open Go.RowKit Go Go.Proofs.YteofgcmgncaojaaW.PrintWords Go.Proofs.YteofgcmgncaojaaW.PrintLast Go.Proofs.YteofgcmgncaojaaW.PrintMore Go.Proofs.Yteofgcmgncaojaa.M Go.Proofs.Yteofgcmgncaojaa.PEuclidInverts
theorem kscale_eq {f a c : Int} (b : Int) (hp : P f ≠ 0) (ha : 0 ≤ a ∧ a < P f) (hc : 0 ≤ c ∧ c < P f) : Ev (fun k => poly_Scale_1.f k a b f c) (a * c % P f) := by
  unfold poly_Scale_1.f
  exact Ev.bind (kmul_eq hp ha hc) (Ev.fix rfl)
theorem put_loop_scale {f c : Int} (hp : Pr (P f)) (hp0 : P f ≠ 0) (hc : 0 ≤ c ∧ c < P f) (a : List Int) (ea : El (P f) a) (N : Nat) (hN : N < 17592186044416) : ∀ (d m : Nat), m + d = N →
    Ev (fun k => poly_placed_Scale_1.l0 k f [] c (pol N fun i => if i < m then cf a i * c % P f else cf a i) (N : Int) (m : Int)) (trim (pol N fun i => cf a i * c % P f), 0) := by
  have hlo := hp.lo
  intro d
  induction d with
  | zero =>
    intro m h
    refine Ev.step (fun k => by rw [poly_placed_Scale_1.l0]) ?_
    have e : (pol N fun i => if i < m then cf a i * c % P f else cf a i) = pol N fun i => cf a i * c % P f := pol_congr fun i hi => by rw [if_pos (by omega)]
    rw [e]
    exact Ev.neg (by omega) (Ev.bind (trimmed_own_eq _ (by rw [pol_len]; omega)) (Ev.fix rfl))
  | succ d ih =>
    intro m h
    have hm : m < N := by omega
    have e : (pol N fun i => if i < m then cf a i * c % P f else cf a i).set m (cf a m * c % P f) = pol N fun i => if i < m + 1 then cf a i * c % P f else cf a i := by
      rw [pol_set hm]
      refine pol_congr fun i _ => ?_
      by_cases q : i = m
      · rw [if_pos q, if_pos (by omega), q]
      · rw [if_neg q]
        by_cases q2 : i < m
        · rw [if_pos q2, if_pos (by omega)]
        · rw [if_neg q2, if_neg (by omega)]
    have r : rd (pol N fun i => if i < m then cf a i * c % P f else cf a i) (m : Int) = cf a m := by rw [rd_pol hm]; simp
    refine Ev.step (fun k => by rw [poly_placed_Scale_1.l0]) ?_
    simp only [r, pol_len, Int.toNat_natCast]
    refine Ev.pos (by omega) (Ev.neg (by simp) (Ev.pos (by omega) (Ev.pos (by omega) (Ev.bind (kscale_eq 0 hp0 (cf_el ea (by omega) m) hc) ?_))))
    rw [e, w64_succ (by omega)]
    exact ih (m + 1) (by omega)
theorem PScale_eq (f c : Int) (a : List Int) (hc : 0 ≤ c) (wa : Wd a) (ha : a.length < 17592186044416) : Ev (fun k => poly_Scale.f k f c a) (if ok f [c] = true then (if bad f a [] = 0 then (scaleP (P f) c a, 0) else ([], bad f a [])) else ([], 2)) := by
  unfold poly_Scale.f
  refine Ev.bind (In_eq f [c] (by simp)) (Ev.ite (fun q => ?_) (fun q => ?_))
  · rw [if_pos q]
    unfold poly_placed_Scale_1.f
    refine Ev.bind (may2_eq f a [] (by omega) (by simp)) (Ev.ite (fun b => ?_) (fun b => ?_))
    · rw [if_pos b]
      obtain ⟨ka, _, la, _⟩ := bad_zero b
      have hc2 : c < P f := (ok_iff.1 q).2 c (by simp)
      rw [mx_nat]
      simp only [Int.toNat_natCast]
      refine Ev.pos (by omega) (Ev.pos (by simp; omega) (Ev.bnd rfl (Ev.bnd rfl ?_)))
      rw [padded a [], pol_len]
      have h := put_loop_scale (ok_pr ka) (ok_iff.1 ka).1 ⟨hc, hc2⟩ a (wa.el (ok_all ka)) (max a.length ([] : List Int).length) (by simp; omega) (max a.length ([] : List Int).length) 0 (by omega)
      unfold scaleP
      simpa using h
    · rw [if_neg b]; exact Ev.fix rfl
  · rw [if_neg q]; exact Ev.fix rfl
end Go.Proofs.Yteofgcmgncaojaa.FEuclidInverts
namespace Go.Proofs.Yteofgcmgncaojaa.FEuclidInverts
open Go.RowKit Go Go.Proofs.YteofgcmgncaojaaW.PrintWords Go.Proofs.YteofgcmgncaojaaW.PrintLast Go.Proofs.YteofgcmgncaojaaW.PrintMore Go.Proofs.Yteofgcmgncaojaa.M Go.Proofs.Yteofgcmgncaojaa.PEuclidInverts
theorem cn_wd {f : Int} (hp0 : P f ≠ 0) {l : List Int} (h : Cn (P f) l) : Wd l := h.el.wd (by have := (P_pr hp0).hi; omega)
theorem divm_c {f : Int} (hp0 : P f ≠ 0) {a b : List Int} (ca : Cn (P f) a) (cb : Cn (P f) b) (la : a.length ≤ 4096) (lb : b.length ≤ 4096) (h : b ≠ []) : Ev (fun k => poly_DivMod.f k f a b) ((dmP (P f) a b).1, (dmP (P f) a b).2, 0) := by
  refine Ev.cast (PDivMod_eq f a b (cn_wd hp0 ca) (cn_wd hp0 cb) (by omega) (by omega)) ?_
  rw [Pdm_good hp0 ca.el cb.el la lb (by rw [cb.tr]; exact h), ca.tr, cb.tr]
theorem pmul_c {f : Int} (hp0 : P f ≠ 0) {a b : List Int} (ca : Cn (P f) a) (cb : Cn (P f) b) (la : a.length ≤ 4096) (lb : b.length ≤ 4096) (h : a = [] ∨ b = [] ∨ a.length + b.length ≤ 4097) : Pmul f a b = (mulP (P f) a b, 0) := by
  rw [Pmul_good hp0 ca.el cb.el la lb (by rw [ca.tr, cb.tr]; exact h), ca.tr, cb.tr]
theorem mul_c {f : Int} (hp0 : P f ≠ 0) {a b : List Int} (ca : Cn (P f) a) (cb : Cn (P f) b) (la : a.length ≤ 4096) (lb : b.length ≤ 4096) (h : a = [] ∨ b = [] ∨ a.length + b.length ≤ 4097) : Ev (fun k => poly_Mul.f k f a b) (mulP (P f) a b, 0) :=
  Ev.cast (PMul_eq f a b (cn_wd hp0 ca) (cn_wd hp0 cb) (by omega) (by omega)) (pmul_c hp0 ca cb la lb h)
theorem sub_c {f : Int} (hp0 : P f ≠ 0) {a b : List Int} (ca : Cn (P f) a) (cb : Cn (P f) b) (la : a.length ≤ 4096) (lb : b.length ≤ 4096) : Ev (fun k => poly_Sub.f k f a b) (lessP (P f) a b, 0) :=
  Ev.cast (PSub_eq f a b (cn_wd hp0 ca) (cn_wd hp0 cb) (by omega) (by omega)) (Psub_good hp0 ca.el cb.el la lb)
theorem scale_good {f : Int} (hp0 : P f ≠ 0) {c : Int} (hc : 0 ≤ c ∧ c < P f) {a : List Int} (ca : Cn (P f) a) (la : a.length ≤ 4096) : (if ok f [c] = true then (if bad f a [] = 0 then (scaleP (P f) c a, (0 : Int)) else ([], bad f a [])) else ([], 2)) = (scaleP (P f) c a, 0) := by
  rw [if_pos (ok_iff.2 ⟨hp0, by simp [hc.2]⟩), if_pos (bad_good hp0 ca.el El.nil la (by simp))]
theorem scale_c {f : Int} (hp0 : P f ≠ 0) {c : Int} (hc : 0 ≤ c ∧ c < P f) {a : List Int} (ca : Cn (P f) a) (la : a.length ≤ 4096) : Ev (fun k => poly_Scale.f k f c a) (scaleP (P f) c a, 0) :=
  Ev.cast (PScale_eq f c a hc.1 (cn_wd hp0 ca) (by omega)) (scale_good hp0 hc ca la)
theorem bad5_el {f : Int} {a b : List Int} (wa : Wd a) (wb : Wd b) (h : bad5 f a b = 0) : Pr (P f) ∧ P f ≠ 0 ∧ El (P f) a ∧ El (P f) b ∧ a.length ≤ 2048 ∧ b.length ≤ 2048 := by
  unfold bad5 at h
  split at h
  · rename_i c
    split at h
    · rename_i d; exact ⟨ok_pr c.1, (ok_iff.1 c.1).1, wa.el (ok_all c.1), wb.el (ok_all c.2), d.1, d.2⟩
    · cases h
  · cases h
theorem bad5_good {f : Int} {a b : List Int} (h : bad f a b = 0) (la : a.length ≤ 2048) (lb : b.length ≤ 2048) : bad5 f a b = 0 := by
  obtain ⟨ka, kb, _, _⟩ := bad_zero h
  unfold bad5; rw [if_pos ⟨ka, kb⟩, if_pos ⟨la, lb⟩]
def bads5 (f : Int) : List (List Int) → Int → Int
  | [], e => e
  | l :: r, e => if ok f l = true then bads5 f r (if l.length > 2048 then 4 else e) else 2
theorem may5_loop (f : Int) (L : List (List Int)) (hL : ∀ l ∈ L, l.length < 4611686018427387904) (hn : L.length < 4611686018427387904) : ∀ (d i : Nat) (e : Int), i + d = L.length →
    Ev (fun k => euclid_may.l0 k f e L (L.length : Int) (i : Int)) (bads5 f (L.drop i) e) := by
  intro d
  induction d with
  | zero =>
    intro i e h
    refine Ev.step (fun k => by rw [euclid_may.l0]) ?_
    rw [List.drop_of_length_le (by omega)]
    exact Ev.neg (by omega) (Ev.fix rfl)
  | succ d ih =>
    intro i e h
    have hi : i < L.length := by omega
    refine Ev.step (fun k => by rw [euclid_may.l0]) ?_
    rw [rd_L1_lt hi, w64_succ (by omega), List.drop_eq_getElem_cons hi, bads5]
    refine Ev.pos (by omega) (Ev.pos (by omega) (Ev.pos (by omega) (Ev.bind (In_eq f _ (hL _ (List.getElem_mem hi))) (Ev.ite (fun c => ?_) (fun c => ?_)))))
    · rw [if_pos c]
      refine Ev.ite (fun q => ?_) (fun q => ?_)
      · rw [if_pos (by omega)]; exact ih (i + 1) 4 (by omega)
      · rw [if_neg (by omega)]; exact ih (i + 1) e (by omega)
    · rw [if_neg c]; exact Ev.fix rfl
theorem may5_eq (f : Int) (a b : List Int) (ha : a.length < 4611686018427387904) (hb : b.length < 4611686018427387904) : Ev (fun k => euclid_may.f k f [a, b]) (bad5 f a b) := by
  unfold euclid_may.f
  refine Ev.cast (may5_loop f [a, b] (by simp [ha, hb]) (by simp) 2 0 0 (by simp)) ?_
  unfold bad5
  by_cases ca : ok f a = true
  · by_cases cb : ok f b = true
    · simp only [List.drop_zero, bads5, if_pos ca, if_pos cb, if_pos (And.intro ca cb)]
      by_cases la : a.length ≤ 2048
      · by_cases lb : b.length ≤ 2048
        · rw [if_neg (by omega), if_neg (by omega), if_pos ⟨la, lb⟩]
        · rw [if_pos (by omega), if_neg (fun q => lb q.2)]
      · rw [if_neg (show ¬ (a.length ≤ 2048 ∧ b.length ≤ 2048) from fun q => la q.1), if_pos (show a.length > 2048 by omega)]
        split <;> rfl
    · rw [if_neg (fun c => cb c.2)]; simp only [List.drop_zero, bads5, if_pos ca, if_neg cb]
  · rw [if_neg (fun c => ca c.1)]; simp only [List.drop_zero, bads5, if_neg ca]
theorem monic_eq {f : Int} (hp0 : P f ≠ 0) {l : List Int} (cl : Cn (P f) l) (hl : l.length ≤ 4096) : Ev (fun k => euclid_monic.f k f l) (mon (P f) l, 0) := by
  have hp := P_pr hp0
  have hlo := hp.lo
  unfold euclid_monic.f
  refine Ev.bind (Trim_eq l (by omega)) ?_
  rw [cl.tr]
  refine Ev.ite (fun z => ?_) (fun z => ?_)
  · unfold mon; rw [if_pos (List.length_eq_zero_iff.1 (by omega))]; exact Ev.fix rfl
  · have h0 : l ≠ [] := fun e => z (by rw [e]; rfl)
    rw [show wrap64 ((l.length : Int) - 1) = ((l.length - 1 : Nat) : Int) by rw [w64_in (by omega) (by omega)]; omega, show rd l ((l.length - 1 : Nat) : Int) = cf l (l.length - 1) from rfl]
    have rb := cf_el cl.el (p := P f) (by omega) (l.length - 1)
    have hi := Inv_eq f (cf l (l.length - 1)) rb.1
    rw [quot_inv hp0 rb (cl.top h0)] at hi
    have e : mon (P f) l = scaleP (P f) (inv (P f) (cf l (l.length - 1))) l := by unfold mon; rw [if_neg h0]
    rw [e]
    exact Ev.pos (by omega) (Ev.pos (by omega) (Ev.bind hi (Ev.pos rfl (Ev.bind (scale_c hp0 (inv_rng hp _) cl hl) (Ev.fix rfl)))))
theorem gcd_loop {f : Int} (hp0 : P f ≠ 0) : ∀ (n : Nat) (a b : List Int), Cn (P f) a → Cn (P f) b → a.length ≤ 2048 → b.length ≤ 2048 → b.length < n → Ev (fun k => euclid_GCD.l0 k f a b) (mon (P f) (gcdP (P f) n a b), 0) := by
  have hp := P_pr hp0
  intro n
  induction n with
  | zero => intro a b _ _ _ _ h; omega
  | succ n ih =>
    intro a b ca cb la lb h
    refine Ev.step (fun k => by rw [euclid_GCD.l0]) ?_
    rw [gcdP]
    refine Ev.ite (fun z => ?_) (fun z => ?_)
    · have h0 : b ≠ [] := fun e => by rw [e] at z; simp at z
      obtain ⟨q1, q2, q3, q4, q5⟩ := dmP_spec hp ca cb h0
      rw [if_neg h0]
      have l1 : (dmP (P f) a b).2.length ≤ 2048 := by omega
      have l2 : (dmP (P f) a b).2.length < n := by omega
      exact Ev.bind (divm_c hp0 ca cb (by omega) (by omega) h0) (Ev.pos rfl (ih b _ cb q2 lb l1 l2))
    · rw [if_pos (List.length_eq_zero_iff.1 (by omega))]
      exact Ev.bind (monic_eq hp0 ca (by omega)) (Ev.fix rfl)
theorem GCD_eq (f : Int) (a b : List Int) (wa : Wd a) (wb : Wd b) (ha : a.length < 17592186044416) (hb : b.length < 17592186044416) : Ev (fun k => euclid_GCD.f k f a b) (Pgcd f a b) := by
  unfold euclid_GCD.f Pgcd
  refine Ev.bind (may5_eq f a b (by omega) (by omega)) (Ev.ite (fun c => ?_) (fun c => ?_))
  · rw [if_pos c]
    obtain ⟨hp, hp0, ea, eb, la, lb⟩ := bad5_el wa wb c
    have ta := trim_le a; have tb := trim_le b
    exact Ev.bind (Trim_eq a ha) (Ev.bind (Trim_eq b hb) (gcd_loop hp0 _ _ _ (Cn.trim ea) (Cn.trim eb) (by omega) (by omega) (by omega)))
  · rw [if_neg c]; exact Ev.fix rfl
theorem next_eq {f : Int} (hp0 : P f ≠ 0) {m : Nat} (hm : m ≤ 2048) {a b : List Int} {x y : Rw} (h : Ri (P f) m a b x y) (h0 : y.1 ≠ []) : Ev (fun k => euclid_next.f k f x.1 x.2.1 x.2.2 y.1 y.2.1 y.2.2) ((nextR (P f) x y).1, (nextR (P f) x y).2.1, (nextR (P f) x y).2.2, 0) := by
  have hp := P_pr hp0
  have hlo := hp.lo
  have b1 := h.l1; have b2 := h.l2; have b3 := h.k1; have b4 := h.k2; have b5 := h.lx; have b6 := h.ly
  obtain ⟨q1, q2, q3, q4, q5⟩ := dmP_spec hp h.x1 h.y1 h0
  have n2 := quo_len hp h.x1 h.y1 h0 h.k1 h.ly
  have n3 := quo_len hp h.x1 h.y1 h0 h.l1 h.ly
  have y0 : y.1.length ≠ 0 := fun e => h0 (List.length_eq_zero_iff.1 e)
  have lq : (dmP (P f) x.1 y.1).1.length ≤ 2049 := q4.elim (fun e => by rw [e]; simp) (fun e => by omega)
  have s2 : (dmP (P f) x.1 y.1).1 = [] ∨ y.2.1 = [] ∨ (dmP (P f) x.1 y.1).1.length + y.2.1.length ≤ 4097 := q4.elim .inl (fun e => .inr (.inr (by omega)))
  have s3 : (dmP (P f) x.1 y.1).1 = [] ∨ y.2.2 = [] ∨ (dmP (P f) x.1 y.1).1.length + y.2.2.length ≤ 4097 := q4.elim .inl (fun e => .inr (.inr (by omega)))
  have e1 := mul_c hp0 q1 h.y2 (by omega) (by omega) s2
  have e2 := sub_c hp0 h.x2 (mulP_cn hp q1 h.y2) (by omega) (by omega)
  have e3 := mul_c hp0 q1 h.y3 (by omega) (by omega) s3
  have e4 := sub_c hp0 h.x3 (mulP_cn hp q1 h.y3) (by omega) (by omega)
  unfold euclid_next.f
  exact Ev.bind (divm_c hp0 h.x1 h.y1 (by omega) (by omega) h0) (Ev.pos rfl (Ev.bind e1 (Ev.pos rfl (Ev.bind e2 (Ev.pos rfl (Ev.bind e3 (Ev.pos rfl (Ev.bind e4 (Ev.pos rfl (Ev.fix rfl))))))))))
theorem partial_stop (f s : Int) (x y : Rw) (h : (x.1.length : Int) ≤ s) (hs : x.1.length < 4611686018427387904) : Ev (fun k => euclid_partial.l0 k f s x.1 x.2.1 x.2.2 y.1 y.2.1 y.2.2) (x.1, x.2.1, x.2.2, 0) := by
  refine Ev.step (fun k => by rw [euclid_partial.l0]) ?_
  rw [w64_in (by omega) (by omega)]
  refine Ev.pos (by omega) (Ev.step (fun k => by rw [euclid_partial.j1]) (Ev.pos rfl (Ev.fix rfl)))
theorem partial_loop {f : Int} (hp0 : P f ≠ 0) {m : Nat} (hm : m ≤ 2048) {a b : List Int} {s : Int} (hs : 0 ≤ s) : ∀ (n : Nat) (x y : Rw), Ri (P f) m a b x y → y.1.length < n →
    Ev (fun k => euclid_partial.l0 k f s x.1 x.2.1 x.2.2 y.1 y.2.1 y.2.2) ((par (P f) s n x y).1, (par (P f) s n x y).2.1, (par (P f) s n x y).2.2, 0) := by
  have hp := P_pr hp0
  intro n
  induction n with
  | zero => intro x y _ h; omega
  | succ n ih =>
    intro x y h hn
    have lx := h.lx; have ly := h.ly
    rw [par]
    by_cases c : (x.1.length : Int) ≤ s
    · rw [if_pos c]
      exact partial_stop f s x y c (by omega)
    · rw [if_neg c]
      refine Ev.step (fun k => by rw [euclid_partial.l0]) ?_
      rw [w64_in (by omega) (by omega)]
      refine Ev.neg (by omega) (Ev.step (fun k => by rw [euclid_partial.j1]) ?_)
      have x0 : (x.1.length : Int) ≠ 0 := by omega
      refine Ev.neg (by simp; intro e; rw [e] at x0; simp at x0) ?_
      by_cases d : (y.1.length : Int) ≤ s
      · rw [if_pos d]
        refine Ev.ite (fun z => ?_) (fun z => ?_)
        · exact partial_stop f s y y d (by omega)
        · have h0 : y.1 ≠ [] := fun e => z (by rw [e]; rfl)
          exact Ev.bind (next_eq hp0 hm h h0) (Ev.pos rfl (partial_stop f s y (nextR (P f) x y) d (by omega)))
      · rw [if_neg d]
        have h0 : y.1 ≠ [] := fun e => d (by rw [e]; simpa using hs)
        obtain ⟨k, l⟩ := h.step hp h0
        refine Ev.neg (by omega) (Ev.bind (next_eq hp0 hm h h0) (Ev.pos rfl ?_))
        exact ih y (nextR (P f) x y) k (by omega)
theorem partial_eq {f : Int} (hp0 : P f ≠ 0) {a b : List Int} (ea : El (P f) a) (eb : El (P f) b) (la : a.length ≤ 2048) (lb : b.length ≤ 2048) {s : Int} (hs : 0 ≤ s) :
    Ev (fun k => euclid_partial.f k f a b s) ((Ppar f s a b).1, (Ppar f s a b).2.1, (Ppar f s a b).2.2, 0) := by
  have ta := trim_le a; have tb := trim_le b
  unfold euclid_partial.f
  refine Ev.bnd rfl (Ev.bind (Trim_eq a (by omega)) (Ev.bind (Trim_eq b (by omega)) ?_))
  exact partial_loop hp0 (Nat.le_refl 2048) hs _ (trim a, [1], []) (trim b, [], [1]) (Ri.start (P_pr hp0) (Cn.trim ea) (Cn.trim eb) (by omega) (by omega)) (by show (trim b).length < _; omega)
end Go.Proofs.Yteofgcmgncaojaa.FEuclidInverts
namespace Go.Proofs.Yteofgcmgncaojaa.FEuclidInverts
open Go.RowKit Go Go.Proofs.YteofgcmgncaojaaW.PrintWords Go.Proofs.YteofgcmgncaojaaW.PrintLast Go.Proofs.YteofgcmgncaojaaW.PrintMore Go.Proofs.Yteofgcmgncaojaa.M Go.Proofs.Yteofgcmgncaojaa.PEuclidInverts
theorem bad5_bad {f : Int} {a b : List Int} (h : bad5 f a b = 0) : bad f a b = 0 := by
  unfold bad5 at h
  split at h
  · rename_i c
    split at h
    · rename_i d; unfold bad; rw [if_pos c, if_pos ⟨by omega, by omega⟩]
    · cases h
  · cases h
theorem Pdm_at {f : Int} {a b : List Int} (h : bad f a b = 0) (h0 : trim b ≠ []) : Pdm f a b = ((dmP (P f) (trim a) (trim b)).1, (dmP (P f) (trim a) (trim b)).2, 0) := by
  unfold Pdm; rw [if_pos h, if_neg h0]
theorem Modulo_eq (f : Int) (a m : List Int) (wa : Wd a) (wm : Wd m) (ha : a.length < 17592186044416) (hm : m.length < 17592186044416) : Ev (fun k => euclid_Modulo.f k f a m) (Pmod f a m) := by
  unfold euclid_Modulo.f Pmod
  refine Ev.bind (may5_eq f a m (by omega) (by omega)) (Ev.ite (fun c => ?_) (fun c => ?_))
  · rw [if_pos c]
    obtain ⟨hp, hp0, ea, em, la, lm⟩ := bad5_el wa wm c
    have hlo := hp.lo
    have ta := trim_le a; have tm := trim_le m
    refine Ev.bind (Degree_eq m (by omega)) (Ev.ite (fun z => ?_) (fun z => Ev.ite (fun y => ?_) (fun y => ?_)))
    · rw [if_pos (List.length_eq_zero_iff.1 (by omega))]; exact Ev.fix rfl
    · rw [if_neg (fun e => z (by rw [e]; rfl)), if_pos (by omega)]; exact Ev.fix rfl
    · have m0 : trim m ≠ [] := fun e => z (by rw [e]; rfl)
      rw [if_neg m0, if_neg (by omega)]
      have e1 := PDivMod_eq f a m wa wm (by omega) (by omega)
      rw [Pdm_at (bad5_bad c) m0] at e1
      obtain ⟨r1, r2, _⟩ := mrest_spec hp ea em m0
      obtain ⟨w1, w2⟩ := mrow_spec hp ea em lm m0
      have e2 := partial_eq hp0 em r1.el lm (show (mrest f a m).length ≤ 2048 by omega) (s := 1) (by omega)
      refine Ev.bind e1 (Ev.pos rfl (Ev.bind e2 (Ev.pos rfl (Ev.step (fun k => by rw [euclid_Modulo.j0]) ?_))))
      show Ev _ (if (mrow f a m).1 = [] then ([], false, 0) else (minv f a m, true, 0))
      by_cases q : (mrow f a m).1 = []
      · rw [if_pos q]
        have q2 : (Ppar f 1 m (mrest f a m)).1 = [] := q
        refine Ev.pos ?_ (Ev.fix rfl)
        rw [q2]; rfl
      · rw [if_neg q]
        have l1 : (mrow f a m).1.length = 1 := by
          have : (mrow f a m).1.length ≠ 0 := fun e => q (List.length_eq_zero_iff.1 e)
          omega
        have l2 : (Ppar f 1 m (mrest f a m)).1.length = 1 := l1
        have c0 := w2.x1.top q
        rw [l1, Nat.sub_self] at c0
        have rc := cf_el w2.x1.el (p := P f) (by omega) 0
        have hi := Inv_eq f (cf (mrow f a m).1 0) rc.1
        rw [quot_inv hp0 rc c0] at hi
        have rg := inv_rng hp (cf (mrow f a m).1 0)
        have l3 := w2.l3
        have e3 := scale_c hp0 rg w2.x3 (show (mrow f a m).2.2.length ≤ 4096 by omega)
        have cs := scaleP_cn (p := P f) (by omega) (inv (P f) (cf (mrow f a m).1 0)) (mrow f a m).2.2
        have ls : (scaleP (P f) (inv (P f) (cf (mrow f a m).1 0)) (mrow f a m).2.2).length ≤ 2049 := Nat.le_trans (trim_le _) (by rw [pol_len]; omega)
        have e4 := PDivMod_eq f (scaleP (P f) (inv (P f) (cf (mrow f a m).1 0)) (mrow f a m).2.2) m (cn_wd hp0 cs) wm (by omega) (by omega)
        rw [Pdm_at (bad_good hp0 cs.el em (by omega) (by omega)) m0, cs.tr] at e4
        refine Ev.neg ?_ (Ev.pos ?_ (Ev.bind hi (Ev.pos rfl (Ev.bind e3 (Ev.pos rfl (Ev.bind e4 (Ev.fix rfl)))))))
        · rw [l2]; simp
        · rw [l2]; simp
  · rw [if_neg c]; exact Ev.fix rfl
theorem anchored5 : Ev (fun k => conclavelaw05_anchored.f k) true := by
  unfold conclavelaw05_anchored.f
  have w1 : Wd [2013265920, 0, 1] := Wd.cons (by omega) (Wd.cons (by omega) (Wd.cons (by omega) Wd.nil))
  have w2 : Wd [2, 2] := Wd.cons (by omega) (Wd.cons (by omega) Wd.nil)
  have w3 : Wd [2] := Wd.cons (by omega) Wd.nil
  have w4 : Wd [0, 1] := Wd.cons (by omega) (Wd.cons (by omega) Wd.nil)
  have h1 := GCD_eq 1 [2013265920, 0, 1] [2, 2] w1 w2 (by simp) (by simp)
  have h2 := Modulo_eq 1 [2] [0, 1] w3 w4 (by simp) (by simp)
  rw [anchor_gcd] at h1
  rw [anchor_mod] at h2
  exact Ev.bind h1 (Ev.bind h2 (Ev.pos rfl (Ev.pos rfl (Ev.pos rfl (Ev.bind (rSame _ _ (by simp)) (Ev.pos (by simp) (Ev.bind (rSame _ _ (by simp)) (Ev.fix (by simp)))))))))
end Go.Proofs.Yteofgcmgncaojaa.FEuclidInverts
namespace Go.Proofs.Yteofgcmgncaojaa.FEuclidInverts
open Go.RowKit Go Go.Proofs.YteofgcmgncaojaaW.PrintWords Go.Proofs.YteofgcmgncaojaaW.PrintLast Go.Proofs.YteofgcmgncaojaaW.PrintMore Go.Proofs.Yteofgcmgncaojaa.M Go.Proofs.Yteofgcmgncaojaa.PEuclidInverts
def usl (f : Int) (a b : List Int) : Bool := decide (bad f a b = 0 ∧ a.length ≤ 2048 ∧ b.length ≤ 2048)
theorem usual_eq (f : Int) (a b : List Int) (ha : a.length < 4611686018427387904) (hb : b.length < 4611686018427387904) : Ev (fun k => conclavelaw05_usual.f k f a b) (f, usl f a b) := by
  unfold conclavelaw05_usual.f usl
  refine Ev.bind (rBad f a b ha hb) (Ev.ite (fun c => Ev.ite (fun d => ?_) (fun d => ?_)) (fun c => ?_))
  · refine Ev.fix ?_
    congr 2
    rw [decide_eq_decide]
    constructor
    · intro h; exact ⟨c, by omega, by omega⟩
    · intro h; omega
  · exact Ev.fix (by rw [decide_eq_false (fun h => by omega)])
  · exact Ev.fix (by rw [decide_eq_false (fun h => c h.1)])
theorem usl_el {f : Int} {a b : List Int} (wa : Wd a) (wb : Wd b) (h : usl f a b = true) : Pr (P f) ∧ P f ≠ 0 ∧ El (P f) a ∧ El (P f) b ∧ a.length ≤ 2048 ∧ b.length ≤ 2048 ∧ bad5 f a b = 0 := by
  unfold usl at h
  simp only [decide_eq_true_eq] at h
  obtain ⟨h1, h2, h3⟩ := h
  obtain ⟨hp, hp0, ea, eb, _, _⟩ := bad_el wa wb h1
  exact ⟨hp, hp0, ea, eb, h2, h3, bad5_good h1 h2 h3⟩
theorem usl_no {f : Int} {a b : List Int} (h : ¬ usl f a b = true) : bad5 f a b ≠ 0 := fun e => h (by
  unfold usl
  unfold bad5 at e
  split at e
  · rename_i c
    split at e
    · rename_i d; simp only [decide_eq_true_eq]; refine ⟨?_, d.1, d.2⟩; unfold bad; rw [if_pos c, if_pos ⟨by omega, by omega⟩]
    · cases e
  · cases e)
end Go.Proofs.Yteofgcmgncaojaa.FEuclidInverts
namespace Go.Proofs.Yteofgcmgncaojaa.Pure
open Go.RowKit Go.Proofs.Yteofgcmgncaojaa.PEuclidInverts Go.Proofs.YteofgcmgncaojaaW.PrintWords Go.Proofs.YteofgcmgncaojaaW.PrintLast Go.Proofs.Yteofgcmgncaojaa.M Go.Proofs.Yteofgcmgncaojaa.FEuclidInverts
theorem EuclidInverts : conclavelaw05_EuclidInverts.Pure := by
  intro f a m _ _ ha wa _ hm wm
  refine Ev.rounds (g := fun k => conclavelaw05_EuclidInverts.f k f a m) ?_
  unfold conclavelaw05_EuclidInverts.f
  have w1 := Wd.of_wf wa; have w2 := Wd.of_wf wm
  refine Ev.bind (usual_eq f a m (by omega) (by omega)) (Ev.bind (Modulo_eq f a m w1 w2 (by omega) (by omega)) (Ev.ite (fun c => ?_) (fun c => Ev.step (fun k => by rw [conclavelaw05_EuclidInverts.j0]) ?_)))
  · obtain ⟨hp, hp0, ea, em, la, lm, b5⟩ := usl_el w1 w2 c
    have hlo := hp.lo; have hhi := hp.hi
    have ta := trim_le a; have tm := trim_le m
    refine Ev.bind (rTrim m (by omega)) (Ev.step (fun k => by rw [conclavelaw05_EuclidInverts.j0]) ?_)
    by_cases m0 : trim m = []
    · refine Ev.pos (by rw [m0]; rfl) (Ev.bind anchored5 (Ev.pos rfl (Ev.fix ?_)))
      unfold Pmod; rw [if_pos b5, if_pos m0]; rfl
    · have ca := Cn.trim (p := P f) ea; have cm := Cn.trim (p := P f) em
      have l0 : (trim m).length ≠ 0 := fun e => m0 (List.length_eq_zero_iff.1 e)
      refine Ev.neg (by simp; omega) ?_
      have c1 : Cn (P f) [1] := ⟨El.cons (by omega) El.nil, rfl⟩
      have one := rPDivMod f [1] m (cn_wd hp0 c1) w2 (by simp) (by omega)
      rw [Pdm_at (bad_good hp0 c1.el em (by simp) (by omega)) m0, c1.tr] at one
      -- an inverse
      have good : ∀ i : List Int, Cn (P f) i → i.length < (trim m).length → (∃ s, Cg (P f) (fun t => ev i t * ev (trim a) t - 1) (fun t => ev s t * ev (trim m) t)) →
          Ev (fun k => (cr3_Mul.f k f i a).bind fun bt => (cr3_DivMod.f k f bt.1 m).bind fun bt2 => (cr3_DivMod.f k f (([1] : List Int)) m).bind fun bt3 => (conclavelaw05_anchored.f k).bind fun t => (if t = true then (if bt.2 = 0 then ((cr1_Same.f k bt2.2.1 bt3.2.1).bind fun t2 => (if t2 = true then ((cr3_Trim.f k m).bind fun t3 => (some (decide ((i.length : Int) < (t3.length : Int))))) else (none))) else (none)) else (none))) true := by
        intro i ci li hs
        obtain ⟨s, hs⟩ := hs
        have e1 := rPMul f i a (cn_wd hp0 ci) w1 (by omega) (by omega)
        rw [Pmul_good hp0 ci.el ea (by omega) (by omega) (.inr (.inr (by rw [ci.tr]; omega))), ci.tr] at e1
        have cp := mulP_cn hp ci ca
        have lp := mulP_le (P f) i (trim a)
        have e2 := rPDivMod f (mulP (P f) i (trim a)) m (cn_wd hp0 cp) w2 (by omega) (by omega)
        rw [Pdm_at (bad_good hp0 cp.el em (by omega) (by omega)) m0, cp.tr] at e2
        have same : (dmP (P f) (mulP (P f) i (trim a)) (trim m)).2 = (dmP (P f) [1] (trim m)).2 := by
          refine rem_same hp cp c1 cm m0 (s := s) ?_
          refine ((mulP_cg _ _ _).sub (Cg.of (ψ := fun _ => 1) fun t => by simp [ev_cons, ev_nil])).trans hs
        have lr := (dmP_spec hp c1 cm m0).2.2.1
        refine Ev.bind e1 (Ev.bind e2 (Ev.bind one (Ev.bind anchored5 (Ev.pos rfl (Ev.pos rfl ?_)))))
        rw [same]
        exact Ev.bind (rSame _ (dmP (P f) [1] (trim m)).2 (by dsimp only; omega)) (Ev.pos (by simp) (Ev.bind (rTrim m (by omega)) (Ev.fix (by rw [decide_eq_true (by omega)]))))
      unfold Pmod
      rw [if_pos b5, if_neg m0]
      by_cases h1 : (trim m).length = 1
      · rw [if_pos h1]
        refine Ev.pos rfl (Ev.pos rfl (good [] Cn.nil (by rw [h1]; simp) ?_))
        refine ⟨[(P f - inv (P f) (cf (trim m) 0))], ?_⟩
        have t0 := cm.top m0
        rw [h1, Nat.sub_self] at t0
        have rc := cf_el cm.el (show 0 < P f by omega) 0
        have hi : cf (trim m) 0 * inv (P f) (cf (trim m) 0) % P f = 1 := inv_mul hp (by rw [Int.emod_eq_of_lt rc.1 rc.2]; exact t0)
        refine ⟨fun _ => (cf (trim m) 0 * inv (P f) (cf (trim m) 0)) / P f - cf (trim m) 0, Pf.const _, fun t => ?_⟩
        have hh := Int.emod_add_mul_ediv (cf (trim m) 0 * inv (P f) (cf (trim m) 0)) (P f)
        rw [hi] at hh
        show ev [] t * ev (trim a) t - 1 = ev [P f - inv (P f) (cf (trim m) 0)] t * ev (trim m) t + P f * (cf (trim m) 0 * inv (P f) (cf (trim m) 0) / P f - cf (trim m) 0)
        have ho := cf_one h1
        generalize hv : cf (trim m) 0 = v at *
        generalize inv (P f) v = iv at *
        rw [ho, ev_cons, ev_nil]
        grind
      · rw [if_neg h1]
        by_cases q : (mrow f a m).1 = []
        · rw [if_pos q]
          refine Ev.pos rfl (Ev.neg (by simp) ?_)
          have e1 := GCD_eq f a m w1 w2 (by omega) (by omega)
          unfold Pgcd at e1
          rw [if_pos b5] at e1
          obtain ⟨g1, g2, g3, g4, g5⟩ := gcdP_spec hp ((trim m).length + 1) (trim a) (trim m) ca cm (by omega)
          obtain ⟨r1, r2, qq, hq⟩ := mrest_spec hp ea em m0
          have t := trim_le (mrest f a m)
          obtain ⟨z, hz, lz⟩ := Ppar_prev (m := 2048) hp (show (0 : Int) ≤ 1 by omega) em r1.el (by omega) (by omega) (by omega)
          rw [r1.tr] at hz
          have zb := hz.back z.1 (Dv.refl _ _) (by
            have : (Ppar f 1 m (mrest f a m)).1 = [] := q
            rw [this]; exact Dv.nil _ _)
          have za : Dv (P f) z.1 (trim a) := Dv.lin (u := qq) (v := [1]) zb.1 zb.2 ((Cg.of fun t => by simp [ev_cons, ev_nil]).trans hq)
          have d0 : gcdP (P f) ((trim m).length + 1) (trim a) (trim m) ≠ [] := by
            intro e
            rw [e] at g4
            obtain ⟨s, hs⟩ := g4
            exact m0 (cm.ext (by omega) Cn.nil (hs.symm.trans (Cg.of fun t => by rw [ev_nil]; simp)))
          have lg := Dv.len hp hz.x1 g1 (g5 z.1 za zb.1) d0
          have lmon := (mon_spec hp g1 d0).1
          refine Ev.bind e1 (Ev.bind anchored5 (Ev.pos rfl (Ev.pos rfl (Ev.pos ?_ (Ev.fix rfl)))))
          rw [lmon]; omega
        · rw [if_neg q]
          obtain ⟨i1, i2, i3⟩ := minv_spec hp ea em lm m0 q
          exact Ev.pos rfl (Ev.pos rfl (good _ i1 i2 i3))
  · refine Ev.pos rfl (Ev.bind anchored5 (Ev.pos rfl (Ev.fix ?_)))
    have h := usl_no c
    unfold Pmod; rw [if_neg h]; simpa using h

end Go.Proofs.Yteofgcmgncaojaa.Pure
