/- PolyFresh: what is handed in stays; what is answered is new memory. For every field number and every two lists of words. -/
import Derived.Test.YtbjanbbjjnoecaaMPolyFresh
import Derived.Test.YtbjanbbjjnoecaaPPolyFreshx
namespace Go.Proofs.Ytbjanbbjjnoecaa.FPolyFresh
open Go.RowKit Go Go.Proofs.YtbjanbbjjnoecaaW.PrintWords Go.Proofs.YtbjanbbjjnoecaaW.PrintLast Go.Proofs.YtbjanbbjjnoecaaW.PrintMore Go.Proofs.Ytbjanbbjjnoecaa.M Go.Proofs.Ytbjanbbjjnoecaa.PPolyFresh
theorem trimmed_loop (l : List Int) (hl : l.length < 4611686018427387904) : ∀ n : Nat, n ≤ l.length → Ev (fun k => poly_trimmed.l0 k l (n : Int)) (l.take (tl l n)) := by
  intro n
  induction n with
  | zero =>
    intro _
    refine Ev.step (fun k => by rw [poly_trimmed.l0]) ?_
    exact Ev.neg (by omega) (Ev.pos (by omega) (Ev.pos (by omega) (Ev.fix rfl)))
  | succ n ih =>
    intro hn
    have e : wrap64 (((n + 1 : Nat) : Int) - 1) = (n : Int) := by rw [w64_in (by omega) (by omega)]; omega
    refine Ev.step (fun k => by rw [poly_trimmed.l0]) ?_
    rw [e]
    refine Ev.pos (by omega) (Ev.pos (by omega) (Ev.pos (by omega) (Ev.ite (fun c => ?_) (fun c => ?_))))
    · rw [tl, if_pos c]; exact ih (by omega)
    · rw [tl, if_neg c]; exact Ev.pos (by omega) (Ev.pos (by omega) (Ev.fix rfl))
theorem trimmed_eq (l : List Int) (hl : l.length < 4611686018427387904) : Ev (fun k => poly_trimmed.f k l) (trim l) := by
  unfold poly_trimmed.f
  exact trimmed_loop l hl l.length (Nat.le_refl _)
theorem clone_eq (l : List Int) (hl : l.length < 17592186044416) : slices_Clone_uint64_uint64.f l = some l := by
  unfold slices_Clone_uint64_uint64.f; rw [if_pos hl]
theorem Trim_eq (l : List Int) (hl : l.length < 17592186044416) : Ev (fun k => poly_Trim.f k l) (trim l) := by
  unfold poly_Trim.f
  exact Ev.bind (trimmed_eq l (by omega)) (Ev.bnd (clone_eq _ (by have := trim_le l; omega)) (Ev.fix rfl))
theorem rTrim_loop (l : List Int) (hl : l.length < 17592186044416) : ∀ n : Nat, n ≤ l.length → Ev (fun k => cr3_Trim.l0 k l (n : Int)) (l.take (tl l n)) := by
  have hc : ∀ m : Nat, cr1_Copy.f (l.take ((m : Int) : Int).toNat) = some (l.take m) := fun m => by
    unfold cr1_Copy.f
    have : (l.take m).length ≤ l.length := List.length_take_le' _ _
    simp only [Int.toNat_natCast, Option.bind_some, List.length_nil, List.nil_append, Nat.zero_add]
    rw [if_pos (by omega)]
  intro n
  induction n with
  | zero =>
    intro _
    refine Ev.step (fun k => by rw [cr3_Trim.l0]) ?_
    exact Ev.neg (by omega) (Ev.pos (by omega) (Ev.pos (by omega) (Ev.bnd (hc 0) (Ev.fix rfl))))
  | succ n ih =>
    intro hn
    have e : wrap64 (((n + 1 : Nat) : Int) - 1) = (n : Int) := by rw [w64_in (by omega) (by omega)]; omega
    refine Ev.step (fun k => by rw [cr3_Trim.l0]) ?_
    rw [e]
    refine Ev.pos (by omega) (Ev.pos (by omega) (Ev.pos (by omega) (Ev.ite (fun c => ?_) (fun c => ?_))))
    · rw [tl, if_pos c]; exact ih (by omega)
    · rw [tl, if_neg c]; exact Ev.pos (by omega) (Ev.pos (by omega) (Ev.bnd (hc (n + 1)) (Ev.fix rfl)))
theorem rTrim (l : List Int) (hl : l.length < 17592186044416) : Ev (fun k => cr3_Trim.f k l) (trim l) := by
  unfold cr3_Trim.f
  exact rTrim_loop l hl l.length (Nat.le_refl _)
end Go.Proofs.Ytbjanbbjjnoecaa.FPolyFresh
namespace Go.Proofs.Ytbjanbbjjnoecaa.FPolyFresh
open Go.RowKit Go Go.Proofs.YtbjanbbjjnoecaaW.PrintWords Go.Proofs.YtbjanbbjjnoecaaW.PrintLast Go.Proofs.YtbjanbbjjnoecaaW.PrintMore Go.Proofs.Ytbjanbbjjnoecaa.M Go.Proofs.Ytbjanbbjjnoecaa.PPolyFresh
def PF (p : Int) (w : Bool) : Prop := (p = 2013265921 ∧ w = false) ∨ (p = 18446744069414584321 ∧ w = true)
theorem PF.lo {p : Int} {w : Bool} (h : PF p w) : 2013265921 ≤ p := by unfold PF at h; omega
theorem PF.hi {p : Int} {w : Bool} (h : PF p w) : p ≤ 18446744069414584321 := by unfold PF at h; omega
theorem addLo_eq (a b : Int) (ha : 0 ≤ a) (hb : 0 ≤ b) : addLo a b = (a + b) % 18446744073709551616 := by unfold addLo; omega
theorem addHi_eq (a b : Int) (ha : 0 ≤ a) (hb : 0 ≤ b) : addHi a b = (a + b) / 18446744073709551616 := by unfold addHi; omega
theorem subLo_eq (a b : Int) (ha : 0 ≤ a) (hb : 0 ≤ b) (hb1 : b < 18446744073709551616) : subLo a b = (a - b) % 18446744073709551616 := by unfold subLo; omega
theorem subHi_eq (a b : Int) (ha : 0 ≤ a) (hb : 0 ≤ b) : subHi a b = if a < b then 1 else 0 := by
  unfold subHi; split <;> split <;> omega
theorem add_eq {p : Int} {w : Bool} (h : PF p w) {a b : Int} (ha : 0 ≤ a) (ha1 : a < p) (hb : 0 ≤ b) (hb1 : b < p) : field_reckoner_add.f p w a b = some ((a + b) % p) := by
  have h1 := h.lo; have h2 := h.hi
  have e : (a + b) % p = if a + b < p then a + b else a + b - p := by
    split
    · exact Int.emod_eq_of_lt (by omega) (by omega)
    · rw [← Int.sub_emod_right]; exact Int.emod_eq_of_lt (by omega) (by omega)
  unfold field_reckoner_add.f
  rw [addLo_eq _ _ ha hb, addHi_eq _ _ ha hb, e]
  simp only [u64w]
  (repeat' split) <;> (congr 1; omega)
theorem sub_eq {p : Int} {w : Bool} (h : PF p w) {a b : Int} (ha : 0 ≤ a) (ha1 : a < p) (hb : 0 ≤ b) (hb1 : b < p) : field_reckoner_sub.f p w a b = some ((a - b) % p) := by
  have h1 := h.lo; have h2 := h.hi
  have e : (a - b) % p = if a < b then a - b + p else a - b := by
    split
    · rw [← Int.add_emod_right]; exact Int.emod_eq_of_lt (by omega) (by omega)
    · exact Int.emod_eq_of_lt (by omega) (by omega)
  unfold field_reckoner_sub.f
  rw [subLo_eq _ _ ha hb (by omega), subHi_eq _ _ ha hb, e]
  simp only [u64w]
  (repeat' split) <;> first | (exfalso; omega) | (congr 1; omega)
theorem mul64_eq {a b : Int} (ha : 0 ≤ a) (ha1 : a < 18446744073709551616) (hb : 0 ≤ b) (hb1 : b < 18446744073709551616) :
    bits_Mul64.f a b = some (a * b / 18446744073709551616, a * b % 18446744073709551616) := by
  have e := mul_parts a b
  have k1 := mul_half (a / 4294967296) (b / 4294967296) (by omega) (by omega) (by omega) (by omega)
  have k2 := mul_half (a / 4294967296) (b % 4294967296) (by omega) (by omega) (by omega) (by omega)
  have k3 := mul_half (a % 4294967296) (b / 4294967296) (by omega) (by omega) (by omega) (by omega)
  have k4 := mul_half (a % 4294967296) (b % 4294967296) (by omega) (by omega) (by omega) (by omega)
  unfold bits_Mul64.f
  rw [and32 a ha ha1, and32 b hb hb1]
  generalize a / 4294967296 * (b / 4294967296) = t11 at *
  generalize a / 4294967296 * (b % 4294967296) = t10 at *
  generalize a % 4294967296 * (b / 4294967296) = t01 at *
  generalize a % 4294967296 * (b % 4294967296) = t00 at *
  rw [e]
  rw [u64w_in t11 (by omega) (by omega), u64w_in t10 (by omega) (by omega), u64w_in t01 (by omega) (by omega), u64w_in t00 (by omega) (by omega)]
  rw [u64w_in (t10 + t00 / 4294967296) (by omega) (by omega), and32 (t10 + t00 / 4294967296) (by omega) (by omega)]
  obtain ⟨q, hq⟩ : ∃ q, q = t00 / 4294967296 := ⟨_, rfl⟩
  obtain ⟨r, hr⟩ : ∃ r, r = t00 % 4294967296 := ⟨_, rfl⟩
  have et : t00 = q * 4294967296 + r := by omega
  have qb : 0 ≤ q ∧ q ≤ 4294967294 := by omega
  have rb : 0 ≤ r ∧ r < 4294967296 := by omega
  rw [← hq]
  clear hq hr
  subst et
  obtain ⟨s1, hs1⟩ : ∃ s1, s1 = (t10 + q) / 4294967296 := ⟨_, rfl⟩
  obtain ⟨s0, hs0⟩ : ∃ s0, s0 = (t10 + q) % 4294967296 := ⟨_, rfl⟩
  have es : t10 = s1 * 4294967296 + s0 - q := by omega
  have sb : 0 ≤ s0 ∧ s0 < 4294967296 := by omega
  have sb1 : 0 ≤ s1 ∧ s1 < 4294967296 := by omega
  rw [← hs1, ← hs0]
  clear hs1 hs0
  subst es
  obtain ⟨v1, hv1⟩ : ∃ v1, v1 = (s0 + t01) / 4294967296 := ⟨_, rfl⟩
  obtain ⟨v0, hv0⟩ : ∃ v0, v0 = (s0 + t01) % 4294967296 := ⟨_, rfl⟩
  have ev : t01 = v1 * 4294967296 + v0 - s0 := by omega
  have vb : 0 ≤ v0 ∧ v0 < 4294967296 := by omega
  have vb1 : 0 ≤ v1 ∧ v1 < 4294967296 := by omega
  rw [u64w_in (s0 + t01) (by omega) (by omega), ← hv1]
  clear hv1 hv0
  subst ev
  rw [u64w_in (t11 + s1) (by omega) (by omega), u64w_in (t11 + s1 + v1) (by omega) (by omega)]
  have e2 : t11 * 18446744073709551616 + (s1 * 4294967296 + s0 - q + (v1 * 4294967296 + v0 - s0)) * 4294967296 + (q * 4294967296 + r) = (t11 + s1 + v1) * 18446744073709551616 + (v0 * 4294967296 + r) := by omega
  rw [e2, u64w]
  simp only [Option.some.injEq, Prod.mk.injEq]
  exact ⟨by omega, trivial⟩
theorem mul_lt {p a b : Int} (ha : 0 ≤ a) (ha1 : a < p) (hb : 0 ≤ b) (hb1 : b < p) : 0 ≤ a * b ∧ a * b < p * p := by
  refine ⟨Int.mul_nonneg ha hb, ?_⟩
  have h := Int.mul_le_mul (show a ≤ p - 1 by omega) (show b ≤ p - 1 by omega) hb (by omega)
  have : (p - 1) * (p - 1) = p * p - 2 * p + 1 := by grind
  omega
theorem emod_rng {p : Int} (x : Int) (hp : 0 < p) : 0 ≤ x % p ∧ x % p < p := ⟨Int.emod_nonneg _ (by omega), Int.emod_lt_of_pos _ hp⟩
theorem mul_eq {p : Int} {w : Bool} (h : PF p w) {a b : Int} (ha : 0 ≤ a) (ha1 : a < p) (hb : 0 ≤ b) (hb1 : b < p) : field_reckoner_mul.f p w a b = some (a * b % p) := by
  have h1 := h.lo; have h2 := h.hi
  obtain ⟨m0, m1⟩ := mul_lt ha ha1 hb hb1
  unfold field_reckoner_mul.f
  rw [mul64_eq ha (by omega) hb (by omega)]
  simp only [Option.bind_some]
  rcases h with ⟨rfl, rfl⟩ | ⟨rfl, rfl⟩
  · simp only [Bool.false_eq_true, if_false, bits_Rem64.f, bits_Div64.f]
    generalize a * b = m at *
    have e0 : m / 18446744073709551616 = 0 := by omega
    have e1 : m % 18446744073709551616 = m := by omega
    rw [e0, e1]
    simp [Int.tmod_eq_emod_of_nonneg m0]
  · simp only [if_true]
    generalize a * b = m at *
    have hhi : 0 ≤ m / 18446744073709551616 ∧ m / 18446744073709551616 < 18446744073709551616 := by omega
    rw [and32 _ hhi.1 hhi.2]
    have hP : PF 18446744069414584321 true := .inr ⟨rfl, rfl⟩
    rw [u64w_in (m / 18446744073709551616 % 4294967296 * 4294967296) (by omega) (by omega), u64w_in (m / 18446744073709551616 % 4294967296 * 4294967296 - m / 18446744073709551616 % 4294967296) (by omega) (by omega)]
    split
    · rw [u64w_in _ (by omega) (by omega), sub_eq hP (by omega) (by omega) (by omega) (by omega)]
      simp only [Option.bind_some]
      rw [add_eq hP (emod_rng _ (by omega)).1 (emod_rng _ (by omega)).2 (by omega) (by omega)]
      simp only [Option.bind_some, Option.some.injEq]
      omega
    · rw [sub_eq hP (by omega) (by omega) (by omega) (by omega)]
      simp only [Option.bind_some]
      rw [add_eq hP (emod_rng _ (by omega)).1 (emod_rng _ (by omega)).2 (by omega) (by omega)]
      simp only [Option.bind_some, Option.some.injEq]
      omega
theorem pow_loop {p : Int} {w : Bool} (h : PF p w) : ∀ (d : Nat) (a n acc : Int), 0 ≤ a → a < p → 0 ≤ acc → acc < p → 0 ≤ n → n < 2 ^ d → n < 18446744073709551616 →
    Ev (fun k => field_reckoner_pow.l0 k a n acc p w) (acc * a ^ n.toNat % p) := by
  have h1 := h.lo; have h2 := h.hi
  intro d
  induction d with
  | zero =>
    intro a n acc ha ha1 hc hc1 hn hn1 hn2
    obtain rfl : n = 0 := by simp at hn1; omega
    refine Ev.step (fun k => by rw [field_reckoner_pow.l0]) ?_
    refine Ev.neg (by omega) (Ev.fix ?_)
    simp [Int.emod_eq_of_lt hc hc1]
  | succ d ih =>
    intro a n acc ha ha1 hc hc1 hn hn1 hn2
    refine Ev.step (fun k => by rw [field_reckoner_pow.l0]) ?_
    refine Ev.ite (fun c => ?_) (fun c => ?_)
    · have r1 := emod_rng (a * a) (p := p) (by omega)
      have r2 := emod_rng (acc * a) (p := p) (by omega)
      have hd : n / 2 < 2 ^ d := by
        have : (2 : Int) ^ (d + 1) = 2 ^ d * 2 := Int.pow_succ _ _
        omega
      have hnn : n.toNat = 2 * (n / 2).toNat + (n % 2).toNat := by omega
      have hsq : ∀ m : Nat, a ^ (2 * m) = (a * a) ^ m := fun m => by
        rw [Int.pow_mul]; congr 1; rw [Int.pow_succ, Int.pow_succ]; simp
      refine Ev.ite (fun c1 => ?_) (fun c1 => ?_)
      · rw [and1 n hn hn2] at c1
        refine Ev.bnd (mul_eq h hc hc1 ha ha1) (Ev.bnd (mul_eq h ha ha1 ha ha1) ?_)
        refine Ev.cast (ih _ _ _ r1.1 r1.2 r2.1 r2.2 (by omega) hd (by omega)) ?_
        rw [hnn, c1, show (1 : Int).toNat = 1 from rfl, Int.pow_succ, hsq]
        rw [emod_mul_l, ← emod_mul_r _ ((a * a % p) ^ _), emod_pow_l, emod_mul_r]
        congr 1; grind
      · rw [and1 n hn hn2] at c1
        have c2 : n % 2 = 0 := by omega
        refine Ev.bnd (mul_eq h ha ha1 ha ha1) ?_
        refine Ev.cast (ih _ _ _ r1.1 r1.2 hc hc1 (by omega) hd (by omega)) ?_
        rw [hnn, c2, show (0 : Int).toNat = 0 from rfl, Nat.add_zero, hsq]
        rw [← emod_mul_r _ ((a * a % p) ^ _), emod_pow_l, emod_mul_r]
    · obtain rfl : n = 0 := by omega
      refine Ev.fix ?_
      simp [Int.emod_eq_of_lt hc hc1]
theorem pow_eq {p : Int} {w : Bool} (h : PF p w) {a n : Int} (ha : 0 ≤ a) (ha1 : a < p) (hn : 0 ≤ n) (hn2 : n < 18446744073709551616) :
    Ev (fun k => field_reckoner_pow.f k p w a n) (a ^ n.toNat % p) := by
  have h1 := h.lo
  exact Ev.cast (pow_loop h 64 a n 1 ha ha1 (by omega) (by omega) hn (by simpa using hn2) hn2) (by simp)
theorem of_eq (f : Int) : field_of.f f = if f = 1 then some (2013265921, false, true) else if f = 2 then some (18446744069414584321, true, true) else some (0, false, false) := rfl
end Go.Proofs.Ytbjanbbjjnoecaa.FPolyFresh
namespace Go.Proofs.Ytbjanbbjjnoecaa.FPolyFresh
open Go.RowKit Go Go.Proofs.YtbjanbbjjnoecaaW.PrintWords Go.Proofs.YtbjanbbjjnoecaaW.PrintLast Go.Proofs.YtbjanbbjjnoecaaW.PrintMore Go.Proofs.Ytbjanbbjjnoecaa.M Go.Proofs.Ytbjanbbjjnoecaa.PPolyFresh
theorem pf_of {f : Int} (h : P f ≠ 0) : PF (P f) (wd f) := by
  unfold PF P wd at *
  by_cases h1 : f = 1
  · subst h1; simp
  · by_cases h2 : f = 2
    · subst h2; simp
    · simp [h1, h2] at h
theorem of_is (f : Int) : field_of.f f = some (P f, wd f, decide (P f ≠ 0)) := by
  unfold field_of.f P wd
  by_cases h1 : f = 1
  · subst h1; simp
  · by_cases h2 : f = 2
    · subst h2; simp
    · simp [h1, h2]
theorem in_loop (p : Int) (w : Bool) (l : List Int) (hl : l.length < 4611686018427387904) : ∀ (d i : Nat), i + d = l.length →
    Ev (fun k => field_reckoner_in.l0 k l (l.length : Int) (i : Int) p w) (allIn p (l.drop i)) := by
  intro d
  induction d with
  | zero =>
    intro i hi
    refine Ev.step (fun k => by rw [field_reckoner_in.l0]) ?_
    refine Ev.neg (by omega) (Ev.fix ?_)
    rw [List.drop_eq_nil_of_le (by omega), allIn_nil]
  | succ d ih =>
    intro i hi
    have hlt : i < l.length := by omega
    refine Ev.step (fun k => by rw [field_reckoner_in.l0]) ?_
    refine Ev.pos (by omega) (Ev.pos (by omega) (Ev.pos (by omega) ?_))
    rw [drop_rd hlt, allIn_cons]
    refine Ev.ite (fun c => ?_) (fun c => ?_)
    · refine Ev.fix ?_
      rw [decide_eq_false (by omega), Bool.false_and]
    · rw [decide_eq_true (by omega), Bool.true_and, w64_succ (by omega)]
      exact ih (i + 1) (by omega)
theorem in_eq (p : Int) (w : Bool) (l : List Int) (hl : l.length < 4611686018427387904) : Ev (fun k => field_reckoner_in.f k p w l) (allIn p l) := by
  have := in_loop p w l hl l.length 0 (by omega)
  simpa [field_reckoner_in.f] using this
theorem asked_eq (f : Int) (l : List Int) (hl : l.length < 4611686018427387904) :
    Ev (fun k => field_asked.f k f l) (if ok f l then (P f, wd f, 0) else (0, false, 2)) := by
  unfold field_asked.f
  refine Ev.bnd (of_is f) ?_
  by_cases hp : P f = 0
  · have e : ok f l = false := by unfold ok; simp [hp]
    simp only [hp, e]
    exact Ev.fix (by simp)
  · refine Ev.pos (by simpa using hp) ?_
    refine Ev.bind (in_eq (P f) (wd f) l hl) ?_
    have e : ok f l = allIn (P f) l := by unfold ok; simp [hp]
    rw [e]
    refine Ev.ite (fun c => ?_) (fun c => ?_)
    · exact Ev.fix (by rw [if_pos c])
    · exact Ev.fix (by rw [if_neg c])
theorem asked_yes {f : Int} {l : List Int} (hl : l.length < 4611686018427387904) (h : ok f l = true) : Ev (fun k => field_asked.f k f l) (P f, wd f, 0) :=
  Ev.cast (asked_eq f l hl) (by rw [if_pos h])
theorem asked_no {f : Int} {l : List Int} (hl : l.length < 4611686018427387904) (h : ¬ ok f l = true) : Ev (fun k => field_asked.f k f l) (0, false, 2) :=
  Ev.cast (asked_eq f l hl) (by rw [if_neg h])
theorem ok2 {f a b : Int} (h : ok f [a, b] = true) : PF (P f) (wd f) ∧ a < P f ∧ b < P f := by
  have := ok_iff.1 h
  exact ⟨pf_of this.1, this.2 a (by simp), this.2 b (by simp)⟩
theorem ok1 {f a : Int} (h : ok f [a] = true) : PF (P f) (wd f) ∧ a < P f := by
  have := ok_iff.1 h
  exact ⟨pf_of this.1, this.2 a (by simp)⟩
theorem Add_eq (f a b : Int) (ha : 0 ≤ a) (hb : 0 ≤ b) : Ev (fun k => field_Add.f k f a b) (if ok f [a, b] then ((a + b) % P f, 0) else (0, 2)) := by
  unfold field_Add.f
  refine Ev.bind (asked_eq f _ (by simp)) ?_
  by_cases h : ok f [a, b] = true
  · simp only [h, if_true]
    obtain ⟨hp, h1, h2⟩ := ok2 h
    exact Ev.bnd (add_eq hp ha h1 hb h2) (Ev.fix rfl)
  · simp only [h]
    exact Ev.fix (by simp)
theorem Sub_eq (f a b : Int) (ha : 0 ≤ a) (hb : 0 ≤ b) : Ev (fun k => field_Sub.f k f a b) (if ok f [a, b] then ((a - b) % P f, 0) else (0, 2)) := by
  unfold field_Sub.f
  refine Ev.bind (asked_eq f _ (by simp)) ?_
  by_cases h : ok f [a, b] = true
  · simp only [h, if_true]
    obtain ⟨hp, h1, h2⟩ := ok2 h
    exact Ev.bnd (sub_eq hp ha h1 hb h2) (Ev.fix rfl)
  · simp only [h]
    exact Ev.fix (by simp)
theorem Mul_eq (f a b : Int) (ha : 0 ≤ a) (hb : 0 ≤ b) : Ev (fun k => field_Mul.f k f a b) (if ok f [a, b] then (a * b % P f, 0) else (0, 2)) := by
  unfold field_Mul.f
  refine Ev.bind (asked_eq f _ (by simp)) ?_
  by_cases h : ok f [a, b] = true
  · simp only [h, if_true]
    obtain ⟨hp, h1, h2⟩ := ok2 h
    exact Ev.bnd (mul_eq hp ha h1 hb h2) (Ev.fix rfl)
  · simp only [h]
    exact Ev.fix (by simp)
theorem inv_eq {p : Int} {w : Bool} (h : PF p w) {a : Int} (ha : 0 ≤ a) (ha1 : a < p) : Ev (fun k => field_reckoner_inv.f k p w a) (a ^ (p - 2).toNat % p) := by
  have h1 := h.lo; have h2 := h.hi
  unfold field_reckoner_inv.f
  rw [u64w_in _ (by omega) (by omega)]
  exact Ev.bind (pow_eq h ha ha1 (by omega) (by omega)) (Ev.fix rfl)
def quot (f a b : Int) : Int × Int := if ok f [a, b] then (if b = 0 then (0, 5) else (a * (b ^ (P f - 2).toNat % P f) % P f, 0)) else (0, 2)
theorem Div_eq (f a b : Int) (ha : 0 ≤ a) (hb : 0 ≤ b) : Ev (fun k => field_Div.f k f a b) (quot f a b) := by
  unfold field_Div.f quot
  refine Ev.bind (asked_eq f _ (by simp)) ?_
  by_cases h : ok f [a, b] = true
  · simp only [h, if_true]
    obtain ⟨hp, h1, h2⟩ := ok2 h
    by_cases hb0 : b = 0
    · simp only [hb0, if_true]; exact Ev.fix rfl
    · simp only [hb0, if_false]
      have hr := emod_rng (p := P f) (b ^ (P f - 2).toNat) (by have := hp.lo; omega)
      exact Ev.bind (inv_eq hp hb h2) (Ev.bnd (mul_eq hp ha h1 hr.1 hr.2) (Ev.fix rfl))
  · simp only [h]
    exact Ev.fix (by simp)
theorem Inv_eq (f a : Int) (ha : 0 ≤ a) : Ev (fun k => field_Inv.f k f a) (quot f 1 a) := by
  unfold field_Inv.f
  exact Ev.bind (Div_eq f 1 a (by decide) ha) (Ev.fix rfl)
theorem In_eq (f : Int) (l : List Int) (hl : l.length < 4611686018427387904) : Ev (fun k => field_In.f k f l) (ok f l) := by
  unfold field_In.f
  refine Ev.bind (asked_eq f _ hl) ?_
  by_cases h : ok f l = true
  · simp only [h]; exact Ev.fix (by simp)
  · simp only [h]; exact Ev.fix (by simp)
end Go.Proofs.Ytbjanbbjjnoecaa.FPolyFresh
namespace Go.Proofs.Ytbjanbbjjnoecaa.FPolyFresh
open Go.RowKit Go Go.Proofs.YtbjanbbjjnoecaaW.PrintWords Go.Proofs.YtbjanbbjjnoecaaW.PrintLast Go.Proofs.YtbjanbbjjnoecaaW.PrintMore Go.Proofs.Ytbjanbbjjnoecaa.M Go.Proofs.Ytbjanbbjjnoecaa.PPolyFresh
theorem rP (f : Int) : cr1_P.f f = some (P f) := by
  unfold cr1_P.f P; split <;> (try split) <;> rfl
theorem rSum {p a b : Int} (hp : 0 < p) (hp1 : p < 18446744073709551616) (ha : 0 ≤ a) (ha1 : a < p) (hb : 0 ≤ b) (hb1 : b < p) : cr1_Sum.f p a b = some ((a + b) % p) := by
  have e : (a + b) % p = if a + b < p then a + b else a + b - p := by
    split
    · exact Int.emod_eq_of_lt (by omega) (by omega)
    · rw [← Int.sub_emod_right]; exact Int.emod_eq_of_lt (by omega) (by omega)
  unfold cr1_Sum.f
  rw [e]
  simp only [u64w]
  (repeat' split) <;> first | (exfalso; omega) | (congr 1; omega)
theorem shr_eq (b : Int) (i : Nat) (hi : i < 64) : shr .u64 b (IntKind.u64.wrap (i : Int)) = b / 2 ^ i := by
  unfold shr
  rw [u64w_in _ (by omega) (by omega)]
  simp [IntKind.bits, Nat.min_eq_left (show i ≤ 64 by omega)]
theorem bit_split (b : Int) (i : Nat) : b % 2 ^ (i + 1) = (b / 2 ^ i % 2) * 2 ^ i + b % 2 ^ i := by
  have h : (2 : Int) ^ (i + 1) = 2 ^ i * 2 := Int.pow_succ _ _
  have hp : (0 : Int) < 2 ^ i := Int.pow_pos (by decide)
  have h1 := Int.emod_add_mul_ediv b (2 ^ i)
  have h2 := Int.emod_add_mul_ediv (b / 2 ^ i) 2
  have h3 := Int.emod_nonneg b (show (2 : Int) ^ i ≠ 0 by omega)
  have h4 := Int.emod_lt_of_pos b hp
  have h5 : (b / 2 ^ i % 2) * 2 ^ i + b % 2 ^ i < 2 ^ (i + 1) := by
    have : b / 2 ^ i % 2 = 0 ∨ b / 2 ^ i % 2 = 1 := by omega
    rcases this with e | e <;> rw [e, h] <;> omega
  have h6 : 0 ≤ (b / 2 ^ i % 2) * 2 ^ i + b % 2 ^ i := by
    have := Int.mul_nonneg (show 0 ≤ b / 2 ^ i % 2 by omega) (show (0 : Int) ≤ 2 ^ i by omega)
    omega
  have h7 : b = (b / 2 ^ i % 2) * 2 ^ i + b % 2 ^ i + 2 ^ (i + 1) * (b / 2 ^ i / 2) := by
    rw [h]
    generalize b / 2 ^ i = q at *
    generalize b % 2 ^ i = r at *
    generalize (2 : Int) ^ i = t at *
    generalize q % 2 = c at *
    generalize q / 2 = e at *
    subst h2
    rw [← h1]
    grind
  conv => lhs; rw [h7, Int.add_mul_emod_self_left]
  exact Int.emod_eq_of_lt h6 h5
theorem times_loop {p : Int} (hp : 0 < p) (hp1 : p < 18446744073709551616) {a b : Int} (ha : 0 ≤ a) (ha1 : a < p) (hb : 0 ≤ b) (hb1 : b < 18446744073709551616) : ∀ (d : Nat) (s : Int), d ≤ 64 → 0 ≤ s → s < p →
    Ev (fun k => cr1_Times.l0 k p a b s ((d : Int) - 1)) ((s * 2 ^ d + (b % 2 ^ d) * a) % p) := by
  intro d
  induction d with
  | zero =>
    intro s _ hs hs1
    refine Ev.step (fun k => by rw [cr1_Times.l0]) ?_
    refine Ev.neg (by omega) (Ev.fix ?_)
    simp [Int.emod_one, Int.emod_eq_of_lt hs hs1]
  | succ d ih =>
    intro s hd hs hs1
    have r1 : 0 ≤ (s + s) % p ∧ (s + s) % p < p := ⟨Int.emod_nonneg _ (by omega), Int.emod_lt_of_pos _ hp⟩
    have r2 : 0 ≤ ((s + s) % p + a) % p ∧ ((s + s) % p + a) % p < p := ⟨Int.emod_nonneg _ (by omega), Int.emod_lt_of_pos _ hp⟩
    have hi : wrap64 (((d + 1 : Nat) : Int) - 1 - 1) = (d : Int) - 1 := by rw [w64_in (by omega) (by omega)]; omega
    have hx : (((d + 1 : Nat) : Int) - 1) = ((d : Nat) : Int) := by omega
    refine Ev.step (fun k => by rw [cr1_Times.l0]) ?_
    refine Ev.pos (by omega) (Ev.bnd (rSum hp hp1 hs hs1 hs hs1) ?_)
    rw [hi, hx, shr_eq b d (by omega)]
    have hbd : 0 ≤ b / 2 ^ d := Int.ediv_nonneg hb (Int.le_of_lt (Int.pow_pos (by decide)))
    have hbd1 : b / 2 ^ d ≤ b := Int.ediv_le_self _ hb
    rw [and1 _ hbd (by omega), bit_split b d]
    have h2 : (2 : Int) ^ (d + 1) = 2 ^ d * 2 := Int.pow_succ _ _
    refine Ev.pos (by rw [u64w]; omega) (Ev.ite (fun c => ?_) (fun c => ?_))
    · refine Ev.bnd (rSum hp hp1 r1.1 r1.2 ha ha1) (Ev.cast (ih _ (by omega) r2.1 r2.2) ?_)
      rw [c, ← emod_add_l ((((s + s) % p + a) % p) * 2 ^ d), emod_mul_l, ← emod_mul_l, emod_add_l (s + s) a p, emod_mul_l, emod_add_l, h2]
      congr 1; grind
    · have c0 : b / 2 ^ d % 2 = 0 := by omega
      refine Ev.cast (ih _ (by omega) r1.1 r1.2) ?_
      rw [c0, ← emod_add_l ((s + s) % p * 2 ^ d), emod_mul_l, emod_add_l, h2]
      congr 1; grind
theorem rTimes {p : Int} (hp : 0 < p) (hp1 : p < 18446744073709551616) {a b : Int} (ha : 0 ≤ a) (ha1 : a < p) (hb : 0 ≤ b) (hb1 : b < 18446744073709551616) : Ev (fun k => cr1_Times.f k p a b) (a * b % p) := by
  have h := times_loop hp hp1 ha ha1 hb hb1 64 0 (by omega) (by omega) hp
  refine Ev.cast h ?_
  rw [Int.emod_eq_of_lt hb (by simpa using hb1)]
  congr 1; grind
theorem rIn_loop (p : Int) (l : List Int) (hl : l.length < 4611686018427387904) : ∀ (d i : Nat), i + d = l.length →
    Ev (fun k => cr1_In.l0 k l p (i : Int)) (allIn p (l.drop i) && p != 0) := by
  intro d
  induction d with
  | zero =>
    intro i hi
    refine Ev.step (fun k => by rw [cr1_In.l0]) ?_
    refine Ev.neg (by omega) (Ev.fix ?_)
    rw [List.drop_eq_nil_of_le (by omega), allIn_nil, Bool.true_and]
  | succ d ih =>
    intro i hi
    have hlt : i < l.length := by omega
    refine Ev.step (fun k => by rw [cr1_In.l0]) ?_
    refine Ev.pos (by omega) (Ev.pos (by omega) ?_)
    rw [drop_rd hlt, allIn_cons]
    refine Ev.ite (fun c => ?_) (fun c => ?_)
    · refine Ev.fix ?_
      rw [decide_eq_false (by omega), Bool.false_and, Bool.false_and]
    · rw [decide_eq_true (by omega), Bool.true_and, w64_succ (by omega)]
      exact ih (i + 1) (by omega)
theorem rIn (f : Int) (l : List Int) (hl : l.length < 4611686018427387904) : Ev (fun k => cr1_In.f k f l) (ok f l) := by
  unfold cr1_In.f
  refine Ev.bnd (rP f) ?_
  have := rIn_loop (P f) l hl l.length 0 (by omega)
  refine Ev.cast this ?_
  unfold ok
  rw [List.drop_zero, Bool.and_comm]
  congr 1
  by_cases h : P f = 0 <;> simp [h]
theorem rSame_loop (a b : List Int) (hl : a.length < 4611686018427387904) (he : a.length = b.length) : ∀ (d i : Nat), i + d = a.length →
    Ev (fun k => cr1_Same.l0 k a b (i : Int)) (decide (a.drop i = b.drop i)) := by
  intro d
  induction d with
  | zero =>
    intro i hi
    refine Ev.step (fun k => by rw [cr1_Same.l0]) ?_
    refine Ev.neg (by omega) (Ev.fix ?_)
    rw [List.drop_eq_nil_of_le (by omega), List.drop_eq_nil_of_le (by omega)]; simp
  | succ d ih =>
    intro i hi
    refine Ev.step (fun k => by rw [cr1_Same.l0]) ?_
    refine Ev.pos (by omega) (Ev.pos (by omega) ?_)
    rw [drop_rd (l := a) (by omega), drop_rd (l := b) (by omega), w64_succ (by omega)]
    have hb : (i : Int) < (b.length : Int) := by omega
    by_cases c : rd a (i : Int) = rd b (i : Int)
    · refine Ev.cast (r := decide (a.drop (i + 1) = b.drop (i + 1))) ?_ (by simp [c])
      simp only [hb, c, if_true]
      exact ih (i + 1) (by omega)
    · refine Ev.cast (r := false) ?_ (by simp [c])
      simp only [hb, c, if_true, if_false]
      exact Ev.fix rfl
theorem rSame (a b : List Int) (hl : a.length < 4611686018427387904) : Ev (fun k => cr1_Same.f k a b) (decide (a = b)) := by
  unfold cr1_Same.f
  by_cases he : a.length = b.length
  · have h := rSame_loop a b hl he a.length 0 (by omega)
    rw [List.drop_zero, List.drop_zero] at h
    have he' : (a.length : Int) = (b.length : Int) := by omega
    simp only [he', if_true]
    exact h
  · refine Ev.cast (r := false) ?_ (by rw [decide_eq_false]; rintro rfl; exact he rfl)
    have he' : ¬ (a.length : Int) = (b.length : Int) := by omega
    simp only [he', if_false]
    exact Ev.fix rfl
end Go.Proofs.Ytbjanbbjjnoecaa.FPolyFresh
namespace Go.Proofs.Ytbjanbbjjnoecaa.FPolyFresh
open Go.RowKit Go Go.Proofs.YtbjanbbjjnoecaaW.PrintWords Go.Proofs.YtbjanbbjjnoecaaW.PrintLast Go.Proofs.YtbjanbbjjnoecaaW.PrintMore Go.Proofs.Ytbjanbbjjnoecaa.M Go.Proofs.Ytbjanbbjjnoecaa.PPolyFresh
theorem ok_two {f a b : Int} (hp : P f ≠ 0) (ha : a < P f) (hb : b < P f) : ok f [a, b] = true := ok_iff.2 ⟨hp, by simp [ha, hb]⟩
theorem ok_nil {f : Int} : ok f [] = true ↔ P f ≠ 0 := by rw [ok_iff]; simp
theorem mx_nat (a b : Nat) : mx (a : Int) (b : Int) = ((max a b : Nat) : Int) := by unfold mx; split <;> omega
theorem pol_succ (n : Nat) (g : Nat → Int) : pol (n + 1) g = pol n g ++ [g n] := by simp [pol, List.range_succ]
theorem kadd_eq {f a b : Int} (hp : P f ≠ 0) (ha : 0 ≤ a ∧ a < P f) (hb : 0 ≤ b ∧ b < P f) : Ev (fun k => poly_reckoner_add.f k f a b) ((a + b) % P f) := by
  unfold poly_reckoner_add.f
  refine Ev.bind (Add_eq f a b ha.1 hb.1) ?_
  rw [if_pos (ok_two hp ha.2 hb.2)]
  exact Ev.fix rfl
theorem ksub_eq {f a b : Int} (hp : P f ≠ 0) (ha : 0 ≤ a ∧ a < P f) (hb : 0 ≤ b ∧ b < P f) : Ev (fun k => poly_reckoner_sub.f k f a b) ((a - b) % P f) := by
  unfold poly_reckoner_sub.f
  refine Ev.bind (Sub_eq f a b ha.1 hb.1) ?_
  rw [if_pos (ok_two hp ha.2 hb.2)]
  exact Ev.fix rfl
theorem kmul_eq {f a b : Int} (hp : P f ≠ 0) (ha : 0 ≤ a ∧ a < P f) (hb : 0 ≤ b ∧ b < P f) : Ev (fun k => poly_reckoner_mul.f k f a b) (a * b % P f) := by
  unfold poly_reckoner_mul.f
  refine Ev.bind (Mul_eq f a b ha.1 hb.1) ?_
  rw [if_pos (ok_two hp ha.2 hb.2)]
  exact Ev.fix rfl
theorem trimmed_own_loop (l : List Int) (hl : l.length < 4611686018427387904) : ∀ n : Nat, n ≤ l.length → Ev (fun k => poly_trimmed_own.l0 k l (n : Int)) (l.take (tl l n)) := by
  intro n
  induction n with
  | zero =>
    intro _
    refine Ev.step (fun k => by rw [poly_trimmed_own.l0]) ?_
    exact Ev.neg (by omega) (Ev.pos (by omega) (Ev.pos (by omega) (Ev.fix rfl)))
  | succ n ih =>
    intro hn
    have e : wrap64 (((n + 1 : Nat) : Int) - 1) = (n : Int) := by rw [w64_in (by omega) (by omega)]; omega
    refine Ev.step (fun k => by rw [poly_trimmed_own.l0]) ?_
    rw [e]
    refine Ev.pos (by omega) (Ev.pos (by omega) (Ev.pos (by omega) (Ev.ite (fun c => ?_) (fun c => ?_))))
    · rw [tl, if_pos c]; exact ih (by omega)
    · rw [tl, if_neg c]; exact Ev.pos (by omega) (Ev.pos (by omega) (Ev.fix rfl))
theorem trimmed_own_eq (l : List Int) (hl : l.length < 4611686018427387904) : Ev (fun k => poly_trimmed_own.f k l) (trim l) := by
  unfold poly_trimmed_own.f
  exact trimmed_own_loop l hl l.length (Nat.le_refl _)
def bads (f : Int) : List (List Int) → Int → Int
  | [], e => e
  | l :: r, e => if ok f l = true then bads f r (if l.length > 4096 then 4 else e) else 2
theorem rd_L1_lt {L : List (List Int)} {i : Nat} (h : i < L.length) : rd_L1 L (i : Int) = L[i] := by
  unfold rd_L1; rw [Int.toNat_natCast, List.getD_eq_getElem?_getD, List.getElem?_eq_getElem h]; rfl
theorem may_loop (f : Int) (L : List (List Int)) (hL : ∀ l ∈ L, l.length < 4611686018427387904) (hn : L.length < 4611686018427387904) : ∀ (d i : Nat) (e : Int), i + d = L.length →
    Ev (fun k => poly_may.l0 k f e L (L.length : Int) (i : Int)) (bads f (L.drop i) e) := by
  intro d
  induction d with
  | zero =>
    intro i e h
    refine Ev.step (fun k => by rw [poly_may.l0]) ?_
    rw [List.drop_of_length_le (by omega)]
    exact Ev.neg (by omega) (Ev.fix rfl)
  | succ d ih =>
    intro i e h
    have hi : i < L.length := by omega
    refine Ev.step (fun k => by rw [poly_may.l0]) ?_
    rw [rd_L1_lt hi, w64_succ (by omega), List.drop_eq_getElem_cons hi, bads]
    refine Ev.pos (by omega) (Ev.pos (by omega) (Ev.pos (by omega) (Ev.bind (In_eq f _ (hL _ (List.getElem_mem hi))) (Ev.ite (fun c => ?_) (fun c => ?_)))))
    · rw [if_pos c]
      refine Ev.ite (fun q => ?_) (fun q => ?_)
      · rw [if_pos (by omega)]; exact ih (i + 1) 4 (by omega)
      · rw [if_neg (by omega)]; exact ih (i + 1) e (by omega)
    · rw [if_neg c]; exact Ev.fix rfl
theorem may_eq (f : Int) (L : List (List Int)) (hL : ∀ l ∈ L, l.length < 4611686018427387904) (hn : L.length < 4611686018427387904) : Ev (fun k => poly_may.f k f L) (if P f = 0 then 2 else bads f L 0) := by
  unfold poly_may.f
  refine Ev.bind (In_eq f [] (by simp)) (Ev.ite (fun c => ?_) (fun c => ?_))
  · rw [if_neg (ok_nil.1 c)]
    exact may_loop f L hL hn L.length 0 0 (by omega)
  · rw [if_pos (Classical.not_not.1 fun z => c (ok_nil.2 z))]; exact Ev.fix rfl
theorem may2_eq (f : Int) (a b : List Int) (ha : a.length < 4611686018427387904) (hb : b.length < 4611686018427387904) : Ev (fun k => poly_may.f k f [a, b]) (bad f a b) := by
  refine Ev.cast (may_eq f [a, b] (by simp [ha, hb]) (by simp)) ?_
  unfold bad
  by_cases z : P f = 0
  · rw [if_pos z, if_neg (fun c => (ok_iff.1 c.1).1 z)]
  · rw [if_neg z]
    by_cases ca : ok f a = true
    · by_cases cb : ok f b = true
      · simp only [bads, if_pos ca, if_pos cb, if_pos (And.intro ca cb)]
        by_cases la : a.length ≤ 4096
        · by_cases lb : b.length ≤ 4096
          · rw [if_neg (by omega), if_neg (by omega), if_pos ⟨la, lb⟩]
          · rw [if_pos (by omega), if_neg (fun q => lb q.2)]
        · rw [if_neg (show ¬ (a.length ≤ 4096 ∧ b.length ≤ 4096) from fun q => la q.1), if_pos (show a.length > 4096 by omega)]
          split <;> rfl
      · rw [if_neg (fun c => cb c.2)]; simp only [bads, if_pos ca, if_neg cb]
    · rw [if_neg (fun c => ca c.1)]; simp only [bads, if_neg ca]
theorem padded (a b : List Int) : a.take (List.replicate (max a.length b.length) (0 : Int)).length ++ (List.replicate (max a.length b.length) (0 : Int)).drop a.length = pol (max a.length b.length) (cf a) := by
  refine pol_ext (by simp; omega) fun i hi => ?_
  rw [List.take_of_length_le (by simp; omega)]
  unfold cf rd
  rw [Int.toNat_natCast, List.getD_eq_getElem?_getD, List.getD_eq_getElem?_getD]
  by_cases c : i < a.length
  · rw [List.getElem?_append_left c]
  · rw [List.getElem?_append_right (by omega), List.getElem?_eq_none (l := a) (by omega), List.getElem?_drop, List.getElem?_replicate]
    split <;> rfl
theorem put_loop_add {f : Int} (hp : Pr (P f)) (hp0 : P f ≠ 0) (a b : List Int) (ea : El (P f) a) (eb : El (P f) b) (N : Nat) (hN : N < 17592186044416) : ∀ (d m : Nat), m + d = N →
    Ev (fun k => poly_placed_add.l0 k b f (pol N fun i => if i < m then (cf a i + cf b i) % P f else cf a i) (N : Int) (m : Int)) (trim (pol N fun i => (cf a i + cf b i) % P f), 0) := by
  have hlo := hp.lo
  intro d
  induction d with
  | zero =>
    intro m h
    refine Ev.step (fun k => by rw [poly_placed_add.l0]) ?_
    have e : (pol N fun i => if i < m then (cf a i + cf b i) % P f else cf a i) = pol N fun i => (cf a i + cf b i) % P f := pol_congr fun i hi => by rw [if_pos (by omega)]
    rw [e]
    exact Ev.neg (by omega) (Ev.bind (trimmed_own_eq _ (by rw [pol_len]; omega)) (Ev.fix rfl))
  | succ d ih =>
    intro m h
    have hm : m < N := by omega
    have e : (pol N fun i => if i < m then (cf a i + cf b i) % P f else cf a i).set m ((cf a m + cf b m) % P f) = pol N fun i => if i < m + 1 then (cf a i + cf b i) % P f else cf a i := by
      rw [pol_set hm]
      refine pol_congr fun i _ => ?_
      by_cases c : i = m
      · rw [if_pos c, if_pos (by omega), c]
      · rw [if_neg c]
        by_cases q : i < m
        · rw [if_pos q, if_pos (by omega)]
        · rw [if_neg q, if_neg (by omega)]
    have r : rd (pol N fun i => if i < m then (cf a i + cf b i) % P f else cf a i) (m : Int) = cf a m := by
      have := cf_pol (n := N) (g := fun i => if i < m then (cf a i + cf b i) % P f else cf a i) (i := m)
      rw [if_pos hm] at this; unfold cf at this ⊢
      rw [this]; simp
    have go : Ev (fun k => (poly_reckoner_add.f k f (cf a m) (cf b m)).bind fun t => poly_placed_add.l0 k b f ((pol N fun i => if i < m then (cf a i + cf b i) % P f else cf a i).set m t) (N : Int) (wrap64 ((m : Int) + 1))) (trim (pol N fun i => (cf a i + cf b i) % P f), 0) := by
      refine Ev.bind (kadd_eq hp0 (cf_el ea (by omega) m) (cf_el eb (by omega) m)) ?_
      rw [e, w64_succ (by omega)]
      exact ih (m + 1) (by omega)
    refine Ev.step (fun k => by rw [poly_placed_add.l0]) ?_
    simp only [r, pol_len, Int.toNat_natCast]
    refine Ev.pos (by omega) (Ev.ite (fun c => ?_) (fun c => ?_))
    · exact Ev.pos (by omega) (Ev.pos (by omega) go)
    · have z : cf b m = 0 := cf_ge (by omega)
      rw [z] at go
      exact Ev.pos (by omega) (Ev.pos (by omega) go)
theorem PAdd_eq (f : Int) (a b : List Int) (wa : Wd a) (wb : Wd b) (ha : a.length < 17592186044416) (hb : b.length < 17592186044416) : Ev (fun k => poly_Add.f k f a b) (Padd f a b) := by
  unfold poly_Add.f poly_placed_add.f
  refine Ev.bind (a := Padd f a b) (Ev.bind (may2_eq f a b (by omega) (by omega)) ?_) (Ev.fix rfl)
  unfold Padd
  refine Ev.ite (fun c => ?_) (fun c => ?_)
  · rw [if_pos c]
    obtain ⟨ka, kb, la, lb⟩ := bad_zero c
    rw [mx_nat]
    simp only [Int.toNat_natCast]
    refine Ev.pos (by omega) (Ev.pos (by omega) (Ev.bnd rfl (Ev.bnd rfl ?_)))
    rw [padded a b, pol_len]
    have h := put_loop_add (ok_pr ka) (ok_iff.1 ka).1 a b (wa.el (by unfold ok at ka; simp at ka; exact ka.2)) (wb.el (by unfold ok at kb; simp at kb; exact kb.2)) (max a.length b.length) (by omega) (max a.length b.length) 0 (by omega)
    unfold sumP
    simpa using h
  · rw [if_neg c]; exact Ev.fix rfl
end Go.Proofs.Ytbjanbbjjnoecaa.FPolyFresh
namespace Go.Proofs.Ytbjanbbjjnoecaa.FPolyFresh
open Go.RowKit Go Go.Proofs.YtbjanbbjjnoecaaW.PrintWords Go.Proofs.YtbjanbbjjnoecaaW.PrintLast Go.Proofs.YtbjanbbjjnoecaaW.PrintMore Go.Proofs.Ytbjanbbjjnoecaa.M Go.Proofs.Ytbjanbbjjnoecaa.PPolyFresh
theorem ok_all {f : Int} {l : List Int} (h : ok f l = true) : allIn (P f) l = true := by unfold ok at h; simp at h; exact h.2
theorem rBad (f : Int) (a b : List Int) (ha : a.length < 4611686018427387904) (hb : b.length < 4611686018427387904) : Ev (fun k => cr3_Bad.f k f a b) (bad f a b) := by
  unfold cr3_Bad.f bad
  refine Ev.bind (rIn f a ha) (Ev.ite (fun c => ?_) (fun c => ?_))
  · refine Ev.bind (rIn f b hb) ?_
    refine Ev.step (fun k => by rw [cr3_Bad.j0]) ?_
    by_cases cb : ok f b = true
    · rw [if_pos (And.intro c cb), cb]
      refine Ev.neg (by simp) (Ev.ite (fun q => ?_) (fun q => Ev.ite (fun r => ?_) (fun r => ?_)))
      · rw [if_neg (fun z => by have := z.1; omega)]; exact Ev.fix rfl
      · rw [if_neg (fun z => by have := z.2; omega)]; exact Ev.fix rfl
      · rw [if_pos ⟨by omega, by omega⟩]; exact Ev.fix rfl
    · rw [if_neg (show ¬ (ok f a = true ∧ ok f b = true) from fun z => cb z.2), show ok f b = false by simpa using cb]
      exact Ev.pos rfl (Ev.fix rfl)
  · rw [if_neg (fun z => c z.1)]
    refine Ev.step (fun k => by rw [cr3_Bad.j0]) ?_
    exact Ev.pos rfl (Ev.fix rfl)
theorem rd_pol {n i : Nat} {g : Nat → Int} (h : i < n) : rd (pol n g) (i : Int) = g i := by
  have := cf_pol (n := n) (g := g) (i := i); rw [if_pos h] at this; exact this
theorem prod_inner {f : Int} (hp0 : P f ≠ 0) (a b : List Int) (ea : El (P f) a) (eb : El (P f) b) (N m : Nat) (hm : m < a.length) (hN : N = a.length + b.length - 1) (hs : N < 17592186044416) {R : List Int}
    (hk : Ev (fun k => poly_reckoner_product.l0 k b (pol N (row (P f) a b m b.length)) a (a.length : Int) ((m + 1 : Nat) : Int) f) R) : ∀ (d j : Nat), j + d = b.length →
    Ev (fun k => poly_reckoner_product.l1 k b (pol N (row (P f) a b m j)) (m : Int) (cf a m) a (a.length : Int) (m : Int) b (b.length : Int) (j : Int) f) R := by
  have hp := P_pr hp0
  have hlo := hp.lo; have hhi := hp.hi
  intro d
  induction d with
  | zero =>
    intro j h
    refine Ev.step (fun k => by rw [poly_reckoner_product.l1]) ?_
    have e : j = b.length := by omega
    subst e
    rw [show wrap64 ((m : Int) + 1) = ((m + 1 : Nat) : Int) from w64_succ (by omega)]
    exact Ev.neg (by omega) hk
  | succ d ih =>
    intro j h
    refine Ev.step (fun k => by rw [poly_reckoner_product.l1]) ?_
    rw [show wrap64 ((j : Int) + 1) = ((j + 1 : Nat) : Int) from w64_succ (by omega), show wrap64 ((m : Int) + (j : Int)) = ((m + j : Nat) : Int) by rw [w64_in (by omega) (by omega)]; omega, rd_pol (by omega), show rd b (j : Int) = cf b j from rfl]
    have ra := cf_el ea (by omega) m; have rb := cf_el eb (by omega) j
    refine Ev.pos (by omega) (Ev.pos (by omega) (Ev.pos (by omega) (Ev.pos (by omega) (Ev.pos (by rw [pol_len]; omega) (Ev.bind (kmul_eq hp0 ra rb) (Ev.bind (kadd_eq hp0 (row_rng (by omega) a b m j (m + j)) (emod_rng _ (by omega))) ?_))))))
    rw [Int.toNat_natCast, row_set (by omega)]
    exact ih (j + 1) (by omega)
theorem prod_outer {f : Int} (hp0 : P f ≠ 0) (a b : List Int) (ea : El (P f) a) (eb : El (P f) b) (N : Nat) (hN : N = a.length + b.length - 1) (hs : N < 17592186044416) : ∀ (d m : Nat), m + d = a.length →
    Ev (fun k => poly_reckoner_product.l0 k b (pol N fun n => cv a b m n % P f) a (a.length : Int) (m : Int) f) (pol N fun n => cv a b a.length n % P f) := by
  intro d
  induction d with
  | zero =>
    intro m h
    refine Ev.step (fun k => by rw [poly_reckoner_product.l0]) ?_
    have e : m = a.length := by omega
    subst e
    exact Ev.neg (by omega) (Ev.fix rfl)
  | succ d ih =>
    intro m h
    refine Ev.step (fun k => by rw [poly_reckoner_product.l0]) ?_
    refine Ev.pos (by omega) (Ev.pos (by omega) (Ev.pos (by omega) ?_))
    have e : (pol N fun n => cv a b m n % P f) = pol N (row (P f) a b m 0) := pol_congr fun n _ => (row_zero _ a b m n).symm
    have e2 : pol N (row (P f) a b m b.length) = pol N fun n => cv a b (m + 1) n % P f := pol_congr fun n _ => row_last _ a b m n
    rw [e]
    refine prod_inner hp0 a b ea eb N m (by omega) hN hs ?_ b.length 0 (Nat.zero_add _)
    rw [e2]
    exact ih (m + 1) (by omega)
theorem product_eq {f : Int} (hp0 : P f ≠ 0) (a b : List Int) (ea : El (P f) a) (eb : El (P f) b) (ha : a.length < 4398046511104) (hb : b.length < 4398046511104) : Ev (fun k => poly_reckoner_product.f k f a b) (mulP (P f) a b) := by
  unfold poly_reckoner_product.f mulP
  refine Ev.ite (fun c => ?_) (fun c => ?_)
  · refine Ev.step (fun k => by rw [poly_reckoner_product.j0]) ?_
    rw [if_pos (.inl (List.length_eq_zero_iff.1 (by omega)))]
    exact Ev.pos rfl (Ev.fix rfl)
  · refine Ev.step (fun k => by rw [poly_reckoner_product.j0]) ?_
    refine Ev.ite (fun q => ?_) (fun q => ?_)
    · rw [if_pos (.inr (List.length_eq_zero_iff.1 (by have := beq_iff_eq.1 q; omega)))]
      exact Ev.fix rfl
    · have hb0 : 0 < b.length := Nat.pos_of_ne_zero fun z => q (by simp [z])
      rw [if_neg (fun z => by rcases z with z | z <;> simp [z] at c hb0)]
      have e : wrap64 (wrap64 ((a.length : Int) + (b.length : Int)) - 1) = ((a.length + b.length - 1 : Nat) : Int) := by rw [w64_in (i := (a.length : Int) + b.length) (by omega) (by omega), w64_in (by omega) (by omega)]; omega
      rw [e, Int.toNat_natCast, pol_zero]
      refine Ev.pos (by omega) (Ev.pos (by omega) ?_)
      have h := prod_outer hp0 a b ea eb (a.length + b.length - 1) rfl (by omega) a.length 0 (Nat.zero_add _)
      simpa [cv] using h
theorem PMul_eq (f : Int) (a b : List Int) (wa : Wd a) (wb : Wd b) (ha : a.length < 17592186044416) (hb : b.length < 17592186044416) : Ev (fun k => poly_Mul.f k f a b) (Pmul f a b) := by
  unfold poly_Mul.f Pmul
  refine Ev.bind (may2_eq f a b (by omega) (by omega)) (Ev.ite (fun c => ?_) (fun c => ?_))
  · rw [if_pos c]
    obtain ⟨ka, kb, la, lb⟩ := bad_zero c
    have ta := trim_le a; have tb := trim_le b
    have ea := trim_el (wa.el (ok_all ka)); have eb := trim_el (wb.el (ok_all kb))
    have pr := product_eq (ok_iff.1 ka).1 (trim a) (trim b) ea eb (by omega) (by omega)
    refine Ev.bind (trimmed_eq a (by omega)) (Ev.bind (trimmed_eq b (by omega)) ?_)
    have nil : ∀ l : List Int, (¬ (l.length : Int) > 0) → l = [] := fun l q => List.length_eq_zero_iff.1 (by omega)
    refine Ev.ite (fun q => Ev.ite (fun r => ?_) (fun r => ?_)) (fun q => ?_)
    · rw [if_neg (fun z => by rcases z with z | z <;> simp [z] at q r)]
      have e : wrap64 (wrap64 (((trim a).length : Int) + ((trim b).length : Int)) - 1) = (((trim a).length + (trim b).length - 1 : Nat) : Int) := by rw [w64_in (i := ((trim a).length : Int) + (trim b).length) (by omega) (by omega), w64_in (by omega) (by omega)]; omega
      rw [e]
      refine Ev.ite (fun s => ?_) (fun s => ?_)
      · rw [if_pos (by omega)]; exact Ev.fix rfl
      · rw [if_neg (by omega)]; exact Ev.bind pr (Ev.fix rfl)
    · have z : trim a = [] ∨ trim b = [] := .inr (nil _ r)
      rw [if_pos z]
      refine Ev.bind pr (Ev.fix ?_)
      unfold mulP; rw [if_pos z]
    · have z : trim a = [] ∨ trim b = [] := .inl (nil _ q)
      rw [if_pos z]
      refine Ev.bind pr (Ev.fix ?_)
      unfold mulP; rw [if_pos z]
  · rw [if_neg c]; exact Ev.fix rfl
theorem rprod_inner {f : Int} (hp0 : P f ≠ 0) (a b : List Int) (ea : El (P f) a) (eb : El (P f) b) (N m : Nat) (hm : m < a.length) (hN : N = a.length + b.length - 1) (hs : N < 17592186044416) {R : List Int × Int}
    (hk : Ev (fun k => cr3_Mul.l0 k f a b (pol N (row (P f) a b m b.length)) ((m + 1 : Nat) : Int)) R) : ∀ (d j : Nat), j + d = b.length →
    Ev (fun k => cr3_Mul.l1 k f a b (pol N (row (P f) a b m j)) (m : Int) (j : Int)) R := by
  have hp := P_pr hp0
  have hlo := hp.lo; have hhi := hp.hi
  intro d
  induction d with
  | zero =>
    intro j h
    refine Ev.step (fun k => by rw [cr3_Mul.l1]) ?_
    have e : j = b.length := by omega
    subst e
    rw [show wrap64 ((m : Int) + 1) = ((m + 1 : Nat) : Int) from w64_succ (by omega)]
    exact Ev.neg (by omega) hk
  | succ d ih =>
    intro j h
    refine Ev.step (fun k => by rw [cr3_Mul.l1]) ?_
    rw [show wrap64 ((j : Int) + 1) = ((j + 1 : Nat) : Int) from w64_succ (by omega), show wrap64 ((m : Int) + (j : Int)) = ((m + j : Nat) : Int) by rw [w64_in (by omega) (by omega)]; omega, rd_pol (by omega), show rd b (j : Int) = cf b j from rfl, show rd a (m : Int) = cf a m from rfl]
    have ra := cf_el ea (by omega) m; have rb := cf_el eb (by omega) j
    have rr := row_rng (p := P f) (by omega) a b m j (m + j)
    have rt := emod_rng (p := P f) (cf a m * cf b j) (by omega)
    refine Ev.pos (by omega) (Ev.bnd (rP f) (Ev.pos (by omega) (Ev.pos (by rw [pol_len]; omega) (Ev.bnd (rP f) (Ev.pos (by omega) (Ev.pos (by omega) (Ev.pos (by omega) (Ev.bind (rTimes (by omega) (by omega) ra.1 ra.2 rb.1 (by omega)) (Ev.bnd (rSum (by omega) (by omega) rr.1 rr.2 rt.1 rt.2) ?_)))))))))
    rw [Int.toNat_natCast, row_set (by omega)]
    exact ih (j + 1) (by omega)
theorem rprod_outer {f : Int} (hp0 : P f ≠ 0) (a b : List Int) (ea : El (P f) a) (eb : El (P f) b) (N : Nat) (hN : N = a.length + b.length - 1) (hs : N < 17592186044416) : ∀ (d m : Nat), m + d = a.length →
    Ev (fun k => cr3_Mul.l0 k f a b (pol N fun n => cv a b m n % P f) (m : Int)) (trim (pol N fun n => cv a b a.length n % P f), 0) := by
  intro d
  induction d with
  | zero =>
    intro m h
    refine Ev.step (fun k => by rw [cr3_Mul.l0]) ?_
    have e : m = a.length := by omega
    subst e
    exact Ev.neg (by omega) (Ev.bind (rTrim _ (by rw [pol_len]; exact hs)) (Ev.fix rfl))
  | succ d ih =>
    intro m h
    refine Ev.step (fun k => by rw [cr3_Mul.l0]) ?_
    refine Ev.pos (by omega) ?_
    have e : (pol N fun n => cv a b m n % P f) = pol N (row (P f) a b m 0) := pol_congr fun n _ => (row_zero _ a b m n).symm
    have e2 : pol N (row (P f) a b m b.length) = pol N fun n => cv a b (m + 1) n % P f := pol_congr fun n _ => row_last _ a b m n
    rw [e]
    refine rprod_inner hp0 a b ea eb N m (by omega) hN hs ?_ b.length 0 (Nat.zero_add _)
    rw [e2]
    exact ih (m + 1) (by omega)
theorem rPMul (f : Int) (a b : List Int) (wa : Wd a) (wb : Wd b) (ha : a.length < 17592186044416) (hb : b.length < 17592186044416) : Ev (fun k => cr3_Mul.f k f a b) (Pmul f a b) := by
  unfold cr3_Mul.f Pmul
  refine Ev.bind (rBad f a b (by omega) (by omega)) (Ev.ite (fun c => ?_) (fun c => ?_))
  · rw [if_pos c]
    obtain ⟨ka, kb, la, lb⟩ := bad_zero c
    have ta := trim_le a; have tb := trim_le b
    have ea := trim_el (wa.el (ok_all ka)); have eb := trim_el (wb.el (ok_all kb))
    refine Ev.bind (rTrim a ha) (Ev.bind (rTrim b hb) ?_)
    refine Ev.ite (fun q => ?_) (fun q => ?_)
    · rw [if_pos (.inl (List.length_eq_zero_iff.1 (by omega)))]
      refine Ev.step (fun k => by rw [cr3_Mul.j0]) ?_
      exact Ev.pos rfl (Ev.fix rfl)
    · refine Ev.step (fun k => by rw [cr3_Mul.j0]) ?_
      refine Ev.ite (fun r => ?_) (fun r => ?_)
      · rw [if_pos (.inr (List.length_eq_zero_iff.1 (by have := beq_iff_eq.1 r; omega)))]
        exact Ev.fix rfl
      · have hb0 : 0 < (trim b).length := Nat.pos_of_ne_zero fun z => r (by simp [z])
        have hn : ¬ (trim a = [] ∨ trim b = []) := fun z => by rcases z with z | z <;> simp [z] at q hb0
        rw [if_neg hn]
        have e : wrap64 (wrap64 (((trim a).length : Int) + ((trim b).length : Int)) - 1) = (((trim a).length + (trim b).length - 1 : Nat) : Int) := by rw [w64_in (i := ((trim a).length : Int) + (trim b).length) (by omega) (by omega), w64_in (by omega) (by omega)]; omega
        rw [e]
        refine Ev.ite (fun s => ?_) (fun s => ?_)
        · rw [if_pos (by omega)]; exact Ev.fix rfl
        · rw [if_neg (by omega), Int.toNat_natCast, pol_zero]
          refine Ev.pos (by omega) (Ev.pos (by omega) ?_)
          have h := rprod_outer (ok_iff.1 ka).1 (trim a) (trim b) ea eb ((trim a).length + (trim b).length - 1) rfl (by omega) (trim a).length 0 (Nat.zero_add _)
          have t := mulP_top (ok_pr ka) (trim_trim a) (trim_trim b) ea eb
          have d : mulP (P f) (trim a) (trim b) = pol ((trim a).length + (trim b).length - 1) fun n => cv (trim a) (trim b) (trim a).length n % P f := by unfold mulP; rw [if_neg hn]
          rw [← d, t] at h
          simpa [cv] using h
  · rw [if_neg c]; exact Ev.fix rfl
end Go.Proofs.Ytbjanbbjjnoecaa.FPolyFresh
namespace Go.Proofs.Ytbjanbbjjnoecaa.FPolyFresh
open Go.RowKit Go Go.Proofs.YtbjanbbjjnoecaaW.PrintWords Go.Proofs.YtbjanbbjjnoecaaW.PrintLast Go.Proofs.YtbjanbbjjnoecaaW.PrintMore Go.Proofs.Ytbjanbbjjnoecaa.M Go.Proofs.Ytbjanbbjjnoecaa.PPolyFresh
def valE (f : Int) (a : List Int) (x : Int) : Int × Int := if bad f a [x] = 0 then (sm a x a.length % P f, 0) else (0, bad f a [x])
theorem PEval_eq (f x : Int) (a : List Int) (hx : 0 ≤ x) (wa : Wd a) (ha : a.length < 17592186044416) : Ev (fun k => poly_Eval.f k f a x) (valE f a x) := by
  unfold poly_Eval.f valE
  refine Ev.bind (In_eq f [x] (by simp)) (Ev.ite (fun q => ?_) (fun q => ?_))
  · have hp := (ok_iff.1 q).1
    have hx2 : x < P f := (ok_iff.1 q).2 x (by simp)
    have e : (if P f = 0 then 2 else bads f [a] 0) = bad f a [x] := by
      rw [if_neg hp]
      unfold bad
      by_cases ca : ok f a = true
      · rw [if_pos ⟨ca, q⟩]
        simp only [bads, if_pos ca]
        by_cases l : a.length ≤ 4096
        · rw [if_neg (by omega), if_pos ⟨l, by simp⟩]
        · rw [if_pos (by omega), if_neg (fun z => l z.1)]
      · rw [if_neg (fun z => ca z.1)]
        simp only [bads, if_neg ca]
    have m := may_eq f [a] (by simp; omega) (by simp)
    rw [e] at m
    refine Ev.bind m (Ev.ite (fun b => ?_) (fun b => ?_))
    · rw [if_pos b]
      obtain ⟨ka, _, la, _⟩ := bad_zero b
      have ea := wa.el (ok_all ka)
      refine Ev.pos ?_ (Ev.fix ?_)
      · rw [Bool.and_eq_true]
        refine ⟨by unfold inF; simp [hx, hx2], List.all_eq_true.2 fun c hc => ?_⟩
        have := ea c hc
        unfold inF; simp [this]
      · rw [← horner]; rfl
    · rw [if_neg b]; exact Ev.fix rfl
  · have e : bad f a [x] = 2 := by unfold bad; rw [if_neg (fun z => q z.2)]
    rw [e, if_neg (by omega)]; exact Ev.fix rfl
end Go.Proofs.Ytbjanbbjjnoecaa.FPolyFresh
namespace Go.Proofs.Ytbjanbbjjnoecaa.FPolyFresh
open Go.RowKit Go Go.Proofs.YtbjanbbjjnoecaaW.PrintWords Go.Proofs.YtbjanbbjjnoecaaW.PrintLast Go.Proofs.YtbjanbbjjnoecaaW.PrintMore Go.Proofs.Ytbjanbbjjnoecaa.M Go.Proofs.Ytbjanbbjjnoecaa.PPolyFresh
theorem anchored3 : Ev (fun k => conclavelaw03_anchored.f k) true := by
  unfold conclavelaw03_anchored.f
  have w1 : Wd [1, 1] := Wd.cons (by omega) (Wd.cons (by omega) Wd.nil)
  have w2 : Wd [2013265921] := Wd.cons (by omega) Wd.nil
  have e1 : Pmul 2 [1, 1] [1, 1] = ([1, 2, 1], 0) := by kernel_rfl
  have e2 : valE 1 [2013265921] 1 = (0, 2) := by kernel_rfl
  have h1 := PMul_eq 2 [1, 1] [1, 1] w1 w1 (by simp) (by simp)
  have h2 := PEval_eq 1 1 [2013265921] (by omega) w2 (by simp)
  rw [e1] at h1
  rw [e2] at h2
  exact Ev.bind h1 (Ev.bind h2 (Ev.pos rfl (Ev.pos rfl (Ev.bind (rSame _ _ (by simp)) (Ev.fix (by simp))))))
end Go.Proofs.Ytbjanbbjjnoecaa.FPolyFresh
namespace Go.Proofs.Ytbjanbbjjnoecaa.FPolyFresh
open Go.RowKit Go Go.Proofs.YtbjanbbjjnoecaaW.PrintWords Go.Proofs.YtbjanbbjjnoecaaW.PrintLast Go.Proofs.YtbjanbbjjnoecaaW.PrintMore Go.Proofs.Ytbjanbbjjnoecaa.M Go.Proofs.Ytbjanbbjjnoecaa.PPolyFresh
def rowR (p c : Int) (d : Nat) (q r : List Int) (j i : Nat) : Int := if d ≤ i ∧ i < d + j then (cf r i - c * cf q (i - d)) % p else cf r i
theorem rowR_zero (p c : Int) (d : Nat) (q r : List Int) : pol r.length (rowR p c d q r 0) = r :=
  (pol_ext rfl fun i _ => by unfold rowR; rw [if_neg (by omega)]).symm
theorem rowR_last (p c : Int) (d : Nat) (q r : List Int) (h : r.length = d + q.length) : trim (pol r.length (rowR p c d q r q.length)) = stepR p c d q r := by
  unfold stepR
  congr 1
  refine pol_congr fun i hi => ?_
  unfold rowR
  by_cases c : d ≤ i
  · rw [if_pos ⟨c, by omega⟩, if_pos c]
  · rw [if_neg (fun z => c z.1), if_neg c]
theorem rowR_set {p c : Int} {d : Nat} {q r : List Int} {j : Nat} (h : d + j < r.length) : (pol r.length (rowR p c d q r j)).set (d + j) ((rowR p c d q r j (d + j) - c * cf q j % p) % p) = pol r.length (rowR p c d q r (j + 1)) := by
  rw [pol_set h]
  refine pol_congr fun i _ => ?_
  by_cases e : i = d + j
  · subst e
    unfold rowR
    rw [if_pos rfl, if_neg (by omega), if_pos (by omega), show d + j - d = j by omega, emod_sub_r]
  · rw [if_neg e]
    unfold rowR
    by_cases q : d ≤ i ∧ i < d + j
    · rw [if_pos q, if_pos ⟨q.1, by omega⟩]
    · rw [if_neg q, if_neg (by omega)]
theorem rowR_rng {p c : Int} (hp : 0 < p) {d : Nat} {q r : List Int} (hr : El p r) (j i : Nat) : 0 ≤ rowR p c d q r j i ∧ rowR p c d q r j i < p := by
  unfold rowR; split
  · exact ⟨Int.emod_nonneg _ (by omega), Int.emod_lt_of_pos _ hp⟩
  · exact cf_el hr hp i
theorem dm_stop {p top : Int} {q : List Int} {n : Nat} {g : Nat → Int} {r : List Int} (h : r.length < q.length) : dm p top q n g r = (g, r) := by
  cases n with
  | zero => rfl
  | succ n => rw [dm, if_pos h]
theorem quot_inv {f b : Int} (hp : P f ≠ 0) (hb : 0 ≤ b ∧ b < P f) (h0 : b ≠ 0) : quot f 1 b = (inv (P f) b, 0) := by
  have h := P_pr hp
  have hlo := h.lo
  unfold quot
  rw [if_pos (ok_two hp (by omega) hb.2), if_neg h0, Int.one_mul, Int.emod_emod]; rfl
theorem bad_el {f : Int} {a b : List Int} (wa : Wd a) (wb : Wd b) (h : bad f a b = 0) : Pr (P f) ∧ P f ≠ 0 ∧ El (P f) a ∧ El (P f) b ∧ a.length ≤ 4096 ∧ b.length ≤ 4096 := by
  obtain ⟨ka, kb, la, lb⟩ := bad_zero h
  exact ⟨ok_pr ka, (ok_iff.1 ka).1, wa.el (ok_all ka), wb.el (ok_all kb), la, lb⟩
theorem divm_inner {f : Int} (hp0 : P f ≠ 0) {c top : Int} (hc : 0 ≤ c ∧ c < P f) {d : Nat} {q r quo : List Int} (hq : El (P f) q) (hr : El (P f) r) (hl : r.length = d + q.length) (hs : r.length < 17592186044416) {R : List Int × List Int × Int}
    (hk : Ev (fun k => poly_DivMod.l0 k q quo (pol r.length (rowR (P f) c d q r q.length)) top f) R) : ∀ (n j : Nat), j + n = q.length →
    Ev (fun k => poly_DivMod.l1 k q quo (pol r.length (rowR (P f) c d q r j)) top (d : Int) c q (q.length : Int) (j : Int) f) R := by
  have hp := P_pr hp0
  have hlo := hp.lo; have hhi := hp.hi
  intro n
  induction n with
  | zero =>
    intro j h
    refine Ev.step (fun k => by rw [poly_DivMod.l1]) ?_
    have e : j = q.length := by omega
    subst e
    exact Ev.neg (by omega) hk
  | succ n ih =>
    intro j h
    refine Ev.step (fun k => by rw [poly_DivMod.l1]) ?_
    rw [show wrap64 ((j : Int) + 1) = ((j + 1 : Nat) : Int) from w64_succ (by omega), show wrap64 ((d : Int) + (j : Int)) = ((d + j : Nat) : Int) by rw [w64_in (by omega) (by omega)]; omega, rd_pol (by omega), show rd q (j : Int) = cf q j from rfl]
    have rb := cf_el hq (by omega) j
    refine Ev.pos (by omega) (Ev.pos (by omega) (Ev.pos (by omega) (Ev.pos (by omega) (Ev.pos (by rw [pol_len]; omega) (Ev.bind (kmul_eq hp0 hc rb) (Ev.bind (ksub_eq hp0 (rowR_rng (by omega) hr j (d + j)) (emod_rng _ (by omega))) ?_))))))
    rw [Int.toNat_natCast, rowR_set (by omega)]
    exact ih (j + 1) (by omega)
theorem divm_loop {f : Int} (hp0 : P f ≠ 0) {top : Int} (ht0 : 0 ≤ top ∧ top < P f) {q : List Int} (hq : Cn (P f) q) (hq0 : q ≠ []) (ht : cf q (q.length - 1) * top % P f = 1) (hql : q.length < 17592186044416) (N : Nat) (hN : N < 17592186044416) : ∀ (n : Nat) (g : Nat → Int) (x r : List Int), trim x = r → El (P f) x → x.length < 17592186044416 → r.length ≤ n → r.length < N + q.length →
    Ev (fun k => poly_DivMod.l0 k q (pol N g) x top f) (trim (pol N (dm (P f) top q n g r).1), (dm (P f) top q n g r).2, 0) := by
  have hp := P_pr hp0
  have hlo := hp.lo
  have q0 : q.length ≠ 0 := fun e => hq0 (List.length_eq_zero_iff.1 e)
  have stop : ∀ (n : Nat) (g : Nat → Int) (x r : List Int), trim x = r → x.length < 17592186044416 → r.length < N + q.length → r.length < q.length →
      Ev (fun k => poly_DivMod.l0 k q (pol N g) x top f) (trim (pol N (dm (P f) top q n g r).1), (dm (P f) top q n g r).2, 0) := by
    intro n g x r e hx hr hc
    refine Ev.step (fun k => by rw [poly_DivMod.l0]) ?_
    refine Ev.bind (trimmed_own_eq x (by omega)) ?_
    rw [e, dm_stop hc]
    have : q.length < N + q.length ∨ N = 0 := by omega
    refine Ev.pos ?_ (Ev.bind (trimmed_own_eq _ (by rw [pol_len]; omega)) (Ev.fix rfl))
    unfold wrap64; have := trim_le x; rw [e] at this; omega
  intro n
  induction n with
  | zero =>
    intro g x r e ex hx hn hN
    exact stop 0 g x r e hx hN (by omega)
  | succ n ih =>
    intro g x r e ex hx hn hN
    by_cases hc : r.length < q.length
    · exact stop (n + 1) g x r e hx hN hc
    · have hr : Cn (P f) r := by rw [← e]; exact Cn.trim ex
      have hl := trim_le x
      rw [e] at hl
      refine Ev.step (fun k => by rw [poly_DivMod.l0]) ?_
      refine Ev.bind (trimmed_own_eq x (by omega)) ?_
      rw [e, dm, if_neg hc]
      rw [show wrap64 ((r.length : Int) - (q.length : Int)) = ((r.length - q.length : Nat) : Int) by rw [w64_in (by omega) (by omega)]; omega, show wrap64 ((r.length : Int) - 1) = ((r.length - 1 : Nat) : Int) by rw [w64_in (by omega) (by omega)]; omega, show rd r ((r.length - 1 : Nat) : Int) = cf r (r.length - 1) from rfl]
      have hc2 := emod_rng (p := P f) (cf r (r.length - 1) * top) (by omega)
      refine Ev.neg (by omega) (Ev.pos (by omega) (Ev.pos (by omega) (Ev.bind (kmul_eq hp0 (cf_el hr.el (by omega) _) ht0) (Ev.pos (by omega) (Ev.pos (by rw [pol_len]; omega) ?_)))))
      rw [Int.toNat_natCast, pol_set (by omega)]
      have e2 := rowR_zero (P f) (cf r (r.length - 1) * top % P f) (r.length - q.length) q r
      have k2 := rowR_last (P f) (cf r (r.length - 1) * top % P f) (r.length - q.length) q r (by omega)
      have hlt := stepR_len hp hq0 hr (by omega) ht
      have h := divm_inner hp0 (top := top) (quo := pol N fun i => if i = r.length - q.length then cf r (r.length - 1) * top % P f else g i) hc2 (d := r.length - q.length) hq.el hr.el (by omega) (by omega)
        (ih _ _ _ k2 (pol_el fun i _ => rowR_rng (by omega) hr.el _ i) (by rw [pol_len]; omega) (by omega) (by omega)) q.length 0 (Nat.zero_add _)
      rw [e2] at h
      exact h
theorem PDivMod_eq (f : Int) (a b : List Int) (wa : Wd a) (wb : Wd b) (ha : a.length < 17592186044416) (hb : b.length < 17592186044416) : Ev (fun k => poly_DivMod.f k f a b) (Pdm f a b) := by
  unfold poly_DivMod.f Pdm
  refine Ev.bind (may2_eq f a b (by omega) (by omega)) (Ev.ite (fun c => ?_) (fun c => ?_))
  · rw [if_pos c]
    obtain ⟨hp, hp0, ea, eb, la, lb⟩ := bad_el wa wb c
    have hlo := hp.lo
    have ta := trim_le a; have tb := trim_le b
    refine Ev.bind (trimmed_eq b (by omega)) (Ev.ite (fun z => ?_) (fun z => ?_))
    · rw [if_pos (List.length_eq_zero_iff.1 (by omega))]; exact Ev.fix rfl
    · have hb0 : trim b ≠ [] := fun e => z (by rw [e]; rfl)
      have cb := Cn.trim (p := P f) eb
      have ca := Cn.trim (p := P f) ea
      rw [if_neg hb0, show wrap64 (((trim b).length : Int) - 1) = (((trim b).length - 1 : Nat) : Int) by rw [w64_in (by omega) (by omega)]; omega, show rd (trim b) (((trim b).length - 1 : Nat) : Int) = cf (trim b) ((trim b).length - 1) from rfl]
      have rb := cf_el cb.el (p := P f) (by omega) ((trim b).length - 1)
      have hi := Inv_eq f (cf (trim b) ((trim b).length - 1)) rb.1
      rw [quot_inv hp0 rb (cb.top hb0)] at hi
      have rg := inv_rng hp (cf (trim b) ((trim b).length - 1))
      refine Ev.pos (by omega) (Ev.pos (by omega) (Ev.bind hi (Ev.pos rfl (Ev.bind (Trim_eq a ha) ?_))))
      obtain ⟨N, hN⟩ : ∃ N : Nat, N = max 0 ((trim a).length + 1 - (trim b).length) := ⟨_, rfl⟩
      have e : mx 0 (wrap64 (wrap64 (((trim a).length : Int) - ((trim b).length : Int)) + 1)) = (N : Int) := by
        rw [w64_in (i := ((trim a).length : Int) - ((trim b).length : Int)) (by omega) (by omega), w64_in (by omega) (by omega)]
        unfold mx; split <;> omega
      rw [e, Int.toNat_natCast, pol_zero]
      refine Ev.pos (by omega) (Ev.pos (by omega) ?_)
      refine Ev.cast (divm_loop hp0 rg cb hb0 (top_inv hp cb hb0) (by omega) N (by omega) (trim a).length (fun _ => 0) (trim a) (trim a) (trim_trim a) ca.el (by omega) (Nat.le_refl _) (by omega)) ?_
      obtain ⟨_, _, a3, _, _⟩ := dmP_inv hp ca cb hb0
      unfold dmP
      refine Prod.ext ?_ rfl
      refine trim_ext fun i => ?_
      rw [cf_pol, cf_pol]
      by_cases q : i < N
      · rw [if_pos q, if_pos (by omega)]
      · rw [if_neg q]; split
        · exact (a3 i (by omega)).symm
        · rfl
  · rw [if_neg c]; exact Ev.fix rfl
end Go.Proofs.Ytbjanbbjjnoecaa.FPolyFresh
namespace Go.Proofs.Ytbjanbbjjnoecaa.FPolyFresh
open Go.RowKit Go Go.Proofs.YtbjanbbjjnoecaaW.PrintWords Go.Proofs.YtbjanbbjjnoecaaW.PrintLast Go.Proofs.YtbjanbbjjnoecaaW.PrintMore Go.Proofs.Ytbjanbbjjnoecaa.M Go.Proofs.Ytbjanbbjjnoecaa.PPolyFresh
theorem into_len {f : Int} {q : List Int} : ∀ l : List Int, l ≠ [] → (l.foldr (into_step f q) []).length ≤ (l.length - 1) * (q.length - 1) + 1
  | [], h => absurd rfl h
  | c :: l, _ => by
    show (into_step f q c (l.foldr (into_step f q) [])).length ≤ l.length * (q.length - 1) + 1
    rw [into_step_eq, List.length_set]
    unfold into_row
    split
    · simp
    · rename_i z
      have zl : trim (l.foldr (into_step f q) []) ≠ [] := fun e => z (by unfold mulP; rw [if_pos (.inl e)])
      have zq : q ≠ [] := fun e => z (by unfold mulP; rw [if_pos (.inr e)])
      have nl : l ≠ [] := fun e => zl (by rw [e]; rfl)
      rw [mulP_len zl zq]
      have ih := into_len (f := f) (q := q) l nl
      have t := trim_le (l.foldr (into_step f q) [])
      have lq := List.length_pos_iff.2 zq
      obtain ⟨m, hm⟩ : ∃ m, l.length = m + 1 := ⟨l.length - 1, by have := List.length_pos_iff.2 nl; omega⟩
      rw [hm, Nat.add_sub_cancel] at ih
      rw [hm, Nat.add_mul, Nat.one_mul]
      omega
def Pin (f : Int) (a b : List Int) : List Int × Int :=
  if bad f a b = 0 then (if (trim a).length > 1 ∧ (trim b).length > 1 ∧ ((trim a).length - 1) * ((trim b).length - 1) ≥ 4096 then ([], 4) else (into_all f (trim a) (trim b), 0)) else ([], bad f a b)
theorem into_ok_of {f : Int} (hp : P f ≠ 0) {p q : List Int} (ep : El (P f) p) (eq : El (P f) q) (lp : p.length ≤ 4096) (lq : q.length ≤ 4096) : into_ok f p q = true := by
  unfold into_ok
  simp only [Bool.and_eq_true, List.all_eq_true, decide_eq_true_eq]
  exact ⟨⟨⟨⟨fun x hx => into_in_iff.2 (ep x hx), fun x hx => into_in_iff.2 (eq x hx)⟩, lp⟩, lq⟩, hp⟩
theorem less_mul (x y : Nat) (hx : 1 ≤ x) (hy : 1 ≤ y) : ((x : Int) - 1) * ((y : Int) - 1) = (((x - 1) * (y - 1) : Nat) : Int) := by
  rw [Int.natCast_mul, show ((x - 1 : Nat) : Int) = (x : Int) - 1 by omega, show ((y - 1 : Nat) : Int) = (y : Int) - 1 by omega]
theorem mul_small {x y : Nat} (hx : x ≤ 4096) (hy : y ≤ 4096) : (x - 1) * (y - 1) ≤ 16777216 := Nat.le_trans (Nat.mul_le_mul (show x - 1 ≤ 4096 by omega) (show y - 1 ≤ 4096 by omega)) (by decide)
theorem Into_eq (f : Int) (a b : List Int) (wa : Wd a) (wb : Wd b) (ha : a.length < 17592186044416) (hb : b.length < 17592186044416) : Ev (fun k => poly_Into.f k f a b) (Pin f a b) := by
  unfold poly_Into.f Pin
  refine Ev.bind (may2_eq f a b (by omega) (by omega)) (Ev.ite (fun c => ?_) (fun c => ?_))
  · rw [if_pos c]
    obtain ⟨hp, hp0, ea, eb, la, lb⟩ := bad_el wa wb c
    have ta := trim_le a; have tb := trim_le b
    have ok := into_ok_of hp0 (trim_el ea) (trim_el eb) (by omega) (by omega)
    have go : Ev (fun k => poly_Into.j0 k f (trim a) [] false (trim b)) (into_all f (trim a) (trim b), 0) :=
      Ev.step (fun k => by rw [poly_Into.j0]) (Ev.neg (by decide) (Ev.pos ok (Ev.fix rfl)))
    refine Ev.bind (trimmed_eq a (by omega)) (Ev.bind (trimmed_eq b (by omega)) ?_)
    rw [show wrap64 (((trim a).length : Int) - 1) = ((trim a).length : Int) - 1 from w64_in (by omega) (by omega), show wrap64 (((trim b).length : Int) - 1) = ((trim b).length : Int) - 1 from w64_in (by omega) (by omega)]
    refine Ev.ite (fun s => Ev.ite (fun t => ?_) (fun t => ?_)) (fun s => ?_)
    · have ms := mul_small (x := (trim a).length) (y := (trim b).length) (by omega) (by omega)
      rw [less_mul _ _ (by omega) (by omega), w64_in (by omega) (by omega)]
      by_cases u : ((trim a).length - 1) * ((trim b).length - 1) ≥ 4096
      · rw [if_pos ⟨by omega, by omega, u⟩, decide_eq_true (show ((((trim a).length - 1) * ((trim b).length - 1) : Nat) : Int) ≥ 4096 by omega)]
        exact Ev.step (fun k => by rw [poly_Into.j0]) (Ev.pos rfl (Ev.fix rfl))
      · rw [if_neg (fun z => u z.2.2), decide_eq_false (show ¬ ((((trim a).length - 1) * ((trim b).length - 1) : Nat) : Int) ≥ 4096 by omega)]
        exact go
    · rw [if_neg (fun z => by have := z.2.1; omega)]; exact go
    · rw [if_neg (fun z => by have := z.1; omega)]; exact go
  · rw [if_neg c]; exact Ev.fix rfl
theorem into_all_len {f : Int} (p q : List Int) : (into_all f p q).length ≤ (p.length - 1) * (q.length - 1) + 1 := by
  have t := trim_le (p.foldr (into_step f q) [])
  by_cases h : p = []
  · subst h; exact Nat.zero_le _
  · have := into_len (f := f) (q := q) p h
    show (trim (p.foldr (into_step f q) [])).length ≤ _
    omega
end Go.Proofs.Ytbjanbbjjnoecaa.FPolyFresh
namespace Go.Proofs.Ytbjanbbjjnoecaa.FPolyFresh
open Go.RowKit Go Go.Proofs.YtbjanbbjjnoecaaW.PrintWords Go.Proofs.YtbjanbbjjnoecaaW.PrintLast Go.Proofs.YtbjanbbjjnoecaaW.PrintMore Go.Proofs.Ytbjanbbjjnoecaa.M Go.Proofs.Ytbjanbbjjnoecaa.PPolyFresh
theorem rCopy (l : List Int) (hn : l.length < 17592186044416) : cr1_Copy.f l = some l := by
  unfold cr1_Copy.f
  simp [hn]
theorem spoil_b (m : Int) : ∀ (d : Nat) (l : List Int) (i : Nat), i + d = l.length → l.length < 4611686018427387904 → Ev (fun k => cr1_Spoil.l1 k l m (i : Int)) () := by
  intro d
  induction d with
  | zero =>
    intro l i hi _
    refine Ev.step (fun k => by rw [cr1_Spoil.l1]) ?_
    exact Ev.neg (by omega) (Ev.fix rfl)
  | succ d ih =>
    intro l i hi hn
    refine Ev.step (fun k => by rw [cr1_Spoil.l1]) ?_
    refine Ev.pos (by omega) (Ev.pos (by omega) ?_)
    rw [w64_succ (by omega)]
    exact ih _ (i + 1) (by simp; omega) (by simpa using hn)
theorem spoil_a (m : Int) : ∀ (d : Nat) (l : List Int) (i : Nat), i + d = l.length → l.length < 17592186044410 → Ev (fun k => cr1_Spoil.l0 k l m (i : Int)) () := by
  intro d
  induction d with
  | zero =>
    intro l i hi hn
    refine Ev.step (fun k => by rw [cr1_Spoil.l0]) ?_
    refine Ev.neg (by omega) (Ev.bnd rfl (Ev.pos (by simp; omega) ?_))
    exact spoil_b m _ _ 0 (Nat.zero_add _) (by simp; omega)
  | succ d ih =>
    intro l i hi hn
    refine Ev.step (fun k => by rw [cr1_Spoil.l0]) ?_
    refine Ev.pos (by omega) (Ev.pos (by omega) ?_)
    rw [w64_succ (by omega)]
    exact ih _ (i + 1) (by simp; omega) (by simpa using hn)
theorem rSpoil (l : List Int) (m : Int) (hn : l.length < 17592186044410) : Ev (fun k => cr1_Spoil.f k l m) () := by
  unfold cr1_Spoil.f
  exact spoil_a m l.length l 0 (by omega) hn
end Go.Proofs.Ytbjanbbjjnoecaa.FPolyFresh
namespace Go.Proofs.Ytbjanbbjjnoecaa.Pure
open Go.RowKit Go.Proofs.Ytbjanbbjjnoecaa.PPolyFresh Go.Proofs.YtbjanbbjjnoecaaW.PrintWords Go.Proofs.YtbjanbbjjnoecaaW.PrintLast Go.Proofs.Ytbjanbbjjnoecaa.M Go.Proofs.Ytbjanbbjjnoecaa.FPolyFresh
theorem Padd_len (f : Int) (a b : List Int) : (Padd f a b).1.length ≤ max a.length b.length := by
  unfold Padd sumP; split
  · exact Nat.le_trans (trim_le _) (by rw [pol_len]; exact Nat.le_refl _)
  · exact Nat.zero_le _
theorem Pmul_len (f : Int) (a b : List Int) : (Pmul f a b).1.length ≤ 4096 := by
  unfold Pmul
  split
  · split
    · exact Nat.zero_le _
    · split
      · exact Nat.zero_le _
      · rename_i h
        unfold mulP; split
        · exact Nat.zero_le _
        · rw [pol_len]; omega
  · exact Nat.zero_le _
theorem Pdm_len {f : Int} {a b : List Int} (wa : Wd a) (wb : Wd b) : (Pdm f a b).1.length ≤ 4097 ∧ (Pdm f a b).2.1.length ≤ 4096 := by
  unfold Pdm
  by_cases c : bad f a b = 0
  · rw [if_pos c]
    obtain ⟨hp, hp0, ea, eb, la, lb⟩ := bad_el wa wb c
    have ta := trim_le a; have tb := trim_le b
    by_cases z : trim b = []
    · rw [if_pos z]; simp
    · rw [if_neg z]
      obtain ⟨_, _, q3, q4, _⟩ := dmP_spec hp (Cn.trim (p := P f) ea) (Cn.trim (p := P f) eb) z
      dsimp only
      refine ⟨?_, by omega⟩
      rcases q4 with e | e
      · rw [e]; simp
      · omega
  · rw [if_neg c]; simp
theorem Pin_len {f : Int} {a b : List Int} (wa : Wd a) (wb : Wd b) : (Pin f a b).1.length ≤ 16777217 := by
  unfold Pin
  by_cases c : bad f a b = 0
  · rw [if_pos c]
    obtain ⟨_, _, _, _, la, lb⟩ := bad_el wa wb c
    have ta := trim_le a; have tb := trim_le b
    by_cases u : (trim a).length > 1 ∧ (trim b).length > 1 ∧ ((trim a).length - 1) * ((trim b).length - 1) ≥ 4096
    · rw [if_pos u]; simp
    · rw [if_neg u]
      have h := into_all_len (f := f) (trim a) (trim b)
      have hl := mul_small (x := (trim a).length) (y := (trim b).length) (by omega) (by omega)
      dsimp only
      omega
  · rw [if_neg c]; simp
theorem PolyFresh : conclavelaw03_PolyFresh.Pure := by
  intro f a b _ _ ha wa _ hb wb
  refine Ev.rounds (g := fun k => conclavelaw03_PolyFresh.f k f a b) ?_
  have w1 := Wd.of_wf wa; have w2 := Wd.of_wf wb
  have hL : a.length ≤ 17592186043904 ∧ b.length ≤ 17592186043904 := ⟨by omega, by omega⟩
  have l1 := Padd_len f a b
  have l2 := Pmul_len f a b
  have l3 := Pdm_len (f := f) w1 w2
  have l4 := Pin_len (f := f) w1 w2
  have l5 := trim_le a
  have s1 := rSpoil (Padd f a b).1 3 (by omega)
  have s2 := rSpoil (Pmul f a b).1 53 (by omega)
  have s3 := rSpoil (Pdm f a b).1 103 (by omega)
  have s4 := rSpoil (Pdm f a b).2.1 153 (by omega)
  have s5 := rSpoil (Pin f a b).1 203 (by omega)
  have s6 := rSpoil (trim a) 253 (by omega)
  have g1 := PAdd_eq f a b w1 w2 (by omega) (by omega)
  have g2 := PMul_eq f a b w1 w2 (by omega) (by omega)
  have g3 := PDivMod_eq f a b w1 w2 (by omega) (by omega)
  have g4 := Into_eq f a b w1 w2 (by omega) (by omega)
  have g5 := Trim_eq a (by omega)
  have g6 := rPMul f a b w1 w2 (by omega) (by omega)
  unfold conclavelaw03_PolyFresh.f
  refine Ev.bnd (rCopy a (by omega)) (Ev.bnd (rCopy b (by omega)) (Ev.bind g1 (Ev.bind g2 (Ev.bind g3 (Ev.bind g4 (Ev.bind g5 ?_))))))
  refine Ev.bind s1 (Ev.bind s2 (Ev.bind s3 (Ev.bind s4 (Ev.bind s5 (Ev.bind s6 (Ev.bind g2 (Ev.bind g6 (Ev.bind anchored3 (Ev.pos rfl ?_)))))))))
  exact Ev.bind (rSame _ _ (by omega)) (Ev.pos (by simp) (Ev.bind (rSame _ _ (by omega)) (Ev.pos (by simp) (Ev.bind (rSame _ _ (by omega)) (Ev.pos (by simp) (Ev.fix (by simp)))))))
end Go.Proofs.Ytbjanbbjjnoecaa.Pure
