/- The Go functions as Lean functions, each with the proof that its call comes to just that; written by a program of this session, by the words of the print. -/
import Derived.Test.YtbjanbbjjnoecaaPPolyGoesx0
import Derived.Test.YtbjanbbjjnoecaaPPolyGoesx1
import Derived.Test.YtbjanbbjjnoecaaPPolyGoesx2
import Derived.Test.YtbjanbbjjnoecaaPPolyGoesx3
import Derived.Test.YtbjanbbjjnoecaaPPolyGoesx4
import Derived.Test.YtbjanbbjjnoecaaPPolyGoesx5
import Derived.RangeFuncNested
import Derived.RangeFuncBound
import Derived.RangeFuncCalls
import Derived.RangeFuncLeaves
import Derived.Shelf.Abstract
import Derived.Shelf.RegionOpen
import Derived.OwnWalkIn
import Derived.TacticsInMore
import Derived.LoopNIn
import Derived.LoopIn
import Derived.Test.YtbjanbbjjnoecaaMPolyGoes
namespace Go.Proofs.Ytbjanbbjjnoecaa.PPolyGoes
open Go.RowKit Go.Proofs.YtbjanbbjjnoecaaW.PrintWords Go.Proofs.YtbjanbbjjnoecaaW.PrintLast Go.Proofs.YtbjanbbjjnoecaaW.PrintMore
attribute [local go_sem] max2_int min2_int max_two min_two max_three min_three max_four min_four   -- for this text's walks alone
set_option linter.unusedVariables false
set_option linter.unusedSimpArgs false
/-! ### poly_Into: function 26 -/
open Go.Shelf
namespace TotI
open Go.Proofs.Ytbjanbbjjnoecaa.M
/-- A field: its prime, and whether it is the large one. -/
def PF (p : Int) (w : Bool) : Prop := (p = 2013265921 ∧ w = false) ∨ (p = 18446744069414584321 ∧ w = true)
theorem PF.lo {p : Int} {w : Bool} (h : PF p w) : 2013265921 ≤ p := by unfold PF at h; omega
theorem PF.hi {p : Int} {w : Bool} (h : PF p w) : p ≤ 18446744069414584321 := by unfold PF at h; omega
theorem addLo_eq (a b : Int) (ha : 0 ≤ a) (hb : 0 ≤ b) : addLo a b = (a + b) % 18446744073709551616 := by unfold addLo; omega
theorem addHi_eq (a b : Int) (ha : 0 ≤ a) (hb : 0 ≤ b) : addHi a b = (a + b) / 18446744073709551616 := by unfold addHi; omega
theorem subLo_eq (a b : Int) (ha : 0 ≤ a) (hb : 0 ≤ b) (hb1 : b < 18446744073709551616) : subLo a b = (a - b) % 18446744073709551616 := by unfold subLo; omega
theorem subHi_eq (a b : Int) (ha : 0 ≤ a) (hb : 0 ≤ b) : subHi a b = if a < b then 1 else 0 := by
  unfold subHi; split <;> split <;> omega
theorem add_eq {p : Int} {w : Bool} (h : PF p w) {a b : Int} (ha : 0 ≤ a) (ha1 : a < p) (hb : 0 ≤ b) (hb1 : b < p) : field_reckoner_add.f p w a b = some ((a + b) % p) := by
  have h1 := h.lo; have h2 := h.hi
  have e : (a + b) % p = if a + b < p then a + b else a + b - p := by
    split
    · exact Int.emod_eq_of_lt (by omega) (by omega)
    · rw [← Int.sub_emod_right]; exact Int.emod_eq_of_lt (by omega) (by omega)
  unfold field_reckoner_add.f
  rw [addLo_eq _ _ ha hb, addHi_eq _ _ ha hb, e]
  simp only [u64w]
  (repeat' split) <;> (congr 1; omega)
theorem sub_eq {p : Int} {w : Bool} (h : PF p w) {a b : Int} (ha : 0 ≤ a) (ha1 : a < p) (hb : 0 ≤ b) (hb1 : b < p) : field_reckoner_sub.f p w a b = some ((a - b) % p) := by
  have h1 := h.lo; have h2 := h.hi
  have e : (a - b) % p = if a < b then a - b + p else a - b := by
    split
    · rw [← Int.add_emod_right]; exact Int.emod_eq_of_lt (by omega) (by omega)
    · exact Int.emod_eq_of_lt (by omega) (by omega)
  unfold field_reckoner_sub.f
  rw [subLo_eq _ _ ha hb (by omega), subHi_eq _ _ ha hb, e]
  simp only [u64w]
  (repeat' split) <;> first | (exfalso; omega) | (congr 1; omega)
theorem mul64_eq {a b : Int} (ha : 0 ≤ a) (ha1 : a < 18446744073709551616) (hb : 0 ≤ b) (hb1 : b < 18446744073709551616) :
    bits_Mul64.f a b = some (a * b / 18446744073709551616, a * b % 18446744073709551616) := by
  have e := mul_parts a b
  have k1 := mul_half (a / 4294967296) (b / 4294967296) (by omega) (by omega) (by omega) (by omega)
  have k2 := mul_half (a / 4294967296) (b % 4294967296) (by omega) (by omega) (by omega) (by omega)
  have k3 := mul_half (a % 4294967296) (b / 4294967296) (by omega) (by omega) (by omega) (by omega)
  have k4 := mul_half (a % 4294967296) (b % 4294967296) (by omega) (by omega) (by omega) (by omega)
  unfold bits_Mul64.f
  rw [and32 a ha ha1, and32 b hb hb1]
  generalize a / 4294967296 * (b / 4294967296) = t11 at *
  generalize a / 4294967296 * (b % 4294967296) = t10 at *
  generalize a % 4294967296 * (b / 4294967296) = t01 at *
  generalize a % 4294967296 * (b % 4294967296) = t00 at *
  rw [e]
  rw [u64w_in t11 (by omega) (by omega), u64w_in t10 (by omega) (by omega), u64w_in t01 (by omega) (by omega), u64w_in t00 (by omega) (by omega)]
  rw [u64w_in (t10 + t00 / 4294967296) (by omega) (by omega), and32 (t10 + t00 / 4294967296) (by omega) (by omega)]
  obtain ⟨q, hq⟩ : ∃ q, q = t00 / 4294967296 := ⟨_, rfl⟩
  obtain ⟨r, hr⟩ : ∃ r, r = t00 % 4294967296 := ⟨_, rfl⟩
  have et : t00 = q * 4294967296 + r := by omega
  have qb : 0 ≤ q ∧ q ≤ 4294967294 := by omega
  have rb : 0 ≤ r ∧ r < 4294967296 := by omega
  rw [← hq]
  clear hq hr
  subst et
  obtain ⟨s1, hs1⟩ : ∃ s1, s1 = (t10 + q) / 4294967296 := ⟨_, rfl⟩
  obtain ⟨s0, hs0⟩ : ∃ s0, s0 = (t10 + q) % 4294967296 := ⟨_, rfl⟩
  have es : t10 = s1 * 4294967296 + s0 - q := by omega
  have sb : 0 ≤ s0 ∧ s0 < 4294967296 := by omega
  have sb1 : 0 ≤ s1 ∧ s1 < 4294967296 := by omega
  rw [← hs1, ← hs0]
  clear hs1 hs0
  subst es
  obtain ⟨v1, hv1⟩ : ∃ v1, v1 = (s0 + t01) / 4294967296 := ⟨_, rfl⟩
  obtain ⟨v0, hv0⟩ : ∃ v0, v0 = (s0 + t01) % 4294967296 := ⟨_, rfl⟩
  have ev : t01 = v1 * 4294967296 + v0 - s0 := by omega
  have vb : 0 ≤ v0 ∧ v0 < 4294967296 := by omega
  have vb1 : 0 ≤ v1 ∧ v1 < 4294967296 := by omega
  rw [u64w_in (s0 + t01) (by omega) (by omega), ← hv1]
  clear hv1 hv0
  subst ev
  rw [u64w_in (t11 + s1) (by omega) (by omega), u64w_in (t11 + s1 + v1) (by omega) (by omega)]
  have e2 : t11 * 18446744073709551616 + (s1 * 4294967296 + s0 - q + (v1 * 4294967296 + v0 - s0)) * 4294967296 + (q * 4294967296 + r) = (t11 + s1 + v1) * 18446744073709551616 + (v0 * 4294967296 + r) := by omega
  rw [e2, u64w]
  simp only [Option.some.injEq, Prod.mk.injEq]
  exact ⟨by omega, trivial⟩
theorem mul_lt {p a b : Int} (ha : 0 ≤ a) (ha1 : a < p) (hb : 0 ≤ b) (hb1 : b < p) : 0 ≤ a * b ∧ a * b < p * p := by
  refine ⟨Int.mul_nonneg ha hb, ?_⟩
  have h := Int.mul_le_mul (show a ≤ p - 1 by omega) (show b ≤ p - 1 by omega) hb (by omega)
  have : (p - 1) * (p - 1) = p * p - 2 * p + 1 := by grind
  omega
theorem emod_rng {p : Int} (x : Int) (hp : 0 < p) : 0 ≤ x % p ∧ x % p < p := ⟨Int.emod_nonneg _ (by omega), Int.emod_lt_of_pos _ hp⟩
theorem mul_eq {p : Int} {w : Bool} (h : PF p w) {a b : Int} (ha : 0 ≤ a) (ha1 : a < p) (hb : 0 ≤ b) (hb1 : b < p) : field_reckoner_mul.f p w a b = some (a * b % p) := by
  have h1 := h.lo; have h2 := h.hi
  obtain ⟨m0, m1⟩ := mul_lt ha ha1 hb hb1
  unfold field_reckoner_mul.f
  rw [mul64_eq ha (by omega) hb (by omega)]
  simp only [Option.bind_some]
  rcases h with ⟨rfl, rfl⟩ | ⟨rfl, rfl⟩
  · simp only [Bool.false_eq_true, if_false, bits_Rem64.f, bits_Div64.f]
    generalize a * b = m at *
    have e0 : m / 18446744073709551616 = 0 := by omega
    have e1 : m % 18446744073709551616 = m := by omega
    rw [e0, e1]
    simp [Int.tmod_eq_emod_of_nonneg m0]
  · simp only [if_true]
    generalize a * b = m at *
    have hhi : 0 ≤ m / 18446744073709551616 ∧ m / 18446744073709551616 < 18446744073709551616 := by omega
    rw [and32 _ hhi.1 hhi.2]
    have hP : PF 18446744069414584321 true := .inr ⟨rfl, rfl⟩
    rw [u64w_in (m / 18446744073709551616 % 4294967296 * 4294967296) (by omega) (by omega), u64w_in (m / 18446744073709551616 % 4294967296 * 4294967296 - m / 18446744073709551616 % 4294967296) (by omega) (by omega)]
    split
    · rw [u64w_in _ (by omega) (by omega), sub_eq hP (by omega) (by omega) (by omega) (by omega)]
      simp only [Option.bind_some]
      rw [add_eq hP (emod_rng _ (by omega)).1 (emod_rng _ (by omega)).2 (by omega) (by omega)]
      simp only [Option.bind_some, Option.some.injEq]
      omega
    · rw [sub_eq hP (by omega) (by omega) (by omega) (by omega)]
      simp only [Option.bind_some]
      rw [add_eq hP (emod_rng _ (by omega)).1 (emod_rng _ (by omega)).2 (by omega) (by omega)]
      simp only [Option.bind_some, Option.some.injEq]
      omega
theorem of_eq (f : Int) : field_of.f f = if f = 1 then some (2013265921, false, true) else if f = 2 then some (18446744069414584321, true, true) else some (0, false, false) := rfl
theorem pf_of {f : Int} (h : P f ≠ 0) : PF (P f) (wd f) := by
  unfold PF P wd at *
  by_cases h1 : f = 1
  · subst h1; simp
  · by_cases h2 : f = 2
    · subst h2; simp
    · simp [h1, h2] at h
theorem of_is (f : Int) : field_of.f f = some (P f, wd f, decide (P f ≠ 0)) := by
  unfold field_of.f P wd
  by_cases h1 : f = 1
  · subst h1; simp
  · by_cases h2 : f = 2
    · subst h2; simp
    · simp [h1, h2]
theorem in_loop (p : Int) (w : Bool) (l : List Int) (hl : l.length < 4611686018427387904) : ∀ (d i : Nat), i + d = l.length →
    Ev (fun k => field_reckoner_in.l0 k l (l.length : Int) (i : Int) p w) (allIn p (l.drop i)) := by
  intro d
  induction d with
  | zero =>
    intro i hi
    refine Ev.step (fun k => by rw [field_reckoner_in.l0]) ?_
    refine Ev.neg (by omega) (Ev.fix ?_)
    rw [List.drop_eq_nil_of_le (by omega), allIn_nil]
  | succ d ih =>
    intro i hi
    have hlt : i < l.length := by omega
    refine Ev.step (fun k => by rw [field_reckoner_in.l0]) ?_
    refine Ev.pos (by omega) (Ev.pos (by omega) (Ev.pos (by omega) ?_))
    rw [drop_rd hlt, allIn_cons]
    refine Ev.ite (fun c => ?_) (fun c => ?_)
    · refine Ev.fix ?_
      rw [decide_eq_false (by omega), Bool.false_and]
    · rw [decide_eq_true (by omega), Bool.true_and, w64_succ (by omega)]
      exact ih (i + 1) (by omega)
theorem in_eq (p : Int) (w : Bool) (l : List Int) (hl : l.length < 4611686018427387904) : Ev (fun k => field_reckoner_in.f k p w l) (allIn p l) := by
  have := in_loop p w l hl l.length 0 (by omega)
  simpa [field_reckoner_in.f] using this
theorem asked_eq (f : Int) (l : List Int) (hl : l.length < 4611686018427387904) :
    Ev (fun k => field_asked.f k f l) (if ok f l then (P f, wd f, 0) else (0, false, 2)) := by
  unfold field_asked.f
  refine Ev.bnd (of_is f) ?_
  by_cases hp : P f = 0
  · have e : ok f l = false := by unfold ok; simp [hp]
    simp only [hp, e]
    exact Ev.fix (by simp)
  · refine Ev.pos (by simpa using hp) ?_
    refine Ev.bind (in_eq (P f) (wd f) l hl) ?_
    have e : ok f l = allIn (P f) l := by unfold ok; simp [hp]
    rw [e]
    refine Ev.ite (fun c => ?_) (fun c => ?_)
    · exact Ev.fix (by rw [if_pos c])
    · exact Ev.fix (by rw [if_neg c])
theorem asked_yes {f : Int} {l : List Int} (hl : l.length < 4611686018427387904) (h : ok f l = true) : Ev (fun k => field_asked.f k f l) (P f, wd f, 0) :=
  Ev.cast (asked_eq f l hl) (by rw [if_pos h])
theorem asked_no {f : Int} {l : List Int} (hl : l.length < 4611686018427387904) (h : ¬ ok f l = true) : Ev (fun k => field_asked.f k f l) (0, false, 2) :=
  Ev.cast (asked_eq f l hl) (by rw [if_neg h])
theorem ok2 {f a b : Int} (h : ok f [a, b] = true) : PF (P f) (wd f) ∧ a < P f ∧ b < P f := by
  have := ok_iff.1 h
  exact ⟨pf_of this.1, this.2 a (by simp), this.2 b (by simp)⟩
theorem ok1 {f a : Int} (h : ok f [a] = true) : PF (P f) (wd f) ∧ a < P f := by
  have := ok_iff.1 h
  exact ⟨pf_of this.1, this.2 a (by simp)⟩
theorem Add_eq (f a b : Int) (ha : 0 ≤ a) (hb : 0 ≤ b) : Ev (fun k => field_Add.f k f a b) (if ok f [a, b] then ((a + b) % P f, 0) else (0, 2)) := by
  unfold field_Add.f
  refine Ev.bind (asked_eq f _ (by simp)) ?_
  by_cases h : ok f [a, b] = true
  · simp only [h, if_true]
    obtain ⟨hp, h1, h2⟩ := ok2 h
    exact Ev.bnd (add_eq hp ha h1 hb h2) (Ev.fix rfl)
  · simp only [h]
    exact Ev.fix (by simp)
theorem Mul_eq (f a b : Int) (ha : 0 ≤ a) (hb : 0 ≤ b) : Ev (fun k => field_Mul.f k f a b) (if ok f [a, b] then (a * b % P f, 0) else (0, 2)) := by
  unfold field_Mul.f
  refine Ev.bind (asked_eq f _ (by simp)) ?_
  by_cases h : ok f [a, b] = true
  · simp only [h, if_true]
    obtain ⟨hp, h1, h2⟩ := ok2 h
    exact Ev.bnd (mul_eq hp ha h1 hb h2) (Ev.fix rfl)
  · simp only [h]
    exact Ev.fix (by simp)
theorem In_eq (f : Int) (l : List Int) (hl : l.length < 4611686018427387904) : Ev (fun k => field_In.f k f l) (ok f l) := by
  unfold field_In.f
  refine Ev.bind (asked_eq f _ hl) ?_
  by_cases h : ok f l = true
  · simp only [h]; exact Ev.fix (by simp)
  · simp only [h]; exact Ev.fix (by simp)
theorem trimmed_loop (l : List Int) (hl : l.length < 4611686018427387904) : ∀ n : Nat, n ≤ l.length → Ev (fun k => poly_trimmed.l0 k l (n : Int)) (l.take (tl l n)) := by
  intro n
  induction n with
  | zero =>
    intro _
    refine Ev.step (fun k => by rw [poly_trimmed.l0]) ?_
    exact Ev.neg (by omega) (Ev.pos (by omega) (Ev.pos (by omega) (Ev.fix rfl)))
  | succ n ih =>
    intro hn
    have e : wrap64 (((n + 1 : Nat) : Int) - 1) = (n : Int) := by rw [w64_in (by omega) (by omega)]; omega
    refine Ev.step (fun k => by rw [poly_trimmed.l0]) ?_
    rw [e]
    refine Ev.pos (by omega) (Ev.pos (by omega) (Ev.pos (by omega) (Ev.ite (fun c => ?_) (fun c => ?_))))
    · rw [tl, if_pos c]; exact ih (by omega)
    · rw [tl, if_neg c]; exact Ev.pos (by omega) (Ev.pos (by omega) (Ev.fix rfl))
theorem trimmed_eq (l : List Int) (hl : l.length < 4611686018427387904) : Ev (fun k => poly_trimmed.f k l) (trim l) := by
  unfold poly_trimmed.f
  exact trimmed_loop l hl l.length (Nat.le_refl _)
theorem ok_two {f a b : Int} (hp : P f ≠ 0) (ha : a < P f) (hb : b < P f) : ok f [a, b] = true := ok_iff.2 ⟨hp, by simp [ha, hb]⟩
theorem ok_nil {f : Int} : ok f [] = true ↔ P f ≠ 0 := by rw [ok_iff]; simp
theorem mx_nat (a b : Nat) : mx (a : Int) (b : Int) = ((max a b : Nat) : Int) := by unfold mx; split <;> omega
theorem pol_succ (n : Nat) (g : Nat → Int) : pol (n + 1) g = pol n g ++ [g n] := by simp [pol, List.range_succ]
theorem kadd_eq {f a b : Int} (hp : P f ≠ 0) (ha : 0 ≤ a ∧ a < P f) (hb : 0 ≤ b ∧ b < P f) : Ev (fun k => poly_reckoner_add.f k f a b) ((a + b) % P f) := by
  unfold poly_reckoner_add.f
  refine Ev.bind (Add_eq f a b ha.1 hb.1) ?_
  rw [if_pos (ok_two hp ha.2 hb.2)]
  exact Ev.fix rfl
theorem kmul_eq {f a b : Int} (hp : P f ≠ 0) (ha : 0 ≤ a ∧ a < P f) (hb : 0 ≤ b ∧ b < P f) : Ev (fun k => poly_reckoner_mul.f k f a b) (a * b % P f) := by
  unfold poly_reckoner_mul.f
  refine Ev.bind (Mul_eq f a b ha.1 hb.1) ?_
  rw [if_pos (ok_two hp ha.2 hb.2)]
  exact Ev.fix rfl
theorem trimmed_own_loop (l : List Int) (hl : l.length < 4611686018427387904) : ∀ n : Nat, n ≤ l.length → Ev (fun k => poly_trimmed_own.l0 k l (n : Int)) (l.take (tl l n)) := by
  intro n
  induction n with
  | zero =>
    intro _
    refine Ev.step (fun k => by rw [poly_trimmed_own.l0]) ?_
    exact Ev.neg (by omega) (Ev.pos (by omega) (Ev.pos (by omega) (Ev.fix rfl)))
  | succ n ih =>
    intro hn
    have e : wrap64 (((n + 1 : Nat) : Int) - 1) = (n : Int) := by rw [w64_in (by omega) (by omega)]; omega
    refine Ev.step (fun k => by rw [poly_trimmed_own.l0]) ?_
    rw [e]
    refine Ev.pos (by omega) (Ev.pos (by omega) (Ev.pos (by omega) (Ev.ite (fun c => ?_) (fun c => ?_))))
    · rw [tl, if_pos c]; exact ih (by omega)
    · rw [tl, if_neg c]; exact Ev.pos (by omega) (Ev.pos (by omega) (Ev.fix rfl))
theorem trimmed_own_eq (l : List Int) (hl : l.length < 4611686018427387904) : Ev (fun k => poly_trimmed_own.f k l) (trim l) := by
  unfold poly_trimmed_own.f
  exact trimmed_own_loop l hl l.length (Nat.le_refl _)
theorem padded (a b : List Int) : a.take (List.replicate (max a.length b.length) (0 : Int)).length ++ (List.replicate (max a.length b.length) (0 : Int)).drop a.length = pol (max a.length b.length) (cf a) := by
  refine pol_ext (by simp; omega) fun i hi => ?_
  rw [List.take_of_length_le (by simp; omega)]
  unfold cf rd
  rw [Int.toNat_natCast, List.getD_eq_getElem?_getD, List.getD_eq_getElem?_getD]
  by_cases c : i < a.length
  · rw [List.getElem?_append_left c]
  · rw [List.getElem?_append_right (by omega), List.getElem?_eq_none (l := a) (by omega), List.getElem?_drop, List.getElem?_replicate]
    split <;> rfl
theorem ok_all {f : Int} {l : List Int} (h : ok f l = true) : allIn (P f) l = true := by unfold ok at h; simp at h; exact h.2
theorem rd_pol {n i : Nat} {g : Nat → Int} (h : i < n) : rd (pol n g) (i : Int) = g i := by
  have := cf_pol (n := n) (g := g) (i := i); rw [if_pos h] at this; exact this
theorem prod_inner {f : Int} (hp0 : P f ≠ 0) (a b : List Int) (ea : El (P f) a) (eb : El (P f) b) (N m : Nat) (hm : m < a.length) (hN : N = a.length + b.length - 1) (hs : N < 17592186044416) {R : List Int}
    (hk : Ev (fun k => poly_reckoner_product.l0 k b (pol N (row (P f) a b m b.length)) a (a.length : Int) ((m + 1 : Nat) : Int) f) R) : ∀ (d j : Nat), j + d = b.length →
    Ev (fun k => poly_reckoner_product.l1 k b (pol N (row (P f) a b m j)) (m : Int) (cf a m) a (a.length : Int) (m : Int) b (b.length : Int) (j : Int) f) R := by
  have hp := P_pr hp0
  have hlo := hp.lo; have hhi := hp.hi
  intro d
  induction d with
  | zero =>
    intro j h
    refine Ev.step (fun k => by rw [poly_reckoner_product.l1]) ?_
    have e : j = b.length := by omega
    subst e
    rw [show wrap64 ((m : Int) + 1) = ((m + 1 : Nat) : Int) from w64_succ (by omega)]
    exact Ev.neg (by omega) hk
  | succ d ih =>
    intro j h
    refine Ev.step (fun k => by rw [poly_reckoner_product.l1]) ?_
    rw [show wrap64 ((j : Int) + 1) = ((j + 1 : Nat) : Int) from w64_succ (by omega), show wrap64 ((m : Int) + (j : Int)) = ((m + j : Nat) : Int) by rw [w64_in (by omega) (by omega)]; omega, rd_pol (by omega), show rd b (j : Int) = cf b j from rfl]
    have ra := cf_el ea (by omega) m; have rb := cf_el eb (by omega) j
    refine Ev.pos (by omega) (Ev.pos (by omega) (Ev.pos (by omega) (Ev.pos (by omega) (Ev.pos (by rw [pol_len]; omega) (Ev.bind (kmul_eq hp0 ra rb) (Ev.bind (kadd_eq hp0 (row_rng (by omega) a b m j (m + j)) (emod_rng _ (by omega))) ?_))))))
    rw [Int.toNat_natCast, row_set (by omega)]
    exact ih (j + 1) (by omega)
theorem prod_outer {f : Int} (hp0 : P f ≠ 0) (a b : List Int) (ea : El (P f) a) (eb : El (P f) b) (N : Nat) (hN : N = a.length + b.length - 1) (hs : N < 17592186044416) : ∀ (d m : Nat), m + d = a.length →
    Ev (fun k => poly_reckoner_product.l0 k b (pol N fun n => cv a b m n % P f) a (a.length : Int) (m : Int) f) (pol N fun n => cv a b a.length n % P f) := by
  intro d
  induction d with
  | zero =>
    intro m h
    refine Ev.step (fun k => by rw [poly_reckoner_product.l0]) ?_
    have e : m = a.length := by omega
    subst e
    exact Ev.neg (by omega) (Ev.fix rfl)
  | succ d ih =>
    intro m h
    refine Ev.step (fun k => by rw [poly_reckoner_product.l0]) ?_
    refine Ev.pos (by omega) (Ev.pos (by omega) (Ev.pos (by omega) ?_))
    have e : (pol N fun n => cv a b m n % P f) = pol N (row (P f) a b m 0) := pol_congr fun n _ => (row_zero _ a b m n).symm
    have e2 : pol N (row (P f) a b m b.length) = pol N fun n => cv a b (m + 1) n % P f := pol_congr fun n _ => row_last _ a b m n
    rw [e]
    refine prod_inner hp0 a b ea eb N m (by omega) hN hs ?_ b.length 0 (Nat.zero_add _)
    rw [e2]
    exact ih (m + 1) (by omega)
theorem product_eq {f : Int} (hp0 : P f ≠ 0) (a b : List Int) (ea : El (P f) a) (eb : El (P f) b) (ha : a.length < 4398046511104) (hb : b.length < 4398046511104) : Ev (fun k => poly_reckoner_product.f k f a b) (mulP (P f) a b) := by
  unfold poly_reckoner_product.f mulP
  refine Ev.ite (fun c => ?_) (fun c => ?_)
  · refine Ev.step (fun k => by rw [poly_reckoner_product.j0]) ?_
    rw [if_pos (.inl (List.length_eq_zero_iff.1 (by omega)))]
    exact Ev.pos rfl (Ev.fix rfl)
  · refine Ev.step (fun k => by rw [poly_reckoner_product.j0]) ?_
    refine Ev.ite (fun q => ?_) (fun q => ?_)
    · rw [if_pos (.inr (List.length_eq_zero_iff.1 (by have := beq_iff_eq.1 q; omega)))]
      exact Ev.fix rfl
    · have hb0 : 0 < b.length := Nat.pos_of_ne_zero fun z => q (by simp [z])
      rw [if_neg (fun z => by rcases z with z | z <;> simp [z] at c hb0)]
      have e : wrap64 (wrap64 ((a.length : Int) + (b.length : Int)) - 1) = ((a.length + b.length - 1 : Nat) : Int) := by rw [w64_in (i := (a.length : Int) + b.length) (by omega) (by omega), w64_in (by omega) (by omega)]; omega
      rw [e, Int.toNat_natCast, pol_zero]
      refine Ev.pos (by omega) (Ev.pos (by omega) ?_)
      have h := prod_outer hp0 a b ea eb (a.length + b.length - 1) rfl (by omega) a.length 0 (Nat.zero_add _)
      simpa [cv] using h
end TotI
def into_in (f c : Int) : Bool := decide (0 ≤ c) && decide (c < Go.Proofs.Ytbjanbbjjnoecaa.M.P f)
/-- A round. -/
def into_step (f : Int) (q : List Int) (c : Int) (s : List Int) : List Int :=
  (if Go.Proofs.Ytbjanbbjjnoecaa.M.mulP (Go.Proofs.Ytbjanbbjjnoecaa.M.P f) (Go.Proofs.Ytbjanbbjjnoecaa.M.trim s) q = [] then [0] else Go.Proofs.Ytbjanbbjjnoecaa.M.mulP (Go.Proofs.Ytbjanbbjjnoecaa.M.P f) (Go.Proofs.Ytbjanbbjjnoecaa.M.trim s) q).set 0
    ((rd (if Go.Proofs.Ytbjanbbjjnoecaa.M.mulP (Go.Proofs.Ytbjanbbjjnoecaa.M.P f) (Go.Proofs.Ytbjanbbjjnoecaa.M.trim s) q = [] then [0] else Go.Proofs.Ytbjanbbjjnoecaa.M.mulP (Go.Proofs.Ytbjanbbjjnoecaa.M.P f) (Go.Proofs.Ytbjanbbjjnoecaa.M.trim s) q) 0 + c) % Go.Proofs.Ytbjanbbjjnoecaa.M.P f)
def into_all (f : Int) (p q : List Int) : List Int := Go.Proofs.Ytbjanbbjjnoecaa.M.trim (p.foldr (into_step f q) [])
def into_ok (f : Int) (p q : List Int) : Bool := p.all (into_in f) && q.all (into_in f) && decide (p.length ≤ 4096) && decide (q.length ≤ 4096) && decide (Go.Proofs.Ytbjanbbjjnoecaa.M.P f ≠ 0)
/-- What the body comes to: no panic. -/
def into_post (P : Program) (fn : Func) (R : Ending → World → Prop) : Exit → Act → World → Prop
  | .normal, a, w | .ret, a, w => LeavesInM Fence.wide 3 P fn a.tmps R a.defers .returning w
  | .outgrown, _, w => R .outgrown w
  | _, _, _ => False
theorem into_enter {P : Program} {f : FuncId} {fn : Func} {c : Code} {args : Array Value} {w : World} {R : Ending → World → Prop} (hf : P.funcs[f]? = some fn) (hb : fn.body = some c)
    (h : c.wp P (into_post P fn R) { tmps := args ++ Array.replicate (fn.ntmps - args.size) undef, defers := [] } w) : Calls P f args w R :=
  callsIn_wide.1 (callsIn_of_wp_marks (F := Fence.wide) (n := 3) hf hb trivial (wpIn_wide.2 (Code.wp_mono (fun e a w h => by cases e <;> first | exact h | exact h.elim) h)) rfl)
theorem into_ret {P : Program} {fn : Func} {R : Ending → World → Prop} {a : Act} {w : World} {v : Value} (hr : (results fn a.tmps).run P w = .ok v w) (hd : a.defers = []) (hR : R (.returned v) w) : into_post P fn R .ret a w := by
  show LeavesInM Fence.wide 3 P fn a.tmps R a.defers .returning w
  rw [hd]
  exact ⟨v, hr, hR⟩
/-- What a round leaves as it was. -/
def into_rr (n₀ go : Nat) (W W' : World) : Prop := Below n₀ W W' ∧ ∀ k, k < W.heap.size → k ≠ go → W'.heap[k]? = W.heap[k]?
theorem into_rr_refl (n₀ go : Nat) (W : World) : into_rr n₀ go W W := ⟨Below.refl _ _, fun _ _ _ => rfl⟩
theorem into_rr_below {n₀ go : Nat} {W W1 W2 : World} (h : into_rr n₀ go W W1) (hn : n₀ ≤ W.heap.size) (hb : Below W1.heap.size W1 W2) : into_rr n₀ go W W2 :=
  ⟨h.1.trans (hb.mono (Nat.le_trans hn h.1.size)), fun k hk hg => (hb.block k (Nat.lt_of_lt_of_le hk h.1.size)).trans (h.2 k hk hg)⟩
theorem into_rr_drew {n₀ go : Nat} {W W1 : World} (h : into_rr n₀ go W W1) : into_rr n₀ go W W1.drew := ⟨h.1.drew, h.2⟩
theorem into_rr_set {n₀ go : Nat} {W W1 : World} (h : into_rr n₀ go W W1) {g : Nat} (hg : g = go ∨ W.heap.size ≤ g) (h0 : n₀ ≤ g) (i : Nat) (v : Value) : into_rr n₀ go W (W1.setCell ⟨g, i, none⟩ v) :=
  ⟨h.1.setCell (p := ⟨g, i, none⟩) h0 v, fun k hk hkg => (Below.heap_setCell W1 ⟨g, i, none⟩ v k (by show k ≠ g; omega)).trans (h.2 k hk hkg)⟩
/-- What the things that come must find as it was. -/
def into_kp (B go : Nat) (W W' : World) : Prop := W.heap.size ≤ W'.heap.size ∧ ∀ k, k < B → k ≠ go → W'.heap[k]? = W.heap[k]?
theorem into_kp_t {B go : Nat} {X Y Z : World} (h : into_kp B go X Y) (k : into_kp B go Y Z) : into_kp B go X Z := ⟨Nat.le_trans h.1 k.1, fun i hi hg => (k.2 i hi hg).trans (h.2 i hi hg)⟩
theorem into_kp_b {B go : Nat} {w : World} (hB : B ≤ w.heap.size) (W : World) (l : Nat) (o o' : Obj) (hl : w.heap.size ≤ l) (_ : W.heap[l]? = some o) (_ : o.isCells = false) (_ : o.isWalk = false) : into_kp B go W (W.putObj l o') :=
  ⟨(grownBy_putObj' W l o').size, fun k hk _ => World.putObj_heap_other (by omega)⟩
/-- What holds between the rounds. -/
structure into_inv (w Wl : World) (go : Nat) (s : List Int) (W : World) : Prop where
  size : Wl.heap.size ≤ W.heap.size
  keep : ∀ k, k < Wl.heap.size → k ≠ go → W.heap[k]? = Wl.heap[k]?
  below : Below w.heap.size w W
  box : ∃ v, W.heap[go]? = some (.cells #[v] 22 (0, 0)) ∧ Kd.R (Kd.int .u64) 34 W w.heap.size (fun k => w.heap.size ≤ k) v s
theorem into_inv_own {w Wl : World} {go : Nat} {β : Type} (st : β → List Int) (hn : w.heap.size ≤ Wl.heap.size) (hgo : go < Wl.heap.size) : OwnFrom Wl.heap.size (fun (b : β) W => into_inv w Wl go (st b) W) := by
  intro b W W' row h hg hr
  obtain ⟨v, hb, hR⟩ := h.box
  have hrow : ∀ k, some k = row → Wl.heap.size ≤ k := fun k e => (hr k e.symm).1
  refine ⟨Nat.le_trans h.size hg.size, fun k hk hkg => ?_, h.below.grown hg (Nat.le_trans hn h.size) (fun k e => Nat.le_trans hn (hr k e).1), v, ?_, ?_⟩
  · exact (hg.block k (Nat.lt_of_lt_of_le hk h.size) (fun e => by have := hrow k e; omega)).trans (h.keep k hk hkg)
  · exact (hg.block go (Nat.lt_of_lt_of_le hgo h.size) (fun e => by have := hrow go e; omega)).trans hb
  · refine Kd.R_mono (Kd.R_step (Kd.R_tight2 rfl hR) (fun k hk hlt => hg.block k hlt (fun e => ?_))) (fun k hk => hk.2)
    obtain ⟨cells, hc⟩ := Kd.R_typed hR k hk.1.symm
    obtain ⟨_, o, ho, hcf⟩ := hr k e.symm
    rw [hc] at ho
    obtain rfl := Option.some.inj ho
    simp [Obj.isCells] at hcf
theorem into_end {w Wl W W5 : World} {go : Nat} {s s' : List Int} {v : Value} (hI : into_inv w Wl go s W) (hgo : go < Wl.heap.size) (rr : into_rr w.heap.size go W W5) (hb : W5.heap[go]? = some (.cells #[v] 22 (0, 0)))
    (hR : Kd.R (Kd.int .u64) 34 W5 w.heap.size (fun k => w.heap.size ≤ k) v s') : KeepsFrom Wl.heap.size W W5 ∧ into_kp Wl.heap.size go W W5 ∧ into_inv w Wl go s' W5 :=
  ⟨⟨rr.1.size, fun k o hB hk _ => (rr.2 k (blk_lt hk) (by omega)).trans hk⟩, ⟨rr.1.size, fun k hk hkg => rr.2 k (Nat.lt_of_lt_of_le hk hI.size) hkg⟩,
    ⟨Nat.le_trans hI.size rr.1.size, fun k hk hkg => (rr.2 k (Nat.lt_of_lt_of_le hk hI.size) hkg).trans (hI.keep k hk hkg), hI.below.trans rr.1, v, hb, hR⟩⟩
section
attribute [local go_sem] Oper.semAt_some
set_option maxRecDepth 100000 in
set_option maxHeartbeats 2000000 in
theorem into_back1 (F : Fence) (n : Nat) (h55 : F.fn 55) (hro : F.round = none) (hn : 1 ≤ n) (l Bs : Nat) (A : Option Addr) (cap : Nat) (zs : List Int) (Kp : World → World → Prop) (Rd : World → Prop)
    (hC : ∀ W, Rd W → Kd.C (Kd.int .u64) W A zs.length zs) (hB : ∀ W, Rd W → W.cell? ⟨Bs, 0, none⟩ = some (.slice A zs.length cap)) (hK : ∀ W W', Rd W → Kp W W' → Rd W') {α : Type} (encs : α → Array Value) (g : Nat → α)
    (hgx : ∀ j, j < zs.length → encs (g j) = #[.int .i64 ((zs.length - 1 - j : Nat) : Int), .int .u64 (rd zs ((zs.length - 1 - j : Nat) : Int))]) (J Jx : List α → World → Prop)
    (hY : ∀ pre x W, J pre W → pre.length < zs.length → YieldAt F (n - 1) Try.prog l (encs x) W fun e W' =>
      (e = .returned (.bool true) ∧ J (pre ++ [x]) W' ∧ Kp W W') ∨ (e = .returned (.bool false) ∧ Jx (pre ++ [x]) W'))
    (W : World) (hW : Rd W) (h0 : J [] W) :
    CallsIn F n Try.prog 55 #[.func (.yield l) #[] #[], .pointer (some ⟨Bs, 0, none⟩)] W fun e W' => (∃ v, e = .returned v) ∧
      ((∃ ys, ys = upto g zs.length ∧ J ys W') ∨ (∃ pre, (∃ k, k ≤ zs.length ∧ pre = upto g k) ∧ Jx pre W')) := by
  have hmax := Kd.C_max (hC W hW)
  have hCx := Aside0.mk hC
  have hBx := Aside0.mk hB
  have hKx := Aside0.mk hK
  have hBs := hB W hW
  clear hC hB hK
  refine callsIn_of_wp Try.func55 rfl h55 ?_ hro
  simp only [Try.ntmps55, List.size_toArray, List.length_cons, List.length_nil, Nat.reduceAdd, Nat.reduceSub, Array.replicate_succ, Array.replicate_zero, List.push_toArray, List.append_toArray, List.nil_append, List.cons_append]
  gi_wp2
  gi_loopw [3] (fun i wr => ∃ k : Nat, k ≤ zs.length ∧ i = .int .i64 ((zs.length : Int) - 1 - k) ∧ J (upto g k) wr ∧ Rd wr)
    (fun i _ => ((intOf i) + 1).toNat)
  case atStart => exact ⟨0, Nat.zero_le _, by congr 1; omega, h0, hW⟩
  case round =>
    obtain ⟨k, hk, rfl, hJs, hnx⟩ := hrel
    have hBx2 := hBx.out _ hnx
    by_cases hlt : k < zs.length
    · have hC2 := hCx.out _ hnx
      have hi : (zs.length : Int) - 1 - k = ((zs.length - 1 - k : Nat) : Int) := by omega
      obtain ⟨ad, c, hA, hcl, hcr, hcell⟩ := ReadsRow.get_ hC2 0 ((zs.length - 1 - k : Nat) : Int) (by omega) (by omega)
      replace hcr : c = [.int .u64 (rd zs ((zs.length - 1 - k : Nat) : Int))] := hcr
      subst hcr
      have hcc := hcell 0 _ rfl
      rw [show (Kd.int .u64).sz = 1 from rfl, Nat.mul_one, Nat.add_zero, Int.toNat_natCast] at hcc
      subst hA
      clear hcell hcl hC2
      obtain ⟨fn, tmps, assign, body, hy, hR⟩ := hY _ (g k) wr hJs (by rw [upto_length]; exact hlt)
      rw [hgx k hlt] at hy
      rw [hi]
      generalize hm : zs.length - 1 - k = m at *
      have hmlt : m < zs.length := by omega
      gi_wp2
      refine hR.mono ?_
      rintro e W3 (⟨rfl, hJ3, hk3⟩ | ⟨rfl, hJx3⟩)
      · have hR3 := hKx.out _ _ hnx hk3
        have hB3 : W3.cell? ⟨Bs, 0, none⟩ = some (.slice (some ad) zs.length cap) := hBx.out _ hR3
        gi_wp2
        go_roundw
        case rel => exact ⟨k + 1, by omega, by congr 1; omega, by rw [upto_succ]; exact hJ3, hR3⟩
        case measure => simp [intOf]
      · gi_wp2
        refine bodyPost_ret (results_none rfl _ _ _) rfl ?_
        exact ⟨⟨_, rfl⟩, .inr ⟨_, ⟨k + 1, by omega, by rw [upto_succ]⟩, hJx3⟩⟩
    · obtain rfl : k = zs.length := by omega
      gi_wp2
      go_end0
      exact ⟨⟨_, rfl⟩, .inl ⟨_, rfl, hJs⟩⟩
theorem into_back_stops (F : Fence) (n : Nat) (h55 : F.fn 55) (hro : F.round = none) (hn : 1 ≤ n) (Bs : Nat) (A : Option Addr) (cap : Nat) (zs : List Int) (Kp : World → World → Prop) (Rd : World → Prop)
    (hC : ∀ W, Rd W → Kd.C (Kd.int .u64) W A zs.length zs) (hB : ∀ W, Rd W → W.cell? ⟨Bs, 0, none⟩ = some (.slice A zs.length cap)) (hK : ∀ W W', Rd W → Kp W W' → Rd W') {α : Type} (encs : α → Array Value) (g : Nat → α)
    (hgx : ∀ j, j < zs.length → encs (g j) = #[.int .i64 ((zs.length - 1 - j : Nat) : Int), .int .u64 (rd zs ((zs.length - 1 - j : Nat) : Int))])
    (w : World) (hw : ∀ W, Below w.heap.size w W → Rd W) :
    SeqStopsK F n Try.prog 55 #[.pointer (some ⟨Bs, 0, none⟩)] encs Kp (fun ys => ys = upto g zs.length) (fun pre => ∃ k, k ≤ zs.length ∧ pre = upto g k) zs.length w := fun l J Jx W hW _ _ hY h0 =>
  into_back1 F n h55 hro hn l Bs A cap zs Kp Rd hC hB hK encs g hgx J Jx hY W (hw W hW) h0
end
theorem into_fold {f : Int} (q l : List Int) (g : Nat → {x : Int × Int // into_in f x.2 = true}) (hg : ∀ j, j < l.length → (g j).1.2 = rd l ((l.length - 1 - j : Nat) : Int)) : (upto g l.length).foldl (fun s x => into_step f q x.1.2 s) [] = l.foldr (into_step f q) [] := by
  have e : (upto g l.length).map (fun x => x.1.2) = l.reverse := by
    refine List.ext_getElem (by simp [upto]) fun i h1 h2 => ?_
    have hi : i < l.length := by simpa [upto] using h1
    simp only [upto, List.map_map, List.getElem_map, List.getElem_range, Function.comp]
    rw [hg i hi, List.getElem_reverse, Go.Proofs.Ytbjanbbjjnoecaa.M.rd_lt (by omega)]
  have h := List.foldl_map (f := fun x : {x : Int × Int // into_in f x.2 = true} => x.1.2) (g := fun s c => into_step f q c s) (l := upto g l.length) (init := ([] : List Int))
  rw [← h, e, List.foldl_reverse]
/-- What the rounds keep true of the list. -/
def into_G (f : Int) (m : Nat) (s : List Int) : Prop := Go.Proofs.Ytbjanbbjjnoecaa.M.El (Go.Proofs.Ytbjanbbjjnoecaa.M.P f) s ∧ s.length ≤ m * 4096 + 1
theorem into_in_iff {f c : Int} : into_in f c = true ↔ 0 ≤ c ∧ c < Go.Proofs.Ytbjanbbjjnoecaa.M.P f := by unfold into_in; simp
theorem into_tot_trim (s : List Int) (h : s.length < 4611686018427387904) : ∃ k, poly_trimmed.f k s = some (Go.Proofs.Ytbjanbbjjnoecaa.M.trim s) := Ev.rounds (TotI.trimmed_eq s h)
theorem into_tot_prod {f : Int} (hp : Go.Proofs.Ytbjanbbjjnoecaa.M.P f ≠ 0) {a b : List Int} (ea : Go.Proofs.Ytbjanbbjjnoecaa.M.El (Go.Proofs.Ytbjanbbjjnoecaa.M.P f) a) (eb : Go.Proofs.Ytbjanbbjjnoecaa.M.El (Go.Proofs.Ytbjanbbjjnoecaa.M.P f) b) (ha : a.length < 4398046511104) (hb : b.length < 4398046511104) : ∃ k, poly_reckoner_product.f k f a b = some (Go.Proofs.Ytbjanbbjjnoecaa.M.mulP (Go.Proofs.Ytbjanbbjjnoecaa.M.P f) a b) := Ev.rounds (TotI.product_eq hp _ _ ea eb ha hb)
theorem into_tot_add {f a b : Int} (hp : Go.Proofs.Ytbjanbbjjnoecaa.M.P f ≠ 0) (ha : 0 ≤ a ∧ a < Go.Proofs.Ytbjanbbjjnoecaa.M.P f) (hb : 0 ≤ b ∧ b < Go.Proofs.Ytbjanbbjjnoecaa.M.P f) : ∃ k, poly_reckoner_add.f k f a b = some ((a + b) % Go.Proofs.Ytbjanbbjjnoecaa.M.P f) := Ev.rounds (TotI.kadd_eq hp ha hb)
section
open Go.Proofs.Ytbjanbbjjnoecaa.M
theorem into_mul_el {p : Int} (hp : 0 < p) (a b : List Int) : El p (mulP p a b) := by
  unfold mulP; split
  · exact El.nil
  · exact pol_el fun i _ => ⟨Int.emod_nonneg _ (by omega), Int.emod_lt_of_pos _ hp⟩
theorem into_mul_len (p : Int) (a b : List Int) : (mulP p a b).length ≤ a.length + b.length := by
  unfold mulP; split
  · simp
  · rw [pol_len]; omega
/-- What is written to in a round. -/
def into_row (f : Int) (s q : List Int) : List Int := if mulP (P f) (trim s) q = [] then [0] else mulP (P f) (trim s) q
theorem into_row_facts {f : Int} (hp : P f ≠ 0) {m : Nat} {s q : List Int} (h : into_G f m s) (lq : q.length ≤ 4096) : El (P f) (into_row f s q) ∧ (into_row f s q).length ≤ (m + 1) * 4096 + 1 ∧ 0 < (into_row f s q).length := by
  have hlo := (P_pr hp).lo
  have hl := into_mul_len (P f) (trim s) q
  have ht := trim_le s
  unfold into_row
  split
  · exact ⟨El.cons (by omega) El.nil, by simp, by simp⟩
  · rename_i c
    refine ⟨into_mul_el (by omega) _ _, ?_, List.length_pos_iff.2 c⟩
    have := h.2
    rw [Nat.add_mul]; omega
theorem into_step_eq (f : Int) (q : List Int) (c : Int) (s : List Int) : into_step f q c s = (into_row f s q).set 0 ((rd (into_row f s q) 0 + c) % P f) := rfl
theorem into_G_step {f : Int} (hp : P f ≠ 0) {m : Nat} {s q : List Int} (h : into_G f m s) (lq : q.length ≤ 4096) (c : Int) : into_G f (m + 1) (into_step f q c s) := by
  have hlo := (P_pr hp).lo
  obtain ⟨h1, h2, h3⟩ := into_row_facts hp h lq
  rw [into_step_eq]
  refine ⟨fun x hx => ?_, by rw [List.length_set]; exact h2⟩
  rcases List.mem_or_eq_of_mem_set hx with e | e
  · exact h1 x e
  · rw [e]; exact ⟨Int.emod_nonneg _ (by omega), Int.emod_lt_of_pos _ (by omega)⟩
theorem into_G_fold {f : Int} (hp : P f ≠ 0) {q : List Int} (lq : q.length ≤ 4096) {α : Type} (v : α → Int) : ∀ (l : List α) (m : Nat) (s : List Int), into_G f m s → into_G f (m + l.length) (l.foldl (fun s x => into_step f q (v x) s) s)
  | [], m, s, h => h
  | x :: l, m, s, h => by
    have := into_G_fold hp lq v l (m + 1) _ (into_G_step hp h lq (v x))
    rwa [show m + 1 + l.length = m + (x :: l).length by simp; omega] at this
theorem into_ok_iff {f : Int} {p q : List Int} (h : into_ok f p q = true) : (∀ x ∈ p, into_in f x = true) ∧ El (P f) q ∧ p.length ≤ 4096 ∧ q.length ≤ 4096 ∧ P f ≠ 0 := by
  unfold into_ok at h
  simp only [Bool.and_eq_true, List.all_eq_true, decide_eq_true_eq] at h
  obtain ⟨⟨⟨⟨h1, h2⟩, h3⟩, h4⟩, h5⟩ := h
  exact ⟨h1, fun x hx => into_in_iff.1 (h2 x hx), h3, h4, h5⟩
theorem into_in_rd {f : Int} {p : List Int} (hp : P f ≠ 0) (h : ∀ x ∈ p, into_in f x = true) (i : Int) : into_in f (rd p i) = true := by
  have hlo := (P_pr hp).lo
  unfold rd
  rw [List.getD_eq_getElem?_getD]
  cases hq : p[i.toNat]? with
  | none => exact into_in_iff.2 (by simp; omega)
  | some x => exact h x (List.mem_of_getElem? hq)
end
theorem into_lit (W : World) : Kd.R (Kd.int .u64) 34 (W.alloc (.cells #[.int .u64 0] 34)) W.heap.size (fun _ => True) (.slice (some ⟨W.heap.size, 0, none⟩) ([0] : List Int).length 1) [0] := by
  have h2 := World.ownsRow_lit (base := W.heap.size) (e := 34) (size := 1) W #[.int .u64 0] 1 (Nat.le_refl _) (by decide) rfl
  exact ⟨fun _ _ => trivial, [.int .u64 0], h2, Reps.one (show Kd.M (Kd.int .u64) _ _ _ 0 [.int .u64 0] from rfl) (Reps.none _ _)⟩
theorem into_row_nil {f : Int} {s q : List Int} (h : Go.Proofs.Ytbjanbbjjnoecaa.M.mulP (Go.Proofs.Ytbjanbbjjnoecaa.M.P f) (Go.Proofs.Ytbjanbbjjnoecaa.M.trim s) q = []) : into_row f s q = [0] := if_pos h
theorem into_row_cons {f : Int} {s q : List Int} (h : Go.Proofs.Ytbjanbbjjnoecaa.M.mulP (Go.Proofs.Ytbjanbbjjnoecaa.M.P f) (Go.Proofs.Ytbjanbbjjnoecaa.M.trim s) q ≠ []) : into_row f s q = Go.Proofs.Ytbjanbbjjnoecaa.M.mulP (Go.Proofs.Ytbjanbbjjnoecaa.M.P f) (Go.Proofs.Ytbjanbbjjnoecaa.M.trim s) q := if_neg h
theorem into_tot_own (s : List Int) (h : s.length < 4611686018427387904) : ∃ k, poly_trimmed_own.f k s = some (Go.Proofs.Ytbjanbbjjnoecaa.M.trim s) := Ev.rounds (TotI.trimmed_own_eq s h)
/-- A row beside an object that is none of cells, which is written. -/
theorem into_R_put {W : World} {base D : Nat} {v : Value} {xs : List Int} {ds : List Deferred} (h : Kd.R (Kd.int .u64) 34 W base (fun k => base ≤ k) v xs) (hD : W.heap[D]? = some (.deferred (some ds))) (o : Obj) : Kd.R (Kd.int .u64) 34 (W.putObj D o) base (fun k => base ≤ k) v xs := by
  refine Kd.R_mono (Kd.R_step (Kd.R_tight2 rfl h) (fun k hk hlt => World.putObj_heap_other (fun e => ?_))) (fun k hk => hk.2)
  obtain ⟨cells, hc⟩ := Kd.R_typed h k hk.1.symm
  rw [e, hD] at hc
  cases hc
theorem into_R_ne {W : World} {base D : Nat} {ok : Nat → Prop} {v : Value} {xs : List Int} {ds : List Deferred} (h : Kd.R (Kd.int .u64) 34 W base ok v xs) (hD : W.heap[D]? = some (.deferred (some ds))) : some D ≠ v.ownBlock := fun e => by
  obtain ⟨cells, hc⟩ := Kd.R_typed h D e.symm
  rw [hD] at hc
  cases hc
section
attribute [local go_sem] Oper.semAt_some
def poly_Into.j0 : Nat → Int → List Int → List Int → Bool → List Int → Option (List Int × Int)
 | 0, _, _, _, _, _ => none
 | k + 1, x0, x1, x6, x44, x246000 => if x44 = true then (some (([] : List Int), 4)) else (if into_ok x0 x1 x246000 = true then (some (into_all x0 x1 x246000, 0)) else (none))
def poly_Into.f (k : Nat) (a0 : Int) (l1 : List Int) (l2 : List Int) : Option (List Int × Int) := (poly_may.f k a0 (([l1, l2] : List (List Int)))).bind fun t249 => (if t249 = 0 then ((poly_trimmed.f k l1).bind fun t250 => ((poly_trimmed.f k l2).bind fun t253 => (if (wrap64 ((t250.length : Int) - 1)) ≥ 1 then (if (wrap64 ((t253.length : Int) - 1)) ≥ 1 then (poly_Into.j0 k a0 t250 ([] : List Int) (decide ((wrap64 ((wrap64 ((t250.length : Int) - 1)) * (wrap64 ((t253.length : Int) - 1)))) ≥ 4096)) t253) else (poly_Into.j0 k a0 t250 ([] : List Int) false t253)) else (poly_Into.j0 k a0 t250 ([] : List Int) false t253)))) else (some (([] : List Int), t249)))
theorem poly_Into.mono_l : ∀ k, (∀ y0 y1 y2 y3 y4, LeO (poly_Into.j0 k y0 y1 y2 y3 y4) (poly_Into.j0 (k + 1) y0 y1 y2 y3 y4))
 | 0 => fun _ _ _ _ _ r h => by simp [poly_Into.j0] at h
 | k + 1 => by
  have ih0 := poly_Into.mono_l k
  ·intro y0 y1 y2 y3 y4
   unfold poly_Into.j0
   repeat' first
   | (with_reducible exact ih0 _ _ _ _ _)
   | (with_reducible exact poly_may.mono _ _ _)
   | (with_reducible exact poly_trimmed.mono _ _)
   | (with_reducible exact LeO.refl _)
   | (with_reducible exact LeO.none _)
   | (with_reducible refine LeO.ite ?_ ?_)
   | (with_reducible refine LeO.bind ?_ (fun _ => ?_))
   | exact ih0 _ _ _ _ _
   | exact poly_may.mono _ _ _
   | exact poly_trimmed.mono _ _
   | exact LeO.none _
   | refine LeO.ite ?_ ?_
   | refine LeO.bind ?_ (fun _ => ?_)
theorem poly_Into.mono : ∀ a0 a1 a2 k, LeO (poly_Into.f k a0 a1 a2) (poly_Into.f (k + 1) a0 a1 a2) := by
 intro a0 a1 a2 k
 have ih0 := poly_Into.mono_l k
 unfold poly_Into.f
 repeat' first
   | (with_reducible exact ih0 _ _ _ _ _)
   | (with_reducible exact poly_may.mono _ _ _)
   | (with_reducible exact poly_trimmed.mono _ _)
   | (with_reducible exact LeO.refl _)
   | (with_reducible exact LeO.none _)
   | (with_reducible refine LeO.ite ?_ ?_)
   | (with_reducible refine LeO.bind ?_ (fun _ => ?_))
   | exact ih0 _ _ _ _ _
   | exact poly_may.mono _ _ _
   | exact poly_trimmed.mono _ _
   | exact LeO.none _
   | refine LeO.ite ?_ ?_
   | refine LeO.bind ?_ (fun _ => ?_)
def poly_Into.T5 : Bool × List (List Nat × List Nat) := (true, [([], []), ([0], [0]), ([1], [1]), ([], []), ([3], [3]), ([4], [4]), ([2, 0, 1, 2], [2]), ([5, 6, 0, 1, 2, 3, 4, 5, 6], [5])])
def poly_Into.B5 : List Nat := [0, 1, 3, 0, 8, 24, 7, 127]
theorem poly_Into.tab5 : rtab .any (opsOf Try.f26 5) = poly_Into.T5 := by kernel_rfl
theorem poly_Into.bits5 : waitsOk poly_Into.T5.2 poly_Into.B5 = true := by kernel_rfl
set_option maxHeartbeats 8000000 in
set_option maxRecDepth 100000 in
theorem poly_Into.calls (k : Nat) (a0 : Int) (P1_ : Nat → Prop) (A1 : Option Addr) (c1 : Nat) (l1 : List Int) (P2_ : Nat → Prop) (A2 : Option Addr) (c2 : Nat) (l2 : List Int) (r1 : List Int) (r2 : Int) (w : World) (hs1 : Kd.V (Kd.int .u64) 34 w w.heap.size (fun k_ => P1_ k_) (.slice A1 l1.length c1) l1) (hs2 : Kd.V (Kd.int .u64) 34 w w.heap.size (fun k_ => P2_ k_) (.slice A2 l2.length c2) l2) (h : poly_Into.f k a0 l1 l2 = some (r1, r2)) :
  Calls Try.prog 26 #[.int .u8 a0, .slice A1 l1.length c1, .slice A2 l2.length c2] w fun e w' => ∃ v0_ : Value, e = .returned (.tuple #[v0_, .int .i64 r2]) ∧ Kd.R (Kd.int .u64) 34 w' w.heap.size (fun k_ => (w.heap.size ≤ k_)) v0_ r1 ∧ Below w.heap.size w w' := by
 have hu57 := Try.underlying57
 have HO1 := A_ (show Kd.V (Kd.int .u64) 34 w w.heap.size (fun k_ => ((P1_ k_ ∨ P2_ k_) ∨ w.heap.size ≤ k_)) (.slice A1 l1.length c1) l1 from Kd.V_mono hs1 (fun k_ hk => .inl (.inl hk)))
 have HO2 := A_ (show Kd.V (Kd.int .u64) 34 w w.heap.size (fun k_ => ((P1_ k_ ∨ P2_ k_) ∨ w.heap.size ≤ k_)) (.slice A2 l2.length c2) l2 from Kd.V_mono hs2 (fun k_ hk => .inl (.inr hk)))
 have HB := A_ (Below.refl w.heap.size w)
 have H : ((poly_may.f k a0 (([l1, l2] : List (List Int)))).bind fun t249 => (if t249 = 0 then ((poly_trimmed.f k l1).bind fun t250 => ((poly_trimmed.f k l2).bind fun t253 => (if (wrap64 ((t250.length : Int) - 1)) ≥ 1 then (if (wrap64 ((t253.length : Int) - 1)) ≥ 1 then (poly_Into.j0 k a0 t250 ([] : List Int) (decide ((wrap64 ((wrap64 ((t250.length : Int) - 1)) * (wrap64 ((t253.length : Int) - 1)))) ≥ 4096)) t253) else (poly_Into.j0 k a0 t250 ([] : List Int) false t253)) else (poly_Into.j0 k a0 t250 ([] : List Int) false t253)))) else (some (([] : List Int), t249)))) = some (r1, r2) := h
 clear h
 obtain ⟨y246, hy246⟩ : ∃ y_ : List (List Int), y_ = (([l1, l2] : List (List Int))) := ⟨_, rfl⟩
 replace H : ((poly_may.f k a0 y246).bind fun t249 => (if t249 = 0 then ((poly_trimmed.f k l1).bind fun t250 => ((poly_trimmed.f k l2).bind fun t253 => (if (wrap64 ((t250.length : Int) - 1)) ≥ 1 then (if (wrap64 ((t253.length : Int) - 1)) ≥ 1 then (poly_Into.j0 k a0 t250 ([] : List Int) (decide ((wrap64 ((wrap64 ((t250.length : Int) - 1)) * (wrap64 ((t253.length : Int) - 1)))) ≥ 4096)) t253) else (poly_Into.j0 k a0 t250 ([] : List Int) false t253)) else (poly_Into.j0 k a0 t250 ([] : List Int) false t253)))) else (some (([] : List Int), t249)))) = some (r1, r2) := by first | (rw [hy246]; with_reducible exact H) | (have H2_ := (Option.bind_some _ _).symm.trans H; rw [hy246]; with_reducible exact H2_) | (have H2_ := (Option.bind_some _ _).symm.trans H; with_reducible exact H2_) | with_reducible exact H | (rw [hy246]; exact H) | exact H
 have Ny246 := Aside0.mk hy246
 clear hy246
 replace H := Option.bind_eq_some_iff.mp H
 obtain ⟨t249, A40, H⟩ := H
 (try dsimp only at H)
 have A4 := Aside0.mk A40
 clear A40
 by_cases c5 : t249 = 0
 ·rw [if_pos c5] at H
  have c5b0 : (t249 == 0) = true := beq_iff_eq.mpr c5
  have c5b1 : (t249 != 0) = false := bne_eq_false_iff_eq.mpr c5
  clear c5
  replace H := Option.bind_eq_some_iff.mp H
  obtain ⟨t250, A60, H⟩ := H
  (try dsimp only at H)
  have A6 := Aside0.mk A60
  clear A60
  replace H := Option.bind_eq_some_iff.mp H
  obtain ⟨t253, A70, H⟩ := H
  (try dsimp only at H)
  have A7 := Aside0.mk A70
  clear A70
  have HC8 := Aside0.mk H
  clear H
  let hBP_ := bodyPost Try.prog Try.f26 (fun (_ : Ending) (_ : World) => True); refine into_enter Try.func26 rfl ?_; simp only [Try.ntmps26, List.size_toArray, List.length_cons, List.length_nil, Nat.reduceAdd, Nat.reduceSub, Array.replicate_succ, Array.replicate_zero, List.push_toArray, List.append_toArray, List.nil_append, List.cons_append]
  try go_wp2_with (first | ((with_reducible refine gate_dst (N := 5) rfl ?_); refine box_event ?hg (N := 5) ?hd (cs := #[.slice A2 l2.length c2]) (t := 22) ?hr ?_; (case hd => rfl); (case hg => rfl); (case hr => first | (go_simp; done) | (go_simp; rfl)); intro gb245 hg w9 hbox hb; have n0_ := A_ (Kd.V_below (Kd.V_elderB (nV_ HO1) gb245 (Nat.le_of_eq hg.symm)) hb); have n1_ := A_ (Kd.V_below (Kd.V_elderB (nV_ HO2) gb245 (Nat.le_of_eq hg.symm)) hb); have n2_ := A_ (below_step hb_ hb); have n3_ := A_ (hbox); have n4_ := A_ ((by rw [hg]; exact (below_size hb_) : w.heap.size ≤ gb245)); have n5_ := A_ ((by rw [hg]; exact (below_size hb_) : w.heap.size ≤ gb245)); clear HO1 HO2 HB; have HO1 := n0_; have HO2 := n1_; have HB := n2_; have BK245 := n3_; have GW245 := n4_; have GE245 := n5_; clear n0_ n1_ n2_ n3_ n4_ n5_; clear hb hbox hg; have hcz10_0 : w9.cell? ⟨gb245, 0, none⟩ = some (.slice A2 l2.length c2) := (blk_cell BK245.out 0).trans rfl; have hfz10_0 := blk_frozen BK245.out 0) | ((with_reducible refine gate_dst (N := 18) rfl ?_); refine Kd.N_lit (Kd.slice 34 (Kd.int .u64)) _ 22 ?hg (N' := 18) ?hd (xs := ([l1, l2] : List (List Int))) (inner := [.slice A1 l1.length c1, .slice A2 l2.length c2]) (ok := (fun k_ => ((P1_ k_ ∨ P2_ k_) ∨ w.heap.size ≤ k_) ∧ k_ ≠ gb245)) (okp := (fun k_ => ((P1_ k_ ∨ P2_ k_) ∨ w.heap.size ≤ k_) ∧ k_ ≠ gb245)) ?hr ?hp (fun _ hk => hk) ((show ∀ k_, w9.heap.size ≤ k_ → (fun k_ => ((P1_ k_ ∨ P2_ k_) ∨ w.heap.size ≤ k_) ∧ k_ ≠ gb245) k_ from fun k_ hk => ⟨(.inr (Nat.le_trans (below_size hs_) hk)), Kd.freshB (g := gb245) (o := .cells #[.slice A2 l2.length c2] 22 (0, 0)) (nb_ BK245) k_ hk⟩) _ (Nat.le_refl _)) (Below.refl _ _) (Nat.le_refl _) (by simp) ?_; (case hd => rfl); (case hg => rfl); (case hr => first | (go_simp; done) | (go_simp; rfl)); (case hp => exact (Reps.one (show Kd.FK (Kd.slice 34 (Kd.int .u64)) _ _ l1 [.slice A1 l1.length c1] from (Kd.FK_slice_mk (Kd.V_reads' (Kd.V_mono (ok' := (fun k_ => ((P1_ k_ ∨ P2_ k_) ∨ w.heap.size ≤ k_) ∧ k_ ≠ gb245)) (HO1.out) (fun k_ hk => ⟨hk.1, hk.2⟩))).2.1 (Kd.V_F (Kd.V_mono (ok' := (fun k_ => ((P1_ k_ ∨ P2_ k_) ∨ w.heap.size ≤ k_) ∧ k_ ≠ gb245)) (HO1.out) (fun k_ hk => ⟨hk.1, hk.2⟩))))) (Reps.one (show Kd.FK (Kd.slice 34 (Kd.int .u64)) _ _ l2 [.slice A2 l2.length c2] from (Kd.FK_slice_mk (Kd.V_reads' (Kd.V_mono (ok' := (fun k_ => ((P1_ k_ ∨ P2_ k_) ∨ w.heap.size ≤ k_) ∧ k_ ≠ gb245)) (HO2.out) (fun k_ hk => ⟨hk.1, hk.2⟩))).2.1 (Kd.V_F (Kd.V_mono (ok' := (fun k_ => ((P1_ k_ ∨ P2_ k_) ∨ w.heap.size ≤ k_) ∧ k_ ≠ gb245)) (HO2.out) (fun k_ hk => ⟨hk.1, hk.2⟩))))) (Reps.none _ _)))); intro v247 w11 ho12 hb hg_ hnew_; clear hg_ hnew_; (first | rw [← Ny246.out] at ho12 | (simp only [Int.reduceToNat] at ho12; rw [← Ny246.out] at ho12)); have n0_ := A_ (Kd.V_elder' (nV_ HO1) (Kd.N_base ho12) hb); have n1_ := A_ (Kd.V_elder' (nV_ HO2) (Kd.N_base ho12) hb); have n2_ := A_ (Kd.N_lower ho12 (below_size hs_)); have n3_ := A_ (blk_below (g := gb245) (o := .cells #[.slice A2 l2.length c2] 22 (0, 0)) (nb_ BK245) hb); have n4_ := A_ (below_step hs_ hb); clear HO1 HO2 BK245 HB; have HO1 := n0_; have HO2 := n1_; have HO248 := n2_; have BK245 := n3_; have HB := n4_; clear n0_ n1_ n2_ n3_ n4_; clear hb ho12; obtain ⟨Ao13, co13, eo13⟩ := Kd.N_slice HO248.out; subst eo13) | ((with_reducible refine gate_callee (f := 42) rfl ?_); refine goesM_ (some 19) Try.func42 #[.int .u8 a0, .slice Ao13 y246.length co13] ?_; (with_reducible refine (poly_may.calls k a0 _ _ y246 t249 _ ?side1 ?side2 A4.out).mono ?_); (case side1 => repeat (first | exact (Kd.N_reads' HO248.out).2.2 | (with_reducible refine Kd.C_alloc ?_ _) | (with_reducible refine Kd.C_drewN ?_ _) | (with_reducible refine Kd.C_drew ?_))); (case side2 => exact (Kd.N_reads' HO248.out).2.1); rintro e w14 ⟨rfl, hb⟩; refine ⟨_, rfl, ?_⟩; have n0_ := A_ (Kd.V_below (nV_ HO1) hb); have n1_ := A_ (Kd.V_below (nV_ HO2) hb); have n2_ := A_ (Kd.N_below (nN_ HO248) hb); have n3_ := A_ (blk_below (g := gb245) (o := .cells #[.slice A2 l2.length c2] 22 (0, 0)) (nb_ BK245) hb); have n4_ := A_ (below_step hs_ hb); clear HO1 HO2 HO248 BK245 HB; have HO1 := n0_; have HO2 := n1_; have HO248 := n2_; have BK245 := n3_; have HB := n4_; clear n0_ n1_ n2_ n3_ n4_; (try clear hb)))
  have n0_ := A_ (Kd.V_drew HO1.out)
  have n1_ := A_ (Kd.V_drew HO2.out)
  have n2_ := A_ (Kd.N_drew HO248.out)
  have n3_ := A_ (blk_drew BK245.out)
  have n4_ := A_ (below_drew1 HB.out)
  clear HO1
  clear HO2
  clear HO248
  clear BK245
  clear HB
  have HO1 := n0_
  have HO2 := n1_
  have HO248 := n2_
  have BK245 := n3_
  have HB := n4_
  clear n0_ n1_ n2_ n3_ n4_
  refine start_ (n := 6) (S := fun w' => w'.cell? ⟨gb245, 0, none⟩ = some (.slice A2 l2.length c2)) (ds := [5]) #[false, false, false, false, false, false] (by kernel_rfl) rfl rfl ((blk_cell BK245.out 0).trans rfl) (fun hHeld => ?_)
  generalize w14.drew = w15 at HO1 HO2 HO248 BK245 HB hHeld ⊢
  refine pure_ (i := 0) (N := some 23) (v := ?_) (a' := ?_) #[true, false, false, false, false, false] rfl rfl (by kernel_rfl) (fun _ _ _ h => h) (Or.inl ⟨by rfl, ?_⟩) ?_ ?_
  rotate_left
  ·intro w'
   go_simp
   with_reducible rfl
  rotate_left
  ·simp only [Act.put, List.setIfInBounds_toArray, List.set_cons_zero, List.set_cons_succ, i64_w, i32_w]
   rfl
  refine take_ (i := 2) (N := some 25) (v := ?_) (a' := ?_) #[true, false, true, false, false, false] rfl rfl (by kernel_rfl) (fun _ _ _ h => h) (Or.inl ⟨by rfl, ?_⟩) hHeld ?_ ?_
  rotate_left
  ·intro w' s0
   go_simp
   with_reducible rfl
  rotate_left
  ·simp only [Act.put, List.setIfInBounds_toArray, List.set_cons_zero, List.set_cons_succ, i64_w, i32_w]
   rfl
  refine one_ (i := 1) (N := some 24) #[true, true, true, false, false, false] rfl rfl (by kernel_rfl) (by decide) (fun K hK => ?_)
  refine goes_ Try.func36 (by kernel_rfl) rfl #[.slice A1 l1.length c1] (by rfl) rfl rfl (by (try simp only [List.map_toArray, List.map_cons, List.map_nil]); first | done | rfl | (simp only [List.length_drop, List.length_take]; rfl)) ?_
  with_reducible refine (poly_trimmed.calls k (fun k_ => ((((P1_ k_ ∨ P2_ k_) ∨ w.heap.size ≤ k_) ∧ k_ ≠ gb245) ∧ some k_ ≠ (.slice Ao13 y246.length co13 : Value).ownBlock)) _ _ l1 t250 _ ?side1 A6.out).mono ?_
  (case side1 => exact HO1.out)
  rintro e w16 ⟨v251, rfl, ho0, hb⟩
  refine ⟨_, rfl, ?_⟩
  have n0_ := A_ (Kd.V_below (nV_ HO1) hb)
  have n1_ := A_ (Kd.V_below (nV_ HO2) hb)
  have n2_ := A_ (Kd.N_below (nN_ HO248) hb)
  have n3_ := A_ (Kd.V_lower (Kd.V_mono (ok' := fun k_ => ((P1_ k_ ∨ P2_ k_) ∨ w.heap.size ≤ k_) ∧ some k_ ≠ (.slice Ao13 y246.length co13 : Value).ownBlock ∧ k_ ≠ gb245) ho0 (fun k_ hk_ => ⟨Or.elim hk_ (fun hs_ => hs_.1.1) (fun hn_ => (.inr (Nat.le_trans (below_size hs_) hn_))), Or.elim hk_ (fun hs_ => hs_.2) (fun hn_ => (Kd.fresh' (Kd.N_lt (nN_ HO248)) k_ hn_)), Or.elim hk_ (fun hs_ => hs_.1.2) (fun hn_ => (Kd.freshB (g := gb245) (o := .cells #[.slice A2 l2.length c2] 22 (0, 0)) (nb_ BK245) k_ hn_))⟩)) (below_size hs_))
  have n4_ := A_ (blk_below (g := gb245) (o := .cells #[.slice A2 l2.length c2] 22 (0, 0)) (nb_ BK245) hb)
  have n5_ := A_ (below_step hs_ hb)
  clear HO1
  clear HO2
  clear HO248
  clear BK245
  clear HB
  have HO1 := n0_
  have HO2 := n1_
  have HO248 := n2_
  have HO252 := n3_
  have BK245 := n4_
  have HB := n5_
  clear n0_ n1_ n2_ n3_ n4_ n5_
  (try clear hb)
  (try clear hb2)
  (try clear hk)
  (try clear hi)
  (try clear ho0)
  refine hK.out _ _ ((blk_cell BK245.out 0).trans rfl) (fun hHeld => ?_)
  clear hK K
  refine norm_ (a' := ?_) ?_ ?_
  rotate_left
  ·show Act.put _ (some 24) _ = _
   simp only [Act.put, List.setIfInBounds_toArray, List.set_cons_zero, List.set_cons_succ, i64_w, i32_w]
   rfl
  refine one_ (i := 3) (N := some 26) #[true, true, true, true, false, false] rfl rfl (by kernel_rfl) (by decide) (fun K hK => ?_)
  refine goes_ Try.func36 (by kernel_rfl) rfl #[.slice A2 l2.length c2] (by rfl) rfl rfl (by (try simp only [List.map_toArray, List.map_cons, List.map_nil]); first | done | rfl | (simp only [List.length_drop, List.length_take]; rfl)) ?_
  with_reducible refine (poly_trimmed.calls k (fun k_ => ((((P1_ k_ ∨ P2_ k_) ∨ w.heap.size ≤ k_) ∧ k_ ≠ gb245) ∧ some k_ ≠ (.slice Ao13 y246.length co13 : Value).ownBlock)) _ _ l2 t253 _ ?side1 A7.out).mono ?_
  (case side1 => exact HO2.out)
  rintro e w17 ⟨v254, rfl, ho0, hb⟩
  refine ⟨_, rfl, ?_⟩
  have n0_ := A_ (Kd.V_below (nV_ HO1) hb)
  have n1_ := A_ (Kd.V_below (nV_ HO2) hb)
  have n2_ := A_ (Kd.N_below (nN_ HO248) hb)
  have n3_ := A_ (Kd.V_below (nV_ HO252) hb)
  have n4_ := A_ (Kd.V_lower (Kd.V_mono (ok' := fun k_ => ((P1_ k_ ∨ P2_ k_) ∨ w.heap.size ≤ k_) ∧ some k_ ≠ (.slice Ao13 y246.length co13 : Value).ownBlock ∧ k_ ≠ gb245) ho0 (fun k_ hk_ => ⟨Or.elim hk_ (fun hs_ => hs_.1.1) (fun hn_ => (.inr (Nat.le_trans (below_size hs_) hn_))), Or.elim hk_ (fun hs_ => hs_.2) (fun hn_ => (Kd.fresh' (Kd.N_lt (nN_ HO248)) k_ hn_)), Or.elim hk_ (fun hs_ => hs_.1.2) (fun hn_ => (Kd.freshB (g := gb245) (o := .cells #[.slice A2 l2.length c2] 22 (0, 0)) (nb_ BK245) k_ hn_))⟩)) (below_size hs_))
  have n5_ := A_ (blk_below (g := gb245) (o := .cells #[.slice A2 l2.length c2] 22 (0, 0)) (nb_ BK245) hb)
  have n6_ := A_ (below_step hs_ hb)
  clear HO1
  clear HO2
  clear HO248
  clear HO252
  clear BK245
  clear HB
  have HO1 := n0_
  have HO2 := n1_
  have HO248 := n2_
  have HO252 := n3_
  have HO255 := n4_
  have BK245 := n5_
  have HB := n6_
  clear n0_ n1_ n2_ n3_ n4_ n5_ n6_
  (try clear hb)
  (try clear hb2)
  (try clear hk)
  (try clear hi)
  (try clear ho0)
  obtain ⟨Ao18, co18, eo18⟩ := Kd.V_slice HO255.out
  (first | subst eo18 | (injection eo18 with f1_ f2_ f3_; have f4_ := f1_.symm; have f5_ := f3_.symm; clear f1_ f2_ f3_; subst f4_; subst f5_))
  refine hK.out _ _ ((blk_cell BK245.out 0).trans rfl) (fun hHeld => ?_)
  clear hK K
  refine norm_ (a' := ?_) ?_ ?_
  rotate_left
  ·show Act.put _ (some 26) _ = _
   simp only [Act.put, List.setIfInBounds_toArray, List.set_cons_zero, List.set_cons_succ, i64_w, i32_w]
   rfl
  refine pure_ (i := 4) (N := some 1) (v := ?_) (a' := ?_) #[true, true, true, true, true, false] rfl rfl (by kernel_rfl) (fun _ _ _ h => h) (Or.inl ⟨by rfl, ?_⟩) ?_ ?_
  rotate_left
  ·intro w'
   go_simp
   with_reducible rfl
  rotate_left
  ·simp only [Act.put, List.setIfInBounds_toArray, List.set_cons_zero, List.set_cons_succ, i64_w, i32_w]
   rfl
  refine last_ (i := 5) (N := none) #[true, true, true, true, true, true] rfl rfl (by kernel_rfl) (by decide) (fun K hK => ?_)
  have hs19 : w17.cell? ⟨gb245, 0, none⟩ = some (.slice A2 l2.length c2) := (blk_cell BK245.out 0).trans rfl
  have hfs19 := blk_frozen BK245.out 0
  refine skip_ (w1 := ?_) (by rfl) rfl ?_ ?_
  rotate_left
  ·go_simp
   rfl
  refine hK.out _ _ ?_
  clear hK K
  refine done_ (by kernel_rfl) ?_
  try go_wp2
  have n0_ : Aside0 (Kd.V (Kd.int .u64) 34 (w17.setCell ⟨gb245, 0, none⟩ (.slice Ao18 t253.length co18)) w.heap.size (fun k_ => ((P1_ k_ ∨ P2_ k_) ∨ w.heap.size ≤ k_) ∧ some k_ ≠ (.slice Ao13 y246.length co13 : Value).ownBlock ∧ k_ ≠ gb245) (.slice A1 l1.length c1) l1) := ⟨by (with_reducible repeat (first | apply Kd.V_alloc | apply Kd.V_drewN | apply Kd.V_drew)); exact Kd.V_mono (Kd.V_far (p := ⟨gb245, 0, none⟩) (Kd.V_mono HO1.out (fun k_ hk => (⟨hk, hk.1.2⟩ : _ ∧ k_ ≠ gb245))) (fun _ hk => hk.2) (.slice Ao18 t253.length co18)) (fun _ hk => ⟨hk.1.1.1, ⟨hk.1.2, hk.1.1.2⟩⟩)⟩
  have n1_ : Aside0 (Kd.V (Kd.int .u64) 34 (w17.setCell ⟨gb245, 0, none⟩ (.slice Ao18 t253.length co18)) w.heap.size (fun k_ => ((P1_ k_ ∨ P2_ k_) ∨ w.heap.size ≤ k_) ∧ some k_ ≠ (.slice Ao13 y246.length co13 : Value).ownBlock ∧ k_ ≠ gb245) (.slice A2 l2.length c2) l2) := ⟨by (with_reducible repeat (first | apply Kd.V_alloc | apply Kd.V_drewN | apply Kd.V_drew)); exact Kd.V_mono (Kd.V_far (p := ⟨gb245, 0, none⟩) (Kd.V_mono HO2.out (fun k_ hk => (⟨hk, hk.1.2⟩ : _ ∧ k_ ≠ gb245))) (fun _ hk => hk.2) (.slice Ao18 t253.length co18)) (fun _ hk => ⟨hk.1.1.1, ⟨hk.1.2, hk.1.1.2⟩⟩)⟩
  have n2_ : Aside0 (Kd.N (Kd.slice 34 (Kd.int .u64)) 22 (w17.setCell ⟨gb245, 0, none⟩ (.slice Ao18 t253.length co18)) w.heap.size (fun k_ => ((P1_ k_ ∨ P2_ k_) ∨ w.heap.size ≤ k_) ∧ k_ ≠ gb245) (.slice Ao13 y246.length co13) y246) := ⟨by (with_reducible repeat (first | apply Kd.N_alloc | apply Kd.N_drewN | apply Kd.N_drew)); exact Kd.N_mono (Kd.N_far (p := ⟨gb245, 0, none⟩) (Kd.N_mono HO248.out (fun k_ hk => (⟨hk, hk.2⟩ : _ ∧ k_ ≠ gb245))) (fun _ hk => hk.2) (.slice Ao18 t253.length co18)) (fun _ hk => ⟨hk.1.1, hk.1.2⟩)⟩
  have n3_ : Aside0 (Kd.V (Kd.int .u64) 34 (w17.setCell ⟨gb245, 0, none⟩ (.slice Ao18 t253.length co18)) w.heap.size (fun k_ => ((P1_ k_ ∨ P2_ k_) ∨ w.heap.size ≤ k_) ∧ some k_ ≠ (.slice Ao13 y246.length co13 : Value).ownBlock ∧ k_ ≠ gb245) v251 t250) := ⟨by (with_reducible repeat (first | apply Kd.V_alloc | apply Kd.V_drewN | apply Kd.V_drew)); exact Kd.V_mono (Kd.V_far (p := ⟨gb245, 0, none⟩) (Kd.V_mono HO252.out (fun k_ hk => (⟨hk, hk.2.2⟩ : _ ∧ k_ ≠ gb245))) (fun _ hk => hk.2) (.slice Ao18 t253.length co18)) (fun _ hk => ⟨hk.1.1, ⟨hk.1.2.1, hk.1.2.2⟩⟩)⟩
  have n4_ : Aside0 (Kd.V (Kd.int .u64) 34 (w17.setCell ⟨gb245, 0, none⟩ (.slice Ao18 t253.length co18)) w.heap.size (fun k_ => ((P1_ k_ ∨ P2_ k_) ∨ w.heap.size ≤ k_) ∧ some k_ ≠ (.slice Ao13 y246.length co13 : Value).ownBlock ∧ k_ ≠ gb245) (.slice Ao18 t253.length co18) t253) := ⟨by (with_reducible repeat (first | apply Kd.V_alloc | apply Kd.V_drewN | apply Kd.V_drew)); exact Kd.V_mono (Kd.V_far (p := ⟨gb245, 0, none⟩) (Kd.V_mono HO255.out (fun k_ hk => (⟨hk, hk.2.2⟩ : _ ∧ k_ ≠ gb245))) (fun _ hk => hk.2) (.slice Ao18 t253.length co18)) (fun _ hk => ⟨hk.1.1, ⟨hk.1.2.1, hk.1.2.2⟩⟩)⟩
  have n5_ : Aside0 ((w17.setCell ⟨gb245, 0, none⟩ (.slice Ao18 t253.length co18)).heap[gb245]? = some (.cells #[.slice Ao18 t253.length co18] 22 (0, 0))) := ⟨by (with_reducible repeat (first | refine blk_drewN ?_ _ | refine blk_drew ?_ | refine blk_alloc ?_ _)); refine blk_put (cs := #[.slice A2 l2.length c2]) ?_ 0 _ rfl; (with_reducible repeat (first | refine blk_drewN ?_ _ | refine blk_drew ?_ | refine blk_alloc ?_ _)); exact BK245.out⟩
  have n6_ : Aside0 (Below w.heap.size w (w17.setCell ⟨gb245, 0, none⟩ (.slice Ao18 t253.length co18))) := ⟨hs_⟩
  (try clear HO1)
  (try clear HO2)
  (try clear HO248)
  (try clear HO252)
  (try clear HO255)
  (try clear BK245)
  (try clear HB)
  generalize (w17.setCell ⟨gb245, 0, none⟩ (.slice Ao18 t253.length co18)) = w20 at n0_ n1_ n2_ n3_ n4_ n5_ n6_ ⊢
  have HO1 := n0_
  have HO2 := n1_
  have HO248 := n2_
  have HO252 := n3_
  have HO255 := n4_
  have BK245 := n5_
  have HB := n6_
  clear n0_ n1_ n2_ n3_ n4_ n5_ n6_
  have n0_ := A_ (Kd.V_drew HO1.out)
  have n1_ := A_ (Kd.V_drew HO2.out)
  have n2_ := A_ (Kd.N_drew HO248.out)
  have n3_ := A_ (Kd.V_drew HO252.out)
  have n4_ := A_ (Kd.V_drew HO255.out)
  have n5_ := A_ (blk_drew BK245.out)
  have n6_ := A_ (below_drew1 HB.out)
  clear HO1
  clear HO2
  clear HO248
  clear HO252
  clear HO255
  clear BK245
  clear HB
  have HO1 := n0_
  have HO2 := n1_
  have HO248 := n2_
  have HO252 := n3_
  have HO255 := n4_
  have BK245 := n5_
  have HB := n6_
  clear n0_ n1_ n2_ n3_ n4_ n5_ n6_
  obtain ⟨Ao22, co22, eo22⟩ := Kd.V_slice HO252.out
  (first | subst eo22 | (injection eo22 with f1_ f2_ f3_; have f4_ := f1_.symm; have f5_ := f3_.symm; clear f1_ f2_ f3_; subst f4_; subst f5_))
  refine start_ (n := 8) (S := fun w' => w'.cell? ⟨gb245, 0, none⟩ = some (.slice Ao18 t253.length co18)) (ds := []) #[false, false, false, false, false, false, false, false] (by kernel_rfl) rfl rfl ((blk_cell BK245.out 0).trans rfl) (fun hHeld => ?_); refine with_tabW poly_Into.tab5 poly_Into.bits5 (fun HT_ HW_ => ?_)
  generalize w20.drew = w21 at HO1 HO2 HO248 HO252 HO255 BK245 HB hHeld ⊢
  refine pure_ (i := 0) (N := some 27) (v := ?_) (a' := ?_) #[true, false, false, false, false, false, false, false] rfl rfl (any_of HT_.out (by kernel_rfl)) (fun _ _ _ h => h) (Or.inl ⟨by rfl, ?_⟩) ?_ ?_
  rotate_left
  ·intro w'
   go_simp
   with_reducible rfl
  rotate_left
  ·simp only [Act.put, List.setIfInBounds_toArray, List.set_cons_zero, List.set_cons_succ, i64_w, i32_w]
   rfl
  refine pure_ (i := 1) (N := some 28) (v := ?_) (a' := ?_) #[true, true, false, false, false, false, false, false] rfl rfl (any_of HT_.out (by kernel_rfl)) (fun _ _ _ h => h) (Or.inl ⟨by rfl, ?_⟩) ?_ ?_
  rotate_left
  ·intro w'
   go_simp
   with_reducible rfl
  rotate_left
  ·simp only [Act.put, List.setIfInBounds_toArray, List.set_cons_zero, List.set_cons_succ, i64_w, i32_w]
   rfl
  refine pure_ (i := 2) (N := some 29) (v := ?_) (a' := ?_) #[true, true, true, false, false, false, false, false] rfl rfl (any_of HT_.out (by kernel_rfl)) (fun _ _ _ h => h) (Or.inl ⟨by rfl, ?_⟩) ?_ ?_
  rotate_left
  ·intro w'
   go_simp
   with_reducible rfl
  rotate_left
  ·simp only [Act.put, List.setIfInBounds_toArray, List.set_cons_zero, List.set_cons_succ, i64_w, i32_w]
   rfl
  refine pure_ (i := 6) (N := some 9) (v := ?_) (a' := ?_) #[true, true, true, false, false, false, true, false] rfl rfl (any_of HT_.out (by kernel_rfl)) (fun _ _ _ h => h) (Or.inl ⟨by rfl, ?_⟩) ?_ ?_
  rotate_left
  ·intro w'
   go_simp
   with_reducible rfl
  rotate_left
  ·simp only [Act.put, List.setIfInBounds_toArray, List.set_cons_zero, List.set_cons_succ, i64_w, i32_w]
   rfl
  refine take_ (i := 3) (N := some 30) (v := ?_) (a' := ?_) #[true, true, true, true, false, false, true, false] rfl rfl (take_ofW HT_.out HW_.out (by kernel_rfl)) (fun _ _ _ h => h) (Or.inl ⟨by rfl, ?_⟩) hHeld ?_ ?_
  rotate_left
  ·intro w' s0
   go_simp
   with_reducible rfl
  rotate_left
  ·simp only [Act.put, List.setIfInBounds_toArray, List.set_cons_zero, List.set_cons_succ, i64_w, i32_w]
   rfl
  refine pure_ (i := 4) (N := some 31) (v := ?_) (a' := ?_) #[true, true, true, true, true, false, true, false] rfl rfl (any_of HT_.out (by kernel_rfl)) (fun _ _ _ h => h) (Or.inl ⟨by rfl, ?_⟩) ?_ ?_
  rotate_left
  ·intro w'
   go_simp
   with_reducible rfl
  rotate_left
  ·simp only [Act.put, List.setIfInBounds_toArray, List.set_cons_zero, List.set_cons_succ, i64_w, i32_w]
   rfl
  refine pure_ (i := 5) (N := some 32) (v := ?_) (a' := ?_) #[true, true, true, true, true, true, true, false] rfl rfl (any_of HT_.out (by kernel_rfl)) (fun _ _ _ h => h) (Or.inl ⟨by rfl, ?_⟩) ?_ ?_
  rotate_left
  ·intro w'
   go_simp
   with_reducible rfl
  rotate_left
  ·simp only [Act.put, List.setIfInBounds_toArray, List.set_cons_zero, List.set_cons_succ, i64_w, i32_w]
   rfl
  refine pure_ (i := 7) (N := some 10) (v := ?_) (a' := ?_) #[true, true, true, true, true, true, true, true] rfl rfl (any_of HT_.out (by kernel_rfl)) (fun _ _ _ h => h) (Or.inl ⟨by rfl, ?_⟩) ?_ ?_
  rotate_left
  ·intro w'
   go_simp
   with_reducible rfl
  rotate_left
  ·simp only [Act.put, List.setIfInBounds_toArray, List.set_cons_zero, List.set_cons_succ, i64_w, i32_w]
   rfl
  refine done_ (done_of HT_.out (by kernel_rfl)) ?_
  go_upto_region 6 with (fail)
  go_cut [44] (fun v44 wc => ∃ (kq : Nat) (x44_7 : Bool), v44 = .bool x44_7 ∧ Aside0 (poly_Into.j0 kq a0 t250 ([] : List Int) x44_7 t253 = some (r1, r2)) ∧ Aside0 (kq ≤ k) ∧ Aside0 (Kd.V (Kd.int .u64) 34 wc w.heap.size (fun k_ => ((P1_ k_ ∨ P2_ k_) ∨ w.heap.size ≤ k_) ∧ some k_ ≠ ((.slice none 0 0) : Value).ownBlock ∧ k_ ≠ gb245) (.slice Ao22 t250.length co22) t250) ∧ Aside0 (Kd.R (Kd.int .u64) 34 wc w.heap.size (fun k_ => (w.heap.size ≤ k_)) (.slice none 0 0) ([] : List Int)) ∧ Aside0 (Kd.V (Kd.int .u64) 34 wc w.heap.size (fun k_ => ((P1_ k_ ∨ P2_ k_) ∨ w.heap.size ≤ k_) ∧ some k_ ≠ ((.slice none 0 0) : Value).ownBlock ∧ k_ ≠ gb245) (.slice Ao18 t253.length co18) t253) ∧ Aside0 (wc.heap[gb245]? = some (.cells #[(.slice Ao18 t253.length co18)] 22 (0, 0))) ∧ Aside0 (Below w.heap.size w wc))
  case first =>
   have H := HC8.out
   clear HC8
   by_cases c23 : (wrap64 ((t250.length : Int) - 1)) ≥ 1
   ·rw [if_pos c23] at H
    have c23b0 : decide (1 ≤ (wrap64 ((t250.length : Int) - 1))) = true := decide_eq_true c23
    clear c23
    (first | rw [c23b0] | (simp only [i64_w, i32_w]; first | rw [c23b0]) | skip)
    by_cases c24 : (wrap64 ((t253.length : Int) - 1)) ≥ 1
    ·rw [if_pos c24] at H
     have c24b0 : decide (1 ≤ (wrap64 ((t253.length : Int) - 1))) = true := decide_eq_true c24
     clear c24
     have H' := Aside0.mk H
     clear H
     go_wp2
     go_meet
     case rel => exact ⟨_, (decide ((wrap64 ((wrap64 ((t250.length : Int) - 1)) * (wrap64 ((t253.length : Int) - 1)))) ≥ 4096)), (fs_), H', ⟨fo_⟩, ⟨by (with_reducible repeat (first | apply Kd.V_alloc | apply Kd.V_drewN | apply Kd.V_drew)); exact Kd.V_mono HO252.out (fun _ hk => ⟨hk.1, ⟨(by simp [Value.ownBlock]), hk.2.2⟩⟩)⟩, ⟨by first | exact Kd.R_nil _ _ _ _ _ | exact Kd.N_nil _ _ _ _ _ | exact Kd.V_nil _ _ _ _ _ | exact Kd.Q_nil _ _ _ _ _ | exact Kd.S_nil _ _ _ _ _⟩, ⟨by (with_reducible repeat (first | apply Kd.V_alloc | apply Kd.V_drewN | apply Kd.V_drew)); exact Kd.V_mono HO255.out (fun _ hk => ⟨hk.1, ⟨(by simp [Value.ownBlock]), hk.2.2⟩⟩)⟩, ⟨mb_ BK245.out⟩, ⟨hs_⟩⟩
    ·rw [if_neg c24] at H
     have c24b0 : decide (1 ≤ (wrap64 ((t253.length : Int) - 1))) = false := decide_eq_false c24
     clear c24
     have H' := Aside0.mk H
     clear H
     go_wp2
     go_meet
     case rel => exact ⟨_, (false), (fs_), H', ⟨fo_⟩, ⟨by (with_reducible repeat (first | apply Kd.V_alloc | apply Kd.V_drewN | apply Kd.V_drew)); exact Kd.V_mono HO252.out (fun _ hk => ⟨hk.1, ⟨(by simp [Value.ownBlock]), hk.2.2⟩⟩)⟩, ⟨by first | exact Kd.R_nil _ _ _ _ _ | exact Kd.N_nil _ _ _ _ _ | exact Kd.V_nil _ _ _ _ _ | exact Kd.Q_nil _ _ _ _ _ | exact Kd.S_nil _ _ _ _ _⟩, ⟨by (with_reducible repeat (first | apply Kd.V_alloc | apply Kd.V_drewN | apply Kd.V_drew)); exact Kd.V_mono HO255.out (fun _ hk => ⟨hk.1, ⟨(by simp [Value.ownBlock]), hk.2.2⟩⟩)⟩, ⟨mb_ BK245.out⟩, ⟨hs_⟩⟩
   ·rw [if_neg c23] at H
    have c23b0 : decide (1 ≤ (wrap64 ((t250.length : Int) - 1))) = false := decide_eq_false c23
    clear c23
    (first | rw [c23b0] | (simp only [i64_w, i32_w]; first | rw [c23b0]) | skip)
    have H' := Aside0.mk H
    clear H
    go_wp2
    go_meet
    case rel => exact ⟨_, (false), (fs_), H', ⟨fo_⟩, ⟨by (with_reducible repeat (first | apply Kd.V_alloc | apply Kd.V_drewN | apply Kd.V_drew)); exact Kd.V_mono HO252.out (fun _ hk => ⟨hk.1, ⟨(by simp [Value.ownBlock]), hk.2.2⟩⟩)⟩, ⟨by first | exact Kd.R_nil _ _ _ _ _ | exact Kd.N_nil _ _ _ _ _ | exact Kd.V_nil _ _ _ _ _ | exact Kd.Q_nil _ _ _ _ _ | exact Kd.S_nil _ _ _ _ _⟩, ⟨by (with_reducible repeat (first | apply Kd.V_alloc | apply Kd.V_drewN | apply Kd.V_drew)); exact Kd.V_mono HO255.out (fun _ hk => ⟨hk.1, ⟨(by simp [Value.ownBlock]), hk.2.2⟩⟩)⟩, ⟨mb_ BK245.out⟩, ⟨hs_⟩⟩
  case rest =>
   clear HC8
   try clear c1
   try clear c2
   try clear p2
   try clear c3
   try clear c4
   try clear c5
   try clear c5b0
   try clear c5b1
   try clear p6
   try clear c23
   try clear c23b0
   try clear c24
   try clear c24b0
   try clear hcz10_0
   try clear hfz10_0
   obtain ⟨kq, x44_7, rfl, HA, HJ7, HO_1, HO_6, HO_246000, BK245, HB⟩ := hcut
   cases kq with
   | zero => exact absurd HA.out (by simp [poly_Into.j0])
   | succ kj7 =>
    have H := HA.out
    clear HA
    simp only [poly_Into.j0] at H
    by_cases c25 : x44_7 = true
    ·subst c25
     have H1 : (some (([] : List Int), 4)) = some (r1, r2) := by rw [if_pos rfl] at H; exact H
     clear H
     have H := H1
     clear H1
     simp only [Option.some.injEq, Prod.mk.injEq] at H
     obtain ⟨rfl, rfl⟩ := H
     go_wp2
     (try simp only [Exit.inBlock, Exit.then]); refine into_ret (results_tmp2 rfl _ _ _) rfl ?_
     exact ⟨_, fr_, by first | exact Kd.R_nil _ _ _ _ _ | exact Kd.N_nil _ _ _ _ _ | exact Kd.V_nil _ _ _ _ _ | exact Kd.Q_nil _ _ _ _ _ | exact Kd.S_nil _ _ _ _ _, hs_⟩
    ·replace c25 := Bool.eq_false_iff.mpr c25
     subst c25
     have H1 : (if into_ok a0 t250 t253 = true then (some (into_all a0 t250 t253, 0)) else (none)) = some (r1, r2) := by rw [if_neg (show ¬ (false = true) by decide)] at H; exact H
     clear H
     have H := H1
     clear H1
     by_cases c26 : into_ok a0 t250 t253 = true
     ·rw [if_pos c26] at H
      have c26b0 : into_ok a0 t250 t253 = true := c26
      clear c26
      simp only [Option.some.injEq, Prod.mk.injEq] at H
      obtain ⟨HS_, rfl⟩ := H
      have HS := A_ HS_
      have CF := A_ c26b0
      clear HS_ c26b0
      go_wp2_with (first | ((with_reducible refine gate_dst (N := 11) rfl ?_); refine box_event ?hg (N := 11) ?hd (cs := #[.int .u8 0]) (t := 57) ?hr ?_; (case hd => rfl); (case hg => rfl); (case hr => first | (go_simp; done) | (go_simp; rfl)); intro gb256 hg w27 hbox hb; have n0_ := A_ (Kd.V_below (Kd.V_elderB (nV_ HO_1) gb256 (Nat.le_of_eq hg.symm)) hb); have n1_ := A_ (Kd.R_below (nR_ HO_6) hb); have n2_ := A_ (Kd.V_below (Kd.V_elderB (nV_ HO_246000) gb256 (Nat.le_of_eq hg.symm)) hb); have n3_ := A_ (blk_below (g := gb245) (o := .cells #[.slice Ao18 t253.length co18] 22 (0, 0)) (nb_ BK245) hb); have n4_ := A_ (below_step hs_ hb); have n5_ := A_ (hbox); have n6_ := A_ ((by rw [hg]; exact (below_size hs_) : w.heap.size ≤ gb256)); have n7_ := A_ ((by rw [hg]; exact (below_size hs_) : w.heap.size ≤ gb256)); have n8_ := A_ ((by rw [hg]; exact Nat.ne_of_lt (blk_lt (g := gb245) (o := .cells #[.slice Ao18 t253.length co18] 22 (0, 0)) (nb_ BK245)) : gb245 ≠ gb256)); have n9_ := A_ ((by rw [hg]; exact Nat.ne_of_gt (blk_lt (g := gb245) (o := .cells #[.slice Ao18 t253.length co18] 22 (0, 0)) (nb_ BK245)) : gb256 ≠ gb245)); clear HO_1 HO_6 HO_246000 BK245 HB; have HO_1 := n0_; have HO_6 := n1_; have HO_246000 := n2_; have BK245 := n3_; have HB := n4_; have BK256 := n5_; have GW256 := n6_; have GE256 := n7_; have NB245_256 := n8_; have NB256_245 := n9_; clear n0_ n1_ n2_ n3_ n4_ n5_ n6_ n7_ n8_ n9_; clear hb hbox hg; have hnb28 := NB256_245.out; have hnc28 := NB245_256.out; have hcz29_0 : w27.cell? ⟨gb256, 0, none⟩ = some (.int .u8 0) := (blk_cell BK256.out 0).trans rfl; have hfz29_0 := blk_frozen BK256.out 0) | ((with_reducible refine gate_dst (N := 12) rfl ?_); refine box_event ?hg (N := 12) ?hd (cs := #[.slice none 0 0]) (t := 22) ?hr ?_; (case hd => rfl); (case hg => rfl); (case hr => first | (go_simp; done) | (go_simp; rfl)); intro gb257 hg w30 hbox hb; have n0_ := A_ (Kd.V_below (Kd.V_elderB (by (with_reducible repeat (first | apply Kd.V_alloc | apply Kd.V_drewN | apply Kd.V_drew)); exact (Kd.V_mono (Kd.V_far (p := ⟨gb256, 0, none⟩) (Kd.V_mono HO_1.out (fun k_ hk => (⟨hk, hk.2⟩ : _ ∧ k_ ≠ gb256))) (fun _ hk => hk.2) (.int .u8 a0)) (fun _ h_ => h_.1))) gb257 (Nat.le_of_eq hg.symm)) hb); have n1_ := A_ (Kd.R_below (by (with_reducible repeat (first | apply Kd.R_alloc | apply Kd.R_drewN | apply Kd.R_drew)); exact (Kd.R_mono (Kd.R_far (p := ⟨gb256, 0, none⟩) (Kd.R_types HO_6.out BK256.out (by decide)) (fun _ hk => hk.2) (.int .u8 a0)) (fun _ h_ => h_.1))) hb); have n2_ := A_ (Kd.V_below (Kd.V_elderB (by (with_reducible repeat (first | apply Kd.V_alloc | apply Kd.V_drewN | apply Kd.V_drew)); exact (Kd.V_mono (Kd.V_far (p := ⟨gb256, 0, none⟩) (Kd.V_mono HO_246000.out (fun k_ hk => (⟨hk, hk.2⟩ : _ ∧ k_ ≠ gb256))) (fun _ hk => hk.2) (.int .u8 a0)) (fun _ h_ => h_.1))) gb257 (Nat.le_of_eq hg.symm)) hb); have n3_ := A_ (blk_below (g := gb245) (o := .cells #[.slice Ao18 t253.length co18] 22 (0, 0)) (by (with_reducible repeat (first | refine blk_drewN ?_ _ | refine blk_drew ?_ | refine blk_alloc ?_ _)); refine blk_far ?_ NB245_256.out _; (with_reducible repeat (first | refine blk_drewN ?_ _ | refine blk_drew ?_ | refine blk_alloc ?_ _)); exact BK245.out) hb); have n4_ := A_ (blk_below (g := gb256) (o := .cells #[.int .u8 a0] 57 (0, 0)) (by (with_reducible repeat (first | refine blk_drewN ?_ _ | refine blk_drew ?_ | refine blk_alloc ?_ _)); refine blk_put (cs := #[.int .u8 0]) ?_ 0 _ rfl; (with_reducible repeat (first | refine blk_drewN ?_ _ | refine blk_drew ?_ | refine blk_alloc ?_ _)); exact BK256.out) hb); have n5_ := A_ (below_step hs_ hb); have n6_ := A_ (hbox); have n7_ := A_ ((by rw [hg]; exact (below_size hs_) : w.heap.size ≤ gb257)); have n8_ := A_ ((by rw [hg]; exact (below_size hs_) : w.heap.size ≤ gb257)); have n9_ := A_ ((by rw [hg]; exact Nat.ne_of_lt (blk_lt (g := gb245) (o := .cells #[.slice Ao18 t253.length co18] 22 (0, 0)) (by (with_reducible repeat (first | refine blk_drewN ?_ _ | refine blk_drew ?_ | refine blk_alloc ?_ _)); refine blk_far ?_ NB245_256.out _; (with_reducible repeat (first | refine blk_drewN ?_ _ | refine blk_drew ?_ | refine blk_alloc ?_ _)); exact BK245.out)) : gb245 ≠ gb257)); have n10_ := A_ ((by rw [hg]; exact Nat.ne_of_gt (blk_lt (g := gb245) (o := .cells #[.slice Ao18 t253.length co18] 22 (0, 0)) (by (with_reducible repeat (first | refine blk_drewN ?_ _ | refine blk_drew ?_ | refine blk_alloc ?_ _)); refine blk_far ?_ NB245_256.out _; (with_reducible repeat (first | refine blk_drewN ?_ _ | refine blk_drew ?_ | refine blk_alloc ?_ _)); exact BK245.out)) : gb257 ≠ gb245)); have n11_ := A_ ((by rw [hg]; exact Nat.ne_of_lt (blk_lt (g := gb256) (o := .cells #[.int .u8 a0] 57 (0, 0)) (by (with_reducible repeat (first | refine blk_drewN ?_ _ | refine blk_drew ?_ | refine blk_alloc ?_ _)); refine blk_put (cs := #[.int .u8 0]) ?_ 0 _ rfl; (with_reducible repeat (first | refine blk_drewN ?_ _ | refine blk_drew ?_ | refine blk_alloc ?_ _)); exact BK256.out)) : gb256 ≠ gb257)); have n12_ := A_ ((by rw [hg]; exact Nat.ne_of_gt (blk_lt (g := gb256) (o := .cells #[.int .u8 a0] 57 (0, 0)) (by (with_reducible repeat (first | refine blk_drewN ?_ _ | refine blk_drew ?_ | refine blk_alloc ?_ _)); refine blk_put (cs := #[.int .u8 0]) ?_ 0 _ rfl; (with_reducible repeat (first | refine blk_drewN ?_ _ | refine blk_drew ?_ | refine blk_alloc ?_ _)); exact BK256.out)) : gb257 ≠ gb256)); clear HO_1 HO_6 HO_246000 BK245 BK256 HB; have HO_1 := n0_; have HO_6 := n1_; have HO_246000 := n2_; have BK245 := n3_; have BK256 := n4_; have HB := n5_; have BK257 := n6_; have GW257 := n7_; have GE257 := n8_; have NB245_257 := n9_; have NB257_245 := n10_; have NB256_257 := n11_; have NB257_256 := n12_; clear n0_ n1_ n2_ n3_ n4_ n5_ n6_ n7_ n8_ n9_ n10_ n11_ n12_; clear hb hbox hg))
      refine (callsIn_wide.1 (backward_in Fence.wide 3 trivial rfl Ao22 t250.length co22 _)).mono ?_
      rintro e w' ⟨rfl, rfl⟩
      go_wp2
      refine (wpIn_wide (n := 3)).1 ?_
      obtain ⟨oin, oq, lp4, lq4, hp0⟩ := into_ok_iff CF.out
      have oel := into_in_rd hp0 oin
      have hVp := Kd.V_below HO_1.out (below_alloc (Below.refl _ w30) (.cells #[.slice Ao22 t250.length co22] 22))
      have hVq := Kd.V_below HO_246000.out (below_alloc (Below.refl _ w30) (.cells #[.slice Ao22 t250.length co22] 22))
      have hBl : Below w.heap.size w (w30.alloc (.cells #[.slice Ao22 t250.length co22] 22)) := below_alloc HB.out _
      have hsl : (w30.alloc (.cells #[.slice Ao22 t250.length co22] 22)).heap.size = w30.heap.size + 1 := by simp
      have lt181 := blk_lt BK245.out
      have lt192 := blk_lt BK256.out
      have lt193 := blk_lt BK257.out
      have b181 := (Below.heap_alloc w30 (.cells #[.slice Ao22 t250.length co22] 22) gb245 lt181).trans BK245.out
      have b192 := (Below.heap_alloc w30 (.cells #[.slice Ao22 t250.length co22] 22) gb256 lt192).trans BK256.out
      have b193 := (Below.heap_alloc w30 (.cells #[.slice Ao22 t250.length co22] 22) gb257 lt193).trans BK257.out
      have bnew : (w30.alloc (.cells #[.slice Ao22 t250.length co22] 22)).cell? ⟨w30.heap.size, 0, none⟩ = some (.slice Ao22 t250.length co22) := by simp
      have hwsz : w.heap.size ≤ w30.heap.size := HB.out.size
      have hR0 : Kd.R (Kd.int .u64) 34 (w30.alloc (.cells #[.slice Ao22 t250.length co22] 22)) w.heap.size (fun k => w.heap.size ≤ k) (.slice none 0 0) [] := Kd.R_nil _ _ _ _ _
      have GE3 := GE257.out
      clear HO_1 HO_246000 BK245 BK256 BK257 HB GW257 GE257 GW256 GE256 HO_6
      generalize hWl : w30.alloc (.cells #[.slice Ao22 t250.length co22] 22) = Wl at *
      refine wpIn_rangeFunc_ownG (α := {x : Int × Int // into_in a0 x.2 = true}) rfl (by omega) (gf := 55) (lb := #[.pointer (some ⟨w30.heap.size, 0, none⟩)]) rfl trivial (enters_of Try.func55 (by kernel_rfl) rfl)
        (into_back_stops Fence.wide 2 trivial rfl (by omega) w30.heap.size Ao22 co22 t250 (into_kp Wl.heap.size gb257) (fun W => Wl.heap.size ≤ W.heap.size ∧ ∀ k, k < Wl.heap.size → k ≠ gb257 → W.heap[k]? = Wl.heap[k]?)
          (fun W hW => (Kd.V_reads' (Kd.V_step hVp (fun k hk hlt => hW.2 k hlt hk.2))).2.2)
          (fun W hW => (World.cell?_of_block (a := ⟨w30.heap.size, 0, none⟩) (hW.2 w30.heap.size (by omega) (by omega))).trans bnew)
          (fun W W' hW hk => ⟨Nat.le_trans hW.1 hk.1, fun k h1 h2 => (hk.2 k h1 h2).trans (hW.2 k h1 h2)⟩)
          (fun x : {x : Int × Int // into_in a0 x.2 = true} => #[.int .i64 x.1.1, .int .u64 x.1.2]) (fun j => ⟨(((t250.length - 1 - j : Nat) : Int), rd t250 ((t250.length - 1 - j : Nat) : Int)), oel _⟩) (fun _ _ => rfl)
          Wl (fun W hW => ⟨hW.size, fun k h1 _ => hW.block k h1⟩))
        into_kp_t (into_kp_b (Nat.le_refl _)) (Below.refl _ _) (fun _ => rfl)
        (fun pre W => into_inv w Wl gb257 (pre.foldl (fun s x => into_step a0 t253 x.1.2 s) []) W)
        (fun _ _ _ => False)
        (into_inv_own (fun pre : List {x : Int × Int // into_in a0 x.2 = true} => pre.foldl (fun s x => into_step a0 t253 x.1.2 s) []) (by omega) (by omega))
        (fun _ _ _ _ _ hs _ _ => hs)
        ⟨Nat.le_refl _, fun _ _ _ => rfl, hBl, _, b193, hR0⟩
        (fun x => { tmps := #[.int .u8 a0, .slice Ao22 t250.length co22, .slice A2 l2.length c2, undef, undef, .pointer (some ⟨gb245, 0, none⟩), .slice none 0 0, .int .i64 0, .int .i64 t249, .int .i64 (wrap64 (t250.length - 1)), .int .i64 (wrap64 (t253.length - 1)), .pointer (some ⟨gb256, 0, none⟩), .pointer (some ⟨gb257, 0, none⟩), undef, .int .u64 x.1.2, u15, u16, u17, u18, u19, u20, u21, u22, u23, u24, u25, u26, u27, u28, u29, u30, u31, u32, u33, u34, u35, u36, u37, u38, u39, u40, u41, u42, u43, .bool false, .int .u8 a0, .agg #[.int .u8 a0], .slice Ao22 t250.length co22, .func (.func 55) #[] #[.pointer (some ⟨w30.heap.size, 0, none⟩)], .int .i64 x.1.1, .int .u64 x.1.2, u51, u52, u53, u54, u55, u56, u57, u58, u59, u60, u61, u62, u63, u64, u65, u66, u67, u68, u69], defers := [] }) ?assign ?body ?done ?stop
      case assign =>
        intro l x W K hK
        gi_wp2
        exact hK
      case body =>
        rintro l pre x W hI hlen
        have hst : (pre ++ [x]).foldl (fun s x => into_step a0 t253 x.1.2 s) [] = into_step a0 t253 x.1.2 (pre.foldl (fun s x => into_step a0 t253 x.1.2 s) []) := by rw [List.foldl_append]; rfl
        have hG := into_G_fold hp0 lq4 (fun x : {x : Int × Int // into_in a0 x.2 = true} => x.1.2) pre 0 [] ⟨fun _ h => (by cases h), by simp⟩
        replace hI : into_inv w Wl gb257 (pre.foldl (fun s x => into_step a0 t253 x.1.2 s) []) W := hI
        generalize pre.foldl (fun s x => into_step a0 t253 x.1.2 s) [] = s at hI hG hst
        rw [Nat.zero_add] at hG
        generalize pre.length = m at hG hlen
        have hd : 1 ≤ 3 - 1 - 1 := by omega
        have hmx : Try.prog.follows .mixedOrders = true := by kernel_rfl
        have hxv := into_in_iff.1 x.2
        obtain ⟨v, hbox, hR⟩ := hI.box
        obtain ⟨Av, cv, rfl⟩ := Kd.R_slice hR
        have hsz0 : w.heap.size ≤ W.heap.size := hI.below.size
        have hVW := Kd.V_step hVq (fun k hk hlt => hI.keep k hlt hk.2)
        have n92 : W.heap[gb256]? = some (.cells #[.int .u8 a0] 57) := (hI.keep gb256 (by omega) NB256_257.out).trans b192
        have n81 : W.heap[gb245]? = some (.cells #[.slice Ao18 t253.length co18] 22) := (hI.keep gb245 (by omega) NB245_257.out).trans b181
        have hc3 : W.cell? ⟨gb257, 0, none⟩ = some (.slice Av s.length cv) := (blk_cell hbox 0).trans rfl
        have hf3 := blk_frozen hbox 0
        have hc2 : W.cell? ⟨gb256, 0, none⟩ = some (.int .u8 a0) := (blk_cell n92 0).trans rfl
        have hc1 : W.cell? ⟨gb245, 0, none⟩ = some (.slice Ao18 t253.length co18) := (blk_cell n81 0).trans rfl
        have hVs : Kd.V (Kd.int .u64) 34 W W.heap.size (fun k => w.heap.size ≤ k) (.slice Av s.length cv) s := Kd.R_V hR
        obtain ⟨hel, hlen1, hpos⟩ := into_row_facts hp0 hG lq4
        have tl := Go.Proofs.Ytbjanbbjjnoecaa.M.trim_le s
        have hG2 := hG.2
        have hs1 : s.length < 4398046511104 := by omega
        obtain ⟨k1, hm1⟩ := into_tot_trim s (by omega)
        obtain ⟨k2, hm2⟩ := into_tot_prod hp0 (Go.Proofs.Ytbjanbbjjnoecaa.M.trim_el hG.1) oq (by omega) (by omega)
        obtain ⟨k3, hm3⟩ := into_tot_add hp0 (a := rd (into_row a0 s t253) 0) (Go.Proofs.Ytbjanbbjjnoecaa.M.El.rd hel hpos) hxv
        have hstep := into_step_eq a0 t253 x.1.2 s
        gi_wp2
        rename_i Qq KK hKK
        have hREST : ∀ (W3 : World) (Ao : Option Addr) (co : Nat) (v51 v52 v53 v54 v55 : Value), v55 = .slice Ao (Go.Proofs.Ytbjanbbjjnoecaa.M.mulP (Go.Proofs.Ytbjanbbjjnoecaa.M.P a0) (Go.Proofs.Ytbjanbbjjnoecaa.M.trim s) t253).length co → into_rr w.heap.size gb257 W W3 → W3.heap[gb257]? = some (.cells #[.slice Ao (Go.Proofs.Ytbjanbbjjnoecaa.M.mulP (Go.Proofs.Ytbjanbbjjnoecaa.M.P a0) (Go.Proofs.Ytbjanbbjjnoecaa.M.trim s) t253).length co] 22 (0, 0)) →
            Kd.R (Kd.int .u64) 34 W3 W.heap.size (fun _ => True) (.slice Ao (Go.Proofs.Ytbjanbbjjnoecaa.M.mulP (Go.Proofs.Ytbjanbbjjnoecaa.M.P a0) (Go.Proofs.Ytbjanbbjjnoecaa.M.trim s) t253).length co) (Go.Proofs.Ytbjanbbjjnoecaa.M.mulP (Go.Proofs.Ytbjanbbjjnoecaa.M.P a0) (Go.Proofs.Ytbjanbbjjnoecaa.M.trim s) t253) →
            KK { tmps := #[.int .u8 a0, .slice Ao22 t250.length co22, .slice A2 l2.length c2, undef, undef, .pointer (some ⟨gb245, 0, none⟩), .slice none 0 0, .int .i64 0, .int .i64 t249, .int .i64 (wrap64 (t250.length - 1)), .int .i64 (wrap64 (t253.length - 1)), .pointer (some ⟨gb256, 0, none⟩), .pointer (some ⟨gb257, 0, none⟩), undef, .int .u64 x.1.2, u15, u16, u17, u18, u19, u20, u21, u22, u23, u24, u25, u26, u27, u28, u29, u30, u31, u32, u33, u34, u35, u36, u37, u38, u39, u40, u41, u42, u43, .bool false, .int .u8 a0, .agg #[.int .u8 a0], .slice Ao22 t250.length co22, .func (.func 55) #[] #[.pointer (some ⟨w30.heap.size, 0, none⟩)], .int .i64 x.1.1, .int .u64 x.1.2, v51, v52, v53, v54, v55, u56, u57, u58, u59, u60, u61, u62, u63, u64, u65, u66, u67, u68, u69], defers := [] } W3 := by
          intro W3 Ao co v51 v52 v53 v54 v55 ev rr3 hb3 hR3
          refine hKK _ _ (wpIn_seq_k fun K2 hK2 => ?_)
          have hR15 : ∀ (W4 : World) (g c : Nat) (v51 v52 v53 v54 v55 v56 v57 v58 v59 : Value), into_rr w.heap.size gb257 W W4 → W4.heap[gb257]? = some (.cells #[.slice (some ⟨g, 0, none⟩) (into_row a0 s t253).length c] 22 (0, 0)) →
              Kd.R (Kd.int .u64) 34 W4 W.heap.size (fun _ => True) (.slice (some ⟨g, 0, none⟩) (into_row a0 s t253).length c) (into_row a0 s t253) →
              K2 { tmps := #[.int .u8 a0, .slice Ao22 t250.length co22, .slice A2 l2.length c2, undef, undef, .pointer (some ⟨gb245, 0, none⟩), .slice none 0 0, .int .i64 0, .int .i64 t249, .int .i64 (wrap64 (t250.length - 1)), .int .i64 (wrap64 (t253.length - 1)), .pointer (some ⟨gb256, 0, none⟩), .pointer (some ⟨gb257, 0, none⟩), undef, .int .u64 x.1.2, u15, u16, u17, u18, u19, u20, u21, u22, u23, u24, u25, u26, u27, u28, u29, u30, u31, u32, u33, u34, u35, u36, u37, u38, u39, u40, u41, u42, u43, .bool false, .int .u8 a0, .agg #[.int .u8 a0], .slice Ao22 t250.length co22, .func (.func 55) #[] #[.pointer (some ⟨w30.heap.size, 0, none⟩)], .int .i64 x.1.1, .int .u64 x.1.2, v51, v52, v53, v54, v55, v56, v57, v58, v59, u60, u61, u62, u63, u64, u65, u66, u67, u68, u69], defers := [] } W4 := by
            intro W4 g c v51 v52 v53 v54 v55 v56 v57 v58 v59 rr4 hb4 hR4
            refine hK2 _ _ ?_
            have l193 := blk_lt hbox
            have hgW : W.heap.size ≤ g := Kd.R_base hR4 g (by simp [Value.ownBlock])
            have hne : gb257 ≠ g := by omega
            obtain ⟨hcg0, hfg0⟩ := Kd.R_celln 0 hR4 0 (by omega) (by omega)
            have hcg : W4.cell? ⟨g, 0, none⟩ = some (.int .u64 (rd (into_row a0 s t253) 0)) := hcg0
            have hfg : W4.frozen? ⟨g, 0, none⟩ = false := hfg0
            have n92' : W4.heap[gb256]? = some (.cells #[.int .u8 a0] 57) := (rr4.2 gb256 (blk_lt n92) NB256_257.out).trans n92
            have c4 : W4.cell? ⟨gb257, 0, none⟩ = some (.slice (some ⟨g, 0, none⟩) (into_row a0 s t253).length c) := (blk_cell hb4 0).trans rfl
            have f4 := blk_frozen hb4 0
            have c92 : W4.cell? ⟨gb256, 0, none⟩ = some (.int .u8 a0) := (blk_cell n92' 0).trans rfl
            have fin : ∀ (act : Act) (w2 : World), Below W4.drew.heap.size W4.drew w2 → Qq .normal act (w2.setCell ⟨g, 0, none⟩ (.int .u64 ((rd (into_row a0 s t253) 0 + x.1.2) % Go.Proofs.Ytbjanbbjjnoecaa.M.P a0))) := by
              intro act w2 hb2
              have rr5 := into_rr_set (into_rr_below (into_rr_drew rr4) hsz0 hb2) (.inr hgW) (Nat.le_trans hsz0 hgW) 0 (.int .u64 ((rd (into_row a0 s t253) 0 + x.1.2) % Go.Proofs.Ytbjanbbjjnoecaa.M.P a0))
              have hb5 : (w2.setCell ⟨g, 0, none⟩ (.int .u64 ((rd (into_row a0 s t253) 0 + x.1.2) % Go.Proofs.Ytbjanbbjjnoecaa.M.P a0))).heap[gb257]? = some (.cells #[.slice (some ⟨g, 0, none⟩) (into_row a0 s t253).length c] 22 (0, 0)) := (Below.heap_setCell w2 ⟨g, 0, none⟩ _ gb257 hne).trans ((hb2.block gb257 (blk_lt hb4)).trans hb4)
              have hR5 : Kd.R (Kd.int .u64) 34 (w2.setCell ⟨g, 0, none⟩ (.int .u64 ((rd (into_row a0 s t253) 0 + x.1.2) % Go.Proofs.Ytbjanbbjjnoecaa.M.P a0))) W.heap.size (fun _ => True) (.slice (some ⟨g, 0, none⟩) (into_row a0 s t253).length c) (into_step a0 t253 x.1.2 s) := by
                rw [hstep]; exact Kd.R_putn (Kd.R_below (Kd.R_drew hR4) hb2) 0 ((rd (into_row a0 s t253) 0 + x.1.2) % Go.Proofs.Ytbjanbbjjnoecaa.M.P a0)
              have E := into_end hI (by omega) rr5 hb5 (Kd.R_lower (Kd.R_reok rfl hR5 (fun k hk => Nat.le_trans hsz0 (Kd.R_base hR5 k hk))) hsz0)
              refine ⟨E.1, E.2.1, ?_⟩
              show into_inv w Wl gb257 ((pre ++ [x]).foldl (fun s x => into_step a0 t253 x.1.2 s) []) _
              rw [hst]
              exact E.2.2
            clear hI hG hst hR hbox hVW n92 n81 n92' hc1 hc2 hc3 hf3 hVs hm1 hm2 hKK rr3 hb3 hR3 rr4 hb4 hR4 hVp hVq hBl hsl b181 b192 b193 bnew hR0 CF HS hel hlen hlen1 tl hG2 hs1 hstep oin oel oq lp4 lq4 hcg0 hfg0 ev
            clear hK2 NB245_256 NB256_245 NB245_257 NB257_245 NB256_257 NB257_256 GE3
            gi_region_with_o (first | (refine ⟨trivial, ?_⟩; gi_at_call 38; refine (CallsIn.inRound l (callsIn_wide.2 (poly_reckoner_add.calls k3 a0 (rd (into_row a0 s t253) 0) x.1.2 _ _ hm3))).mono ?_; rintro e w2 ⟨rfl, hb2⟩; have hcg' := pw_cell_below hb2 hcg; have hfg' := (World.frozen?_of_block (a := ⟨g, 0, none⟩) (hb2.block g (World.block_lt_of_cell? _ _ hcg))).trans hfg; have c4' := pw_cell_below hb2 c4))
            all_goals gi_wp2
            all_goals exact fin _ _ hb2
          have c3' : W3.cell? ⟨gb257, 0, none⟩ = some (.slice Ao (Go.Proofs.Ytbjanbbjjnoecaa.M.mulP (Go.Proofs.Ytbjanbbjjnoecaa.M.P a0) (Go.Proofs.Ytbjanbbjjnoecaa.M.trim s) t253).length co) := (blk_cell hb3 0).trans rfl
          have f3' := blk_frozen hb3 0
          by_cases ho : (Go.Proofs.Ytbjanbbjjnoecaa.M.mulP (Go.Proofs.Ytbjanbbjjnoecaa.M.P a0) (Go.Proofs.Ytbjanbbjjnoecaa.M.trim s) t253) = []
          · have e0 : (((Go.Proofs.Ytbjanbbjjnoecaa.M.mulP (Go.Proofs.Ytbjanbbjjnoecaa.M.P a0) (Go.Proofs.Ytbjanbbjjnoecaa.M.trim s) t253).length : Int) == 0) = true := by simp [ho]
            have er := into_row_nil ho
            have el : (into_row a0 s t253).length = 1 := by rw [er]; rfl
            have rr4 := into_rr_set (into_rr_below rr3 hsz0 (below_alloc (Below.refl _ W3) (.cells #[.int .u64 0] 34))) (.inl rfl) GE3 0 (.slice (some ⟨W3.heap.size, 0, none⟩) 1 1)
            have hba : (W3.alloc (.cells #[.int .u64 0] 34)).heap[gb257]? = some (.cells #[.slice Ao (Go.Proofs.Ytbjanbbjjnoecaa.M.mulP (Go.Proofs.Ytbjanbbjjnoecaa.M.P a0) (Go.Proofs.Ytbjanbbjjnoecaa.M.trim s) t253).length co] 22 (0, 0)) := (Below.heap_alloc W3 _ gb257 (blk_lt hb3)).trans hb3
            have hb4 : ((W3.alloc (.cells #[.int .u64 0] 34)).setCell ⟨gb257, 0, none⟩ (.slice (some ⟨W3.heap.size, 0, none⟩) 1 1)).heap[gb257]? = some (.cells #[.slice (some ⟨W3.heap.size, 0, none⟩) (into_row a0 s t253).length 1] 22 (0, 0)) := by
              rw [el]; exact blk_put hba 0 _ rfl
            have hR4 : Kd.R (Kd.int .u64) 34 ((W3.alloc (.cells #[.int .u64 0] 34)).setCell ⟨gb257, 0, none⟩ (.slice (some ⟨W3.heap.size, 0, none⟩) 1 1)) W.heap.size (fun _ => True) (.slice (some ⟨W3.heap.size, 0, none⟩) (into_row a0 s t253).length 1) (into_row a0 s t253) := by
              rw [er]
              exact Kd.R_lower (Kd.R_mono (Kd.R_far (p := ⟨gb257, 0, none⟩) (Kd.R_types (into_lit W3) hba (by decide)) (fun _ hk => hk.2) _) (fun _ _ => trivial)) rr3.1.size
            have c3a : (W3.alloc (.cells #[.int .u64 0] 34)).cell? ⟨gb257, 0, none⟩ = some (.slice Ao (Go.Proofs.Ytbjanbbjjnoecaa.M.mulP (Go.Proofs.Ytbjanbbjjnoecaa.M.P a0) (Go.Proofs.Ytbjanbbjjnoecaa.M.trim s) t253).length co) := (blk_cell hba 0).trans rfl
            have f3a := blk_frozen hba 0
            subst ev
            gi_wp2
            exact hR15 _ W3.heap.size 1 _ _ _ _ _ _ _ _ _ rr4 hb4 hR4
          · have hpo : 0 < (Go.Proofs.Ytbjanbbjjnoecaa.M.mulP (Go.Proofs.Ytbjanbbjjnoecaa.M.P a0) (Go.Proofs.Ytbjanbbjjnoecaa.M.trim s) t253).length := List.length_pos_iff.2 ho
            have e0 : (((Go.Proofs.Ytbjanbbjjnoecaa.M.mulP (Go.Proofs.Ytbjanbbjjnoecaa.M.P a0) (Go.Proofs.Ytbjanbbjjnoecaa.M.trim s) t253).length : Int) == 0) = false := beq_eq_false_iff_ne.mpr (by omega)
            have er := into_row_cons ho
            obtain ⟨g, c, eg, _, _, _⟩ := Kd.R_form hR3 hpo
            injection eg with eg1 _ eg3
            subst eg1
            subst eg3
            subst ev
            gi_wp2
            exact hR15 _ g co _ _ _ _ _ _ _ _ _ rr3 (by rw [er]; exact hb3) (by rw [er]; exact hR3)
        have fin12 : ∀ (w1 w2 : World) (A2' : Option Addr) (c2' : Nat), Below W.drew.heap.size W.drew w1 → Below w1.heap.size w1 w2 → Kd.R (Kd.int .u64) 34 w2 w1.heap.size (fun _ => True) (.slice A2' (Go.Proofs.Ytbjanbbjjnoecaa.M.mulP (Go.Proofs.Ytbjanbbjjnoecaa.M.P a0) (Go.Proofs.Ytbjanbbjjnoecaa.M.trim s) t253).length c2') (Go.Proofs.Ytbjanbbjjnoecaa.M.mulP (Go.Proofs.Ytbjanbbjjnoecaa.M.P a0) (Go.Proofs.Ytbjanbbjjnoecaa.M.trim s) t253) →
            into_rr w.heap.size gb257 W (w2.setCell ⟨gb257, 0, none⟩ (.slice A2' (Go.Proofs.Ytbjanbbjjnoecaa.M.mulP (Go.Proofs.Ytbjanbbjjnoecaa.M.P a0) (Go.Proofs.Ytbjanbbjjnoecaa.M.trim s) t253).length c2')) ∧ (w2.setCell ⟨gb257, 0, none⟩ (.slice A2' (Go.Proofs.Ytbjanbbjjnoecaa.M.mulP (Go.Proofs.Ytbjanbbjjnoecaa.M.P a0) (Go.Proofs.Ytbjanbbjjnoecaa.M.trim s) t253).length c2')).heap[gb257]? = some (.cells #[.slice A2' (Go.Proofs.Ytbjanbbjjnoecaa.M.mulP (Go.Proofs.Ytbjanbbjjnoecaa.M.P a0) (Go.Proofs.Ytbjanbbjjnoecaa.M.trim s) t253).length c2'] 22 (0, 0)) ∧
              Kd.R (Kd.int .u64) 34 (w2.setCell ⟨gb257, 0, none⟩ (.slice A2' (Go.Proofs.Ytbjanbbjjnoecaa.M.mulP (Go.Proofs.Ytbjanbbjjnoecaa.M.P a0) (Go.Proofs.Ytbjanbbjjnoecaa.M.trim s) t253).length c2')) W.heap.size (fun _ => True) (.slice A2' (Go.Proofs.Ytbjanbbjjnoecaa.M.mulP (Go.Proofs.Ytbjanbbjjnoecaa.M.P a0) (Go.Proofs.Ytbjanbbjjnoecaa.M.trim s) t253).length c2') (Go.Proofs.Ytbjanbbjjnoecaa.M.mulP (Go.Proofs.Ytbjanbbjjnoecaa.M.P a0) (Go.Proofs.Ytbjanbbjjnoecaa.M.trim s) t253) := by
          intro w1 w2 A2' c2' hb1 hb2 hR2
          have hx1 : w1.heap[gb257]? = some (.cells #[.slice Av s.length cv] 22 (0, 0)) := (hb1.block gb257 (blk_lt hbox)).trans hbox
          have hx2 : w2.heap[gb257]? = some (.cells #[.slice Av s.length cv] 22 (0, 0)) := (hb2.block gb257 (blk_lt hx1)).trans hx1
          exact ⟨into_rr_set (into_rr_below (into_rr_below (into_rr_drew (into_rr_refl w.heap.size gb257 W)) hsz0 hb1) hsz0 hb2) (.inl rfl) GE3 0 _, blk_put hx2 0 _ rfl,
            Kd.R_lower (Kd.R_mono (Kd.R_far (p := ⟨gb257, 0, none⟩) (Kd.R_types hR2 hx2 (by decide)) (fun _ hk => hk.2) _) (fun _ _ => trivial)) hb1.size⟩
        clear hKK hI hG hst hR hbox n92 n81 hel hlen hlen1 hpos tl hG2 hs1 hstep oin oel oq lp4 lq4 hxv hm3 hVp hVq hBl hsl b181 b192 b193 bnew hR0 CF HS NB245_256 NB256_245 NB245_257 NB257_245 NB256_257 NB257_256 GE3 hsz0
        gi_region_with_o (first | (refine ⟨trivial, ?_⟩; gi_at_call 36; refine (CallsIn.inRound l (callsIn_wide.2 (poly_trimmed.calls k1 (fun k => w.heap.size ≤ k) Av cv s _ _ (Kd.V_drew hVs) hm1))).mono ?_; rintro e w1 ⟨v1, rfl, hV1, hb1⟩; obtain ⟨A1', c1', rfl⟩ := Kd.V_slice hV1; have hV1' := Kd.V_reads' hV1; have hq1 := Kd.V_reads' (Kd.V_below (Kd.V_drew hVW) hb1); have hc3' := pw_cell_below hb1 hc3; have hf3' := (World.frozen?_of_block (a := ⟨gb257, 0, none⟩) (hb1.block gb257 (World.block_lt_of_cell? _ _ hc3))).trans hf3; have hc2' := pw_cell_below hb1 hc2; have hc1' := pw_cell_below hb1 hc1) | (refine ⟨trivial, ?_⟩; gi_at_call 43; refine (CallsIn.inRound l (callsIn_wide.2 (poly_reckoner_product.calls k2 a0 A1' c1' (Go.Proofs.Ytbjanbbjjnoecaa.M.trim s) Ao18 co18 t253 _ _ hV1'.2.2 hV1'.2.1 hq1.2.2 hq1.2.1 hm2))).mono ?_; rintro e w2 ⟨v2, rfl, hR2, hb2⟩; obtain ⟨A2', c2', rfl⟩ := Kd.R_slice hR2; have hc3'' := pw_cell_below hb2 hc3'; have hf3'' := (World.frozen?_of_block (a := ⟨gb257, 0, none⟩) (hb2.block gb257 (World.block_lt_of_cell? _ _ hc3'))).trans hf3'))
        all_goals gi_wp2
        all_goals (obtain ⟨q1, q2, q3⟩ := fin12 _ _ _ _ hb1 hb2 hR2; exact hREST _ A2' c2' _ _ _ _ _ rfl q1 q2 q3)
      case done =>
        rintro D ys W hD rfl hI hK
        replace hI : into_inv w Wl gb257 ((upto (fun j => (⟨(((t250.length - 1 - j : Nat) : Int), rd t250 ((t250.length - 1 - j : Nat) : Int)), oel _⟩ : {x : Int × Int // into_in a0 x.2 = true})) t250.length).foldl (fun s x => into_step a0 t253 x.1.2 s) []) W := hI
        have hG := into_G_fold hp0 lq4 (fun x : {x : Int × Int // into_in a0 x.2 = true} => x.1.2) (upto (fun j => (⟨(((t250.length - 1 - j : Nat) : Int), rd t250 ((t250.length - 1 - j : Nat) : Int)), oel _⟩ : {x : Int × Int // into_in a0 x.2 = true})) t250.length) 0 [] ⟨fun _ h => (by cases h), by simp⟩
        rw [into_fold t253 t250 _ (fun _ _ => rfl)] at hI hG
        rw [upto_length, Nat.zero_add] at hG
        have hr1 : Go.Proofs.Ytbjanbbjjnoecaa.M.trim (t250.foldr (into_step a0 t253) []) = r1 := HS.out
        generalize t250.foldr (into_step a0 t253) [] = s at hI hG hr1
        obtain ⟨v, hbox, hR⟩ := hI.box
        obtain ⟨Av, cv, rfl⟩ := Kd.R_slice hR
        have hG2 := hG.2
        obtain ⟨k1, hm1⟩ := into_tot_own s (by omega)
        rw [hr1] at hm1
        have hc3 : W.cell? ⟨gb257, 0, none⟩ = some (.slice Av s.length cv) := (blk_cell hbox 0).trans rfl
        have hDW := blk_lt hK
        have hne := into_R_ne hR hK
        go_wp2_with (first | ((with_reducible refine gate_callee (f := 36) rfl ?_); refine goesM_ (some 69) Try.func36 #[.slice Av s.length cv] ?_; (with_reducible refine (poly_trimmed_own.calls k1 (fun k => some k = (Value.slice Av s.length cv).ownBlock) (.slice Av s.length cv) s r1 w W hI.below (Kd.R_tight rfl hR) hm1).mono ?_); rintro e w1 ⟨v1, rfl, hR1, hb1, hk1⟩; refine ⟨_, rfl, ?_⟩))
        have hK1 : w1.heap[D]? = some (.deferred (some [])) := (hk1.2 D hDW (fun e => hne e)).trans hK
        have hR2 : Kd.R (Kd.int .u64) 34 w1 w.heap.size (fun k => w.heap.size ≤ k) v1 r1 := Kd.R_reok rfl hR1 (fun k hk => Kd.R_base hR1 k hk)
        have hwD : w.heap.size ≤ D := Nat.le_trans hBl.size hD
        show LeavesInM Fence.wide 3 Try.prog Try.f26 _ _ _ .returning _
        refine ⟨by simp, .inl ⟨D, _, rfl, run_takeDeferred hK1, ?_⟩⟩
        exact ⟨_, results_tmp2 rfl _ _ _, v1, rfl, into_R_put hR2 hK1 _, hb1.trans ((Below.refl _ w1).grown (grownBy_putObj' w1 D _) hb1.size (fun k e => by cases e; exact hwD))⟩
      case stop =>
        rintro D c pre W _ _ h _
        exact h.elim
     ·rw [if_neg c26] at H
      exact absurd H (by simp)
 ·rw [if_neg c5] at H
  have c5b0 : (t249 == 0) = false := beq_eq_false_iff_ne.mpr c5
  have c5b1 : (t249 != 0) = true := bne_iff_ne.mpr c5
  simp only [Option.some.injEq, Prod.mk.injEq] at H
  obtain ⟨rfl, rfl⟩ := H
  let hBP_ := bodyPost Try.prog Try.f26 (fun (_ : Ending) (_ : World) => True); refine into_enter Try.func26 rfl ?_; simp only [Try.ntmps26, List.size_toArray, List.length_cons, List.length_nil, Nat.reduceAdd, Nat.reduceSub, Array.replicate_succ, Array.replicate_zero, List.push_toArray, List.append_toArray, List.nil_append, List.cons_append]
  go_wp2_with (first | ((with_reducible refine gate_dst (N := 5) rfl ?_); refine box_event ?hg (N := 5) ?hd (cs := #[.slice A2 l2.length c2]) (t := 22) ?hr ?_; (case hd => rfl); (case hg => rfl); (case hr => first | (go_simp; done) | (go_simp; rfl)); intro gb245 hg w31 hbox hb; have n0_ := A_ (Kd.V_below (Kd.V_elderB (nV_ HO1) gb245 (Nat.le_of_eq hg.symm)) hb); have n1_ := A_ (Kd.V_below (Kd.V_elderB (nV_ HO2) gb245 (Nat.le_of_eq hg.symm)) hb); have n2_ := A_ (below_step hb_ hb); have n3_ := A_ (hbox); have n4_ := A_ ((by rw [hg]; exact (below_size hb_) : w.heap.size ≤ gb245)); have n5_ := A_ ((by rw [hg]; exact (below_size hb_) : w.heap.size ≤ gb245)); clear HO1 HO2 HB; have HO1 := n0_; have HO2 := n1_; have HB := n2_; have BK245 := n3_; have GW245 := n4_; have GE245 := n5_; clear n0_ n1_ n2_ n3_ n4_ n5_; clear hb hbox hg; have hcz32_0 : w31.cell? ⟨gb245, 0, none⟩ = some (.slice A2 l2.length c2) := (blk_cell BK245.out 0).trans rfl; have hfz32_0 := blk_frozen BK245.out 0) | ((with_reducible refine gate_dst (N := 18) rfl ?_); refine Kd.N_lit (Kd.slice 34 (Kd.int .u64)) _ 22 ?hg (N' := 18) ?hd (xs := ([l1, l2] : List (List Int))) (inner := [.slice A1 l1.length c1, .slice A2 l2.length c2]) (ok := (fun k_ => ((P1_ k_ ∨ P2_ k_) ∨ w.heap.size ≤ k_) ∧ k_ ≠ gb245)) (okp := (fun k_ => ((P1_ k_ ∨ P2_ k_) ∨ w.heap.size ≤ k_) ∧ k_ ≠ gb245)) ?hr ?hp (fun _ hk => hk) ((show ∀ k_, w31.heap.size ≤ k_ → (fun k_ => ((P1_ k_ ∨ P2_ k_) ∨ w.heap.size ≤ k_) ∧ k_ ≠ gb245) k_ from fun k_ hk => ⟨(.inr (Nat.le_trans (below_size hs_) hk)), Kd.freshB (g := gb245) (o := .cells #[.slice A2 l2.length c2] 22 (0, 0)) (nb_ BK245) k_ hk⟩) _ (Nat.le_refl _)) (Below.refl _ _) (Nat.le_refl _) (by simp) ?_; (case hd => rfl); (case hg => rfl); (case hr => first | (go_simp; done) | (go_simp; rfl)); (case hp => exact (Reps.one (show Kd.FK (Kd.slice 34 (Kd.int .u64)) _ _ l1 [.slice A1 l1.length c1] from (Kd.FK_slice_mk (Kd.V_reads' (Kd.V_mono (ok' := (fun k_ => ((P1_ k_ ∨ P2_ k_) ∨ w.heap.size ≤ k_) ∧ k_ ≠ gb245)) (HO1.out) (fun k_ hk => ⟨hk.1, hk.2⟩))).2.1 (Kd.V_F (Kd.V_mono (ok' := (fun k_ => ((P1_ k_ ∨ P2_ k_) ∨ w.heap.size ≤ k_) ∧ k_ ≠ gb245)) (HO1.out) (fun k_ hk => ⟨hk.1, hk.2⟩))))) (Reps.one (show Kd.FK (Kd.slice 34 (Kd.int .u64)) _ _ l2 [.slice A2 l2.length c2] from (Kd.FK_slice_mk (Kd.V_reads' (Kd.V_mono (ok' := (fun k_ => ((P1_ k_ ∨ P2_ k_) ∨ w.heap.size ≤ k_) ∧ k_ ≠ gb245)) (HO2.out) (fun k_ hk => ⟨hk.1, hk.2⟩))).2.1 (Kd.V_F (Kd.V_mono (ok' := (fun k_ => ((P1_ k_ ∨ P2_ k_) ∨ w.heap.size ≤ k_) ∧ k_ ≠ gb245)) (HO2.out) (fun k_ hk => ⟨hk.1, hk.2⟩))))) (Reps.none _ _)))); intro v247 w33 ho34 hb hg_ hnew_; clear hg_ hnew_; (first | rw [← Ny246.out] at ho34 | (simp only [Int.reduceToNat] at ho34; rw [← Ny246.out] at ho34)); have n0_ := A_ (Kd.V_elder' (nV_ HO1) (Kd.N_base ho34) hb); have n1_ := A_ (Kd.V_elder' (nV_ HO2) (Kd.N_base ho34) hb); have n2_ := A_ (Kd.N_lower ho34 (below_size hs_)); have n3_ := A_ (blk_below (g := gb245) (o := .cells #[.slice A2 l2.length c2] 22 (0, 0)) (nb_ BK245) hb); have n4_ := A_ (below_step hs_ hb); clear HO1 HO2 BK245 HB; have HO1 := n0_; have HO2 := n1_; have HO248 := n2_; have BK245 := n3_; have HB := n4_; clear n0_ n1_ n2_ n3_ n4_; clear hb ho34; obtain ⟨Ao35, co35, eo35⟩ := Kd.N_slice HO248.out; subst eo35) | ((with_reducible refine gate_callee (f := 42) rfl ?_); refine goesM_ (some 19) Try.func42 #[.int .u8 a0, .slice Ao35 y246.length co35] ?_; (with_reducible refine (poly_may.calls k a0 _ _ y246 t249 _ ?side1 ?side2 A4.out).mono ?_); (case side1 => repeat (first | exact (Kd.N_reads' HO248.out).2.2 | (with_reducible refine Kd.C_alloc ?_ _) | (with_reducible refine Kd.C_drewN ?_ _) | (with_reducible refine Kd.C_drew ?_))); (case side2 => exact (Kd.N_reads' HO248.out).2.1); rintro e w36 ⟨rfl, hb⟩; refine ⟨_, rfl, ?_⟩; have n0_ := A_ (Kd.V_below (nV_ HO1) hb); have n1_ := A_ (Kd.V_below (nV_ HO2) hb); have n2_ := A_ (Kd.N_below (nN_ HO248) hb); have n3_ := A_ (blk_below (g := gb245) (o := .cells #[.slice A2 l2.length c2] 22 (0, 0)) (nb_ BK245) hb); have n4_ := A_ (below_step hs_ hb); clear HO1 HO2 HO248 BK245 HB; have HO1 := n0_; have HO2 := n1_; have HO248 := n2_; have BK245 := n3_; have HB := n4_; clear n0_ n1_ n2_ n3_ n4_; (try clear hb)))
  (try simp only [Exit.inBlock, Exit.then]); refine into_ret (results_tmp2 rfl _ _ _) rfl ?_
  exact ⟨_, fr_, by first | exact Kd.R_nil _ _ _ _ _ | exact Kd.N_nil _ _ _ _ _ | exact Kd.V_nil _ _ _ _ _ | exact Kd.Q_nil _ _ _ _ _ | exact Kd.S_nil _ _ _ _ _, hs_⟩
end
end Go.Proofs.Ytbjanbbjjnoecaa.PPolyGoes
