/- The Go functions as Lean functions, each with the proof that its call comes to just that; written by a program of this session, by the words of the print. -/
import Derived.Test.YtkaongcpekhbdaaPTreeFreshx0
import Derived.Test.YtkaongcpekhbdaaPTreeFreshx1
import Derived.Test.YtkaongcpekhbdaaPTreeFreshx2
import Derived.Test.YtkaongcpekhbdaaPTreeFreshx3
import Derived.Test.YtkaongcpekhbdaaPTreeFreshx5
import Derived.Test.YtkaongcpekhbdaaPTreeFreshx9
import Derived.Test.YtkaongcpekhbdaaPTreeFreshx10
import Derived.RangeFuncNested
import Derived.RangeFuncBound
import Derived.RangeFuncCalls
import Derived.RangeFuncLeaves
import Derived.Shelf.Abstract
import Derived.Shelf.RegionOpen
import Derived.OwnWalkIn
import Derived.TacticsInMore
import Derived.LoopNIn
import Derived.LoopIn
import Derived.Test.YtkaongcpekhbdaaMTreeFresh
namespace Go.Proofs.Ytkaongcpekhbdaa.PTreeFresh
open Go.RowKit Go.Proofs.YtkaongcpekhbdaaW.PrintWords Go.Proofs.YtkaongcpekhbdaaW.PrintLast Go.Proofs.YtkaongcpekhbdaaW.PrintMore
attribute [local go_sem] max2_int min2_int max_two min_two max_three min_three max_four min_four   -- for this text's walks alone
set_option linter.unusedVariables false
set_option linter.unusedSimpArgs false
/-! ### poly_Eval: function 58, by hand -/
open Go.Shelf
namespace Tot
open Go.Proofs.Ytkaongcpekhbdaa.M
/-- A field: its prime, and whether it is the large one. -/
def PF (p : Int) (w : Bool) : Prop := (p = 2013265921 ∧ w = false) ∨ (p = 18446744069414584321 ∧ w = true)
theorem PF.lo {p : Int} {w : Bool} (h : PF p w) : 2013265921 ≤ p := by unfold PF at h; omega
theorem PF.hi {p : Int} {w : Bool} (h : PF p w) : p ≤ 18446744069414584321 := by unfold PF at h; omega
theorem addLo_eq (a b : Int) (ha : 0 ≤ a) (hb : 0 ≤ b) : addLo a b = (a + b) % 18446744073709551616 := by unfold addLo; omega
theorem addHi_eq (a b : Int) (ha : 0 ≤ a) (hb : 0 ≤ b) : addHi a b = (a + b) / 18446744073709551616 := by unfold addHi; omega
theorem subLo_eq (a b : Int) (ha : 0 ≤ a) (hb : 0 ≤ b) (hb1 : b < 18446744073709551616) : subLo a b = (a - b) % 18446744073709551616 := by unfold subLo; omega
theorem subHi_eq (a b : Int) (ha : 0 ≤ a) (hb : 0 ≤ b) : subHi a b = if a < b then 1 else 0 := by
 unfold subHi; split <;> split <;> omega
theorem add_eq {p : Int} {w : Bool} (h : PF p w) {a b : Int} (ha : 0 ≤ a) (ha1 : a < p) (hb : 0 ≤ b) (hb1 : b < p) : field_reckoner_add.f p w a b = some ((a + b) % p) := by
 have h1 := h.lo; have h2 := h.hi
 have e : (a + b) % p = if a + b < p then a + b else a + b - p := by
  split
  ·exact Int.emod_eq_of_lt (by omega) (by omega)
  ·rw [← Int.sub_emod_right]; exact Int.emod_eq_of_lt (by omega) (by omega)
 unfold field_reckoner_add.f
 rw [addLo_eq _ _ ha hb, addHi_eq _ _ ha hb, e]
 simp only [u64w]
 (repeat' split) <;> (congr 1; omega)
theorem sub_eq {p : Int} {w : Bool} (h : PF p w) {a b : Int} (ha : 0 ≤ a) (ha1 : a < p) (hb : 0 ≤ b) (hb1 : b < p) : field_reckoner_sub.f p w a b = some ((a - b) % p) := by
 have h1 := h.lo; have h2 := h.hi
 have e : (a - b) % p = if a < b then a - b + p else a - b := by
  split
  ·rw [← Int.add_emod_right]; exact Int.emod_eq_of_lt (by omega) (by omega)
  ·exact Int.emod_eq_of_lt (by omega) (by omega)
 unfold field_reckoner_sub.f
 rw [subLo_eq _ _ ha hb (by omega), subHi_eq _ _ ha hb, e]
 simp only [u64w]
 (repeat' split) <;> first | (exfalso; omega) | (congr 1; omega)
theorem mul64_eq {a b : Int} (ha : 0 ≤ a) (ha1 : a < 18446744073709551616) (hb : 0 ≤ b) (hb1 : b < 18446744073709551616) :
  bits_Mul64.f a b = some (a * b / 18446744073709551616, a * b % 18446744073709551616) := by
 have e := mul_parts a b
 have k1 := mul_half (a / 4294967296) (b / 4294967296) (by omega) (by omega) (by omega) (by omega)
 have k2 := mul_half (a / 4294967296) (b % 4294967296) (by omega) (by omega) (by omega) (by omega)
 have k3 := mul_half (a % 4294967296) (b / 4294967296) (by omega) (by omega) (by omega) (by omega)
 have k4 := mul_half (a % 4294967296) (b % 4294967296) (by omega) (by omega) (by omega) (by omega)
 unfold bits_Mul64.f
 rw [and32 a ha ha1, and32 b hb hb1]
 generalize a / 4294967296 * (b / 4294967296) = t11 at *
 generalize a / 4294967296 * (b % 4294967296) = t10 at *
 generalize a % 4294967296 * (b / 4294967296) = t01 at *
 generalize a % 4294967296 * (b % 4294967296) = t00 at *
 rw [e]
 rw [u64w_in t11 (by omega) (by omega), u64w_in t10 (by omega) (by omega), u64w_in t01 (by omega) (by omega), u64w_in t00 (by omega) (by omega)]
 rw [u64w_in (t10 + t00 / 4294967296) (by omega) (by omega), and32 (t10 + t00 / 4294967296) (by omega) (by omega)]
 obtain ⟨q, hq⟩ : ∃ q, q = t00 / 4294967296 := ⟨_, rfl⟩
 obtain ⟨r, hr⟩ : ∃ r, r = t00 % 4294967296 := ⟨_, rfl⟩
 have et : t00 = q * 4294967296 + r := by omega
 have qb : 0 ≤ q ∧ q ≤ 4294967294 := by omega
 have rb : 0 ≤ r ∧ r < 4294967296 := by omega
 rw [← hq]
 clear hq hr
 subst et
 obtain ⟨s1, hs1⟩ : ∃ s1, s1 = (t10 + q) / 4294967296 := ⟨_, rfl⟩
 obtain ⟨s0, hs0⟩ : ∃ s0, s0 = (t10 + q) % 4294967296 := ⟨_, rfl⟩
 have es : t10 = s1 * 4294967296 + s0 - q := by omega
 have sb : 0 ≤ s0 ∧ s0 < 4294967296 := by omega
 have sb1 : 0 ≤ s1 ∧ s1 < 4294967296 := by omega
 rw [← hs1, ← hs0]
 clear hs1 hs0
 subst es
 obtain ⟨v1, hv1⟩ : ∃ v1, v1 = (s0 + t01) / 4294967296 := ⟨_, rfl⟩
 obtain ⟨v0, hv0⟩ : ∃ v0, v0 = (s0 + t01) % 4294967296 := ⟨_, rfl⟩
 have ev : t01 = v1 * 4294967296 + v0 - s0 := by omega
 have vb : 0 ≤ v0 ∧ v0 < 4294967296 := by omega
 have vb1 : 0 ≤ v1 ∧ v1 < 4294967296 := by omega
 rw [u64w_in (s0 + t01) (by omega) (by omega), ← hv1]
 clear hv1 hv0
 subst ev
 rw [u64w_in (t11 + s1) (by omega) (by omega), u64w_in (t11 + s1 + v1) (by omega) (by omega)]
 have e2 : t11 * 18446744073709551616 + (s1 * 4294967296 + s0 - q + (v1 * 4294967296 + v0 - s0)) * 4294967296 + (q * 4294967296 + r) = (t11 + s1 + v1) * 18446744073709551616 + (v0 * 4294967296 + r) := by omega
 rw [e2, u64w]
 simp only [Option.some.injEq, Prod.mk.injEq]
 exact ⟨by omega, trivial⟩
theorem mul_lt {p a b : Int} (ha : 0 ≤ a) (ha1 : a < p) (hb : 0 ≤ b) (hb1 : b < p) : 0 ≤ a * b ∧ a * b < p * p := by
 refine ⟨Int.mul_nonneg ha hb, ?_⟩
 have h := Int.mul_le_mul (show a ≤ p - 1 by omega) (show b ≤ p - 1 by omega) hb (by omega)
 have : (p - 1) * (p - 1) = p * p - 2 * p + 1 := by grind
 omega
theorem emod_rng {p : Int} (x : Int) (hp : 0 < p) : 0 ≤ x % p ∧ x % p < p := ⟨Int.emod_nonneg _ (by omega), Int.emod_lt_of_pos _ hp⟩
theorem mul_eq {p : Int} {w : Bool} (h : PF p w) {a b : Int} (ha : 0 ≤ a) (ha1 : a < p) (hb : 0 ≤ b) (hb1 : b < p) : field_reckoner_mul.f p w a b = some (a * b % p) := by
 have h1 := h.lo; have h2 := h.hi
 obtain ⟨m0, m1⟩ := mul_lt ha ha1 hb hb1
 unfold field_reckoner_mul.f
 rw [mul64_eq ha (by omega) hb (by omega)]
 simp only [Option.bind_some]
 rcases h with ⟨rfl, rfl⟩ | ⟨rfl, rfl⟩
 ·simp only [Bool.false_eq_true, if_false, bits_Rem64.f, bits_Div64.f]
  generalize a * b = m at *
  have e0 : m / 18446744073709551616 = 0 := by omega
  have e1 : m % 18446744073709551616 = m := by omega
  rw [e0, e1]
  simp [Int.tmod_eq_emod_of_nonneg m0]
 ·simp only [if_true]
  generalize a * b = m at *
  have hhi : 0 ≤ m / 18446744073709551616 ∧ m / 18446744073709551616 < 18446744073709551616 := by omega
  rw [and32 _ hhi.1 hhi.2]
  have hP : PF 18446744069414584321 true := .inr ⟨rfl, rfl⟩
  rw [u64w_in (m / 18446744073709551616 % 4294967296 * 4294967296) (by omega) (by omega), u64w_in (m / 18446744073709551616 % 4294967296 * 4294967296 - m / 18446744073709551616 % 4294967296) (by omega) (by omega)]
  split
  ·rw [u64w_in _ (by omega) (by omega), sub_eq hP (by omega) (by omega) (by omega) (by omega)]
   simp only [Option.bind_some]
   rw [add_eq hP (emod_rng _ (by omega)).1 (emod_rng _ (by omega)).2 (by omega) (by omega)]
   simp only [Option.bind_some, Option.some.injEq]
   omega
  ·rw [sub_eq hP (by omega) (by omega) (by omega) (by omega)]
   simp only [Option.bind_some]
   rw [add_eq hP (emod_rng _ (by omega)).1 (emod_rng _ (by omega)).2 (by omega) (by omega)]
   simp only [Option.bind_some, Option.some.injEq]
   omega
theorem of_eq (f : Int) : field_of.f f = if f = 1 then some (2013265921, false, true) else if f = 2 then some (18446744069414584321, true, true) else some (0, false, false) := rfl
theorem pf_of {f : Int} (h : P f ≠ 0) : PF (P f) (wd f) := by
 unfold PF P wd at *
 by_cases h1 : f = 1
 ·subst h1; simp
 ·by_cases h2 : f = 2
  ·subst h2; simp
  ·simp [h1, h2] at h
theorem of_is (f : Int) : field_of.f f = some (P f, wd f, decide (P f ≠ 0)) := by
 unfold field_of.f P wd
 by_cases h1 : f = 1
 ·subst h1; simp
 ·by_cases h2 : f = 2
  ·subst h2; simp
  ·simp [h1, h2]
theorem in_loop (p : Int) (w : Bool) (l : List Int) (hl : l.length < 4611686018427387904) : ∀ (d i : Nat), i + d = l.length →
  Ev (fun k => field_reckoner_in.l0 k l (l.length : Int) (i : Int) p w) (allIn p (l.drop i)) := by
 intro d
 induction d with
 | zero =>
  intro i hi
  refine Ev.step (fun k => by rw [field_reckoner_in.l0]) ?_
  refine Ev.neg (by omega) (Ev.fix ?_)
  rw [List.drop_eq_nil_of_le (by omega), allIn_nil]
 | succ d ih =>
  intro i hi
  have hlt : i < l.length := by omega
  refine Ev.step (fun k => by rw [field_reckoner_in.l0]) ?_
  refine Ev.pos (by omega) (Ev.pos (by omega) (Ev.pos (by omega) ?_))
  rw [drop_rd hlt, allIn_cons]
  refine Ev.ite (fun c => ?_) (fun c => ?_)
  ·refine Ev.fix ?_
   rw [decide_eq_false (by omega), Bool.false_and]
  ·rw [decide_eq_true (by omega), Bool.true_and, w64_succ (by omega)]
   exact ih (i + 1) (by omega)
theorem in_eq (p : Int) (w : Bool) (l : List Int) (hl : l.length < 4611686018427387904) : Ev (fun k => field_reckoner_in.f k p w l) (allIn p l) := by
 have := in_loop p w l hl l.length 0 (by omega)
 simpa [field_reckoner_in.f] using this
theorem asked_eq (f : Int) (l : List Int) (hl : l.length < 4611686018427387904) :
  Ev (fun k => field_asked.f k f l) (if ok f l then (P f, wd f, 0) else (0, false, 2)) := by
 unfold field_asked.f
 refine Ev.bnd (of_is f) ?_
 by_cases hp : P f = 0
 ·have e : ok f l = false := by unfold ok; simp [hp]
  simp only [hp, e]
  exact Ev.fix (by simp)
 ·refine Ev.pos (by simpa using hp) ?_
  refine Ev.bind (in_eq (P f) (wd f) l hl) ?_
  have e : ok f l = allIn (P f) l := by unfold ok; simp [hp]
  rw [e]
  refine Ev.ite (fun c => ?_) (fun c => ?_)
  ·exact Ev.fix (by rw [if_pos c])
  ·exact Ev.fix (by rw [if_neg c])
theorem asked_yes {f : Int} {l : List Int} (hl : l.length < 4611686018427387904) (h : ok f l = true) : Ev (fun k => field_asked.f k f l) (P f, wd f, 0) :=
 Ev.cast (asked_eq f l hl) (by rw [if_pos h])
theorem asked_no {f : Int} {l : List Int} (hl : l.length < 4611686018427387904) (h : ¬ ok f l = true) : Ev (fun k => field_asked.f k f l) (0, false, 2) :=
 Ev.cast (asked_eq f l hl) (by rw [if_neg h])
theorem ok2 {f a b : Int} (h : ok f [a, b] = true) : PF (P f) (wd f) ∧ a < P f ∧ b < P f := by
 have := ok_iff.1 h
 exact ⟨pf_of this.1, this.2 a (by simp), this.2 b (by simp)⟩
theorem ok1 {f a : Int} (h : ok f [a] = true) : PF (P f) (wd f) ∧ a < P f := by
 have := ok_iff.1 h
 exact ⟨pf_of this.1, this.2 a (by simp)⟩
theorem Add_eq (f a b : Int) (ha : 0 ≤ a) (hb : 0 ≤ b) : Ev (fun k => field_Add.f k f a b) (if ok f [a, b] then ((a + b) % P f, 0) else (0, 2)) := by
 unfold field_Add.f
 refine Ev.bind (asked_eq f _ (by simp)) ?_
 by_cases h : ok f [a, b] = true
 ·simp only [h, if_true]
  obtain ⟨hp, h1, h2⟩ := ok2 h
  exact Ev.bnd (add_eq hp ha h1 hb h2) (Ev.fix rfl)
 ·simp only [h]
  exact Ev.fix (by simp)
theorem Mul_eq (f a b : Int) (ha : 0 ≤ a) (hb : 0 ≤ b) : Ev (fun k => field_Mul.f k f a b) (if ok f [a, b] then (a * b % P f, 0) else (0, 2)) := by
 unfold field_Mul.f
 refine Ev.bind (asked_eq f _ (by simp)) ?_
 by_cases h : ok f [a, b] = true
 ·simp only [h, if_true]
  obtain ⟨hp, h1, h2⟩ := ok2 h
  exact Ev.bnd (mul_eq hp ha h1 hb h2) (Ev.fix rfl)
 ·simp only [h]
  exact Ev.fix (by simp)
theorem In_eq (f : Int) (l : List Int) (hl : l.length < 4611686018427387904) : Ev (fun k => field_In.f k f l) (ok f l) := by
 unfold field_In.f
 refine Ev.bind (asked_eq f _ hl) ?_
 by_cases h : ok f l = true
 ·simp only [h]; exact Ev.fix (by simp)
 ·simp only [h]; exact Ev.fix (by simp)
theorem ok_two {f a b : Int} (hp : P f ≠ 0) (ha : a < P f) (hb : b < P f) : ok f [a, b] = true := ok_iff.2 ⟨hp, by simp [ha, hb]⟩
theorem ok_nil {f : Int} : ok f [] = true ↔ P f ≠ 0 := by rw [ok_iff]; simp
theorem mx_nat (a b : Nat) : mx (a : Int) (b : Int) = ((max a b : Nat) : Int) := by unfold mx; split <;> omega
theorem pol_succ (n : Nat) (g : Nat → Int) : pol (n + 1) g = pol n g ++ [g n] := by simp [pol, List.range_succ]
theorem kadd_eq {f a b : Int} (hp : P f ≠ 0) (ha : 0 ≤ a ∧ a < P f) (hb : 0 ≤ b ∧ b < P f) : Ev (fun k => poly_reckoner_add.f k f a b) ((a + b) % P f) := by
 unfold poly_reckoner_add.f
 refine Ev.bind (Add_eq f a b ha.1 hb.1) ?_
 rw [if_pos (ok_two hp ha.2 hb.2)]
 exact Ev.fix rfl
theorem kmul_eq {f a b : Int} (hp : P f ≠ 0) (ha : 0 ≤ a ∧ a < P f) (hb : 0 ≤ b ∧ b < P f) : Ev (fun k => poly_reckoner_mul.f k f a b) (a * b % P f) := by
 unfold poly_reckoner_mul.f
 refine Ev.bind (Mul_eq f a b ha.1 hb.1) ?_
 rw [if_pos (ok_two hp ha.2 hb.2)]
 exact Ev.fix rfl
theorem padded (a b : List Int) : a.take (List.replicate (max a.length b.length) (0 : Int)).length ++ (List.replicate (max a.length b.length) (0 : Int)).drop a.length = pol (max a.length b.length) (cf a) := by
 refine pol_ext (by simp; omega) fun i hi => ?_
 rw [List.take_of_length_le (by simp; omega)]
 unfold cf rd
 rw [Int.toNat_natCast, List.getD_eq_getElem?_getD, List.getD_eq_getElem?_getD]
 by_cases c : i < a.length
 ·rw [List.getElem?_append_left c]
 ·rw [List.getElem?_append_right (by omega), List.getElem?_eq_none (l := a) (by omega), List.getElem?_drop, List.getElem?_replicate]
  split <;> rfl
end Tot
section
variable {P : Program} {ops : Array Oper} {Q : Exit → Act → World → Prop}
theorem lit_rows {rest : List Oper} {o : Oper} {a : Act} {W : World} {l : List Int} {A : Option Addr} {c : Nat} (hgd : o.guard = none) (hrun : (execOp a.eval o).run P W = .ok (.value (.slice (some ⟨W.heap.size, 0, none⟩) 1 1)) (W.alloc (.cells #[.slice A l.length c] 22)))
  (hC : Kd.C (Kd.int .u64) W A l.length l) (hc : l.length ≤ c) (h : ∀ g w1, Kd.C (Kd.slice 49 (Kd.int .u64)) w1 (some ⟨g, 0, none⟩) [l].length [l] → Below W.heap.size W w1 → wpList P ops Q rest (a.put o.dst (.slice (some ⟨g, 0, none⟩) 1 1)) w1) : wpList P ops Q (o :: rest) a W := by
 refine Kd.event_run hgd hrun (h _ _ ⟨rfl, by simp, fun _ => ⟨_, rfl, fun j p hj => ?_⟩⟩ (below_alloc (Below.refl _ _) _))
 have hj0 : j = 0 := by
  cases j with
  | zero => rfl
  | succ j => simp at hj
 subst hj0
 obtain rfl : l = p := by simpa using hj
 refine ⟨[.slice A l.length c], rfl, ⟨A, c, rfl, hc, Kd.C_alloc hC _⟩, fun i u hi => ?_⟩
 cases i with
 | zero =>
  simp at hi
  subst hi
  simp [add_plain]
 | succ i => simp at hi
end
def step (f x c s : Int) : Int := (s * x % Go.Proofs.Ytkaongcpekhbdaa.M.P f + c) % Go.Proofs.Ytkaongcpekhbdaa.M.P f
def inF (f c : Int) : Bool := decide (0 ≤ c) && decide (c < Go.Proofs.Ytkaongcpekhbdaa.M.P f)
theorem fold_upto {f : Int} (l : List Int) (a0 a2 : Int) (g : Nat → {x : Int × Int // inF f x.2 = true}) (hg : ∀ j, j < l.length → (g j).1.2 = rd l ((l.length - 1 - j : Nat) : Int)) : (upto g l.length).foldl (fun s x => step a0 a2 x.1.2 s) 0 = l.foldr (step a0 a2) 0 := by
 have e : (upto g l.length).map (fun x => x.1.2) = l.reverse := by
  refine List.ext_getElem (by simp [upto]) fun i h1 h2 => ?_
  have hi : i < l.length := by simpa [upto] using h1
  simp only [upto, List.map_map, List.getElem_map, List.getElem_range, Function.comp]
  rw [hg i hi, List.getElem_reverse, Go.Proofs.Ytkaongcpekhbdaa.M.rd_lt (by omega)]
 have h := List.foldl_map (f := fun x : {x : Int × Int // inF f x.2 = true} => x.1.2) (g := fun s c => step a0 a2 c s) (l := upto g l.length) (init := (0 : Int))
 rw [← h, e, List.foldl_reverse]
theorem inF_iff {f c : Int} : inF f c = true ↔ 0 ≤ c ∧ c < Go.Proofs.Ytkaongcpekhbdaa.M.P f := by unfold inF; simp
theorem inF_P {f c : Int} (h : inF f c = true) : Go.Proofs.Ytkaongcpekhbdaa.M.P f ≠ 0 := by have := inF_iff.1 h; omega
theorem tot_mul {f a b : Int} (ha : inF f a = true) (hb : inF f b = true) : ∃ k, poly_reckoner_mul.f k f a b = some (a * b % Go.Proofs.Ytkaongcpekhbdaa.M.P f) := Ev.rounds (Tot.kmul_eq (inF_P ha) (inF_iff.1 ha) (inF_iff.1 hb))
theorem tot_add {f a b : Int} (ha : inF f a = true) (hb : inF f b = true) : ∃ k, poly_reckoner_add.f k f a b = some ((a + b) % Go.Proofs.Ytkaongcpekhbdaa.M.P f) := Ev.rounds (Tot.kadd_eq (inF_P ha) (inF_iff.1 ha) (inF_iff.1 hb))
theorem inF_mod {f x c : Int} (h : inF f c = true) : inF f (x % Go.Proofs.Ytkaongcpekhbdaa.M.P f) = true := by
 unfold inF at h ⊢
 simp at h ⊢
 exact ⟨Int.emod_nonneg _ (by omega), Int.emod_lt_of_pos _ (by omega)⟩
theorem round_end {w W w1 w2 : World} {B Bs gb10 gb9 gb5 : Nat} {s0 x9 x5 : Value} (hB : Below w.heap.size w W) (hb1 : Below W.drew.heap.size W.drew w1) (hb2 : Below w1.heap.size w1 w2) (hlt : Bs < W.heap.size) (GE : w.heap.size ≤ gb10) (ltb : gb10 < Bs)
  (c10 : w2.cell? ⟨gb10, 0, none⟩ = some s0) (f10 : w2.frozen? ⟨gb10, 0, none⟩ = false) (c9 : w2.cell? ⟨gb9, 0, none⟩ = some x9) (c5 : w2.cell? ⟨gb5, 0, none⟩ = some x5) (n9 : gb9 ≠ gb10) (n5 : gb5 ≠ gb10) (v : Value) :
  KeepsFrom B W (w2.setCell ⟨gb10, 0, none⟩ v) ∧ BKp w.heap.size Bs W (w2.setCell ⟨gb10, 0, none⟩ v) ∧ (w2.setCell ⟨gb10, 0, none⟩ v).cell? ⟨gb10, 0, none⟩ = some v ∧ (w2.setCell ⟨gb10, 0, none⟩ v).frozen? ⟨gb10, 0, none⟩ = false ∧
   (w2.setCell ⟨gb10, 0, none⟩ v).cell? ⟨gb9, 0, none⟩ = some x9 ∧ (w2.setCell ⟨gb10, 0, none⟩ v).cell? ⟨gb5, 0, none⟩ = some x5 ∧ Below w.heap.size w (w2.setCell ⟨gb10, 0, none⟩ v) ∧ Bs < (w2.setCell ⟨gb10, 0, none⟩ v).heap.size := by
 have hb1' : Below W.heap.size W w1 := ⟨hb1.os, hb1.tape, hb1.output, hb1.size, hb1.block⟩
 have h12 : Below W.heap.size W w2 := hb1'.trans (hb2.mono hb1'.size)
 have hW2 : Below w.heap.size W w2 := h12.mono hB.size
 have hS : Below w.heap.size W (w2.setCell ⟨gb10, 0, none⟩ v) := hW2.setCell (p := ⟨gb10, 0, none⟩) GE v
 refine ⟨?_, ⟨hS, ?_⟩, World.cell?_setCell_same' _ _ _ (by rw [c10]; rfl), by rw [World.frozen?_setCell]; exact f10, by rw [World.cell?_setCell_far _ _ _ _ (show gb10 ≠ gb9 from Ne.symm n9)]; exact c9, by rw [World.cell?_setCell_far _ _ _ _ (show gb10 ≠ gb5 from Ne.symm n5)]; exact c5, hB.trans hS, ?_⟩
 ·refine KeepsFrom.trans (Y := w2) ⟨h12.size, fun k o _ hk _ => (h12.block k (Array.getElem?_eq_some_iff.1 hk).1).trans hk⟩ ((KeepsOthers.setCell w2 _ v).from B)
 ·exact (Below.heap_setCell w2 ⟨gb10, 0, none⟩ v Bs (by show Bs ≠ gb10; omega)).trans (h12.block Bs hlt)
 ·have h1 := h12.size
  have h2 : (w2.setCell ⟨gb10, 0, none⟩ v).heap.size = w2.heap.size := by simp
  omega
theorem cell_new (W : World) (v : Value) (t : TypeId) : (W.alloc (.cells #[v] t)).cell? ⟨W.heap.size, 0, none⟩ = some v := by simp
theorem inF_zero {f a : Int} (h : inF f a = true) : inF f 0 = true := by unfold inF at h ⊢; simp at h ⊢; omega
theorem inF_rd {f a2 : Int} {l : List Int} (h : (inF f a2 && l.all (inF f)) = true) (i : Int) : inF f (rd l i) = true := by
 rw [Bool.and_eq_true] at h
 unfold rd
 rw [List.getD_eq_getElem?_getD]
 cases hq : l[i.toNat]? with
 | none => have := h.1; unfold inF at this ⊢; simp at this ⊢; omega
 | some x => exact List.all_eq_true.1 h.2 x (List.mem_of_getElem? hq)
def poly_Eval.f (k : Nat) (a0 : Int) (l1 : List Int) (a2 : Int) : Option (Int × Int) := (field_In.f k a0 (([a2] : List Int))).bind fun t => (if t = true then ((poly_may.f k a0 (([l1] : List (List Int)))).bind fun e => (if e = 0 then (if (inF a0 a2 && l1.all (inF a0)) = true then (some (l1.foldr (step a0 a2) 0, 0)) else (none)) else (some (0, e)))) else (some (0, 2)))
theorem poly_Eval.mono : ∀ a0 a1 a2 k, LeO (poly_Eval.f k a0 a1 a2) (poly_Eval.f (k + 1) a0 a1 a2) := by
 intro a0 a1 a2 k
 unfold poly_Eval.f
 exact LeO.bind (field_In.mono _ _ _) (fun _ => LeO.ite (LeO.bind (poly_may.mono _ _ _) (fun _ => LeO.refl _)) (LeO.refl _))
section
attribute [local go_sem] Oper.semAt_some
set_option maxHeartbeats 8000000 in
set_option maxRecDepth 100000 in
theorem poly_Eval.calls (k : Nat) (a0 : Int) (A1 : Option Addr) (c1 : Nat) (l1 : List Int) (a2 : Int) (r1 : Int) (r2 : Int) (w : World) (hr1 : Kd.C (Kd.int .u64) w A1 l1.length l1) (hc1 : l1.length ≤ c1) (h : poly_Eval.f k a0 l1 a2 = some (r1, r2)) :
  Calls Try.prog 58 #[.int .u8 a0, .slice A1 l1.length c1, .int .u64 a2] w fun e w' => e = .returned (.tuple #[.int .u64 r1, .int .i64 r2]) ∧ Below w.heap.size w w' := by
 have hu57 := Try.underlying72
 have HR1 := Aside0.mk hr1
 have HC1 := Aside0.mk hc1
 clear hr1 hc1
 have HB := A_ (Below.refl w.heap.size w)
 have H := h
 clear h
 unfold poly_Eval.f at H
 obtain ⟨y138, hy138⟩ : ∃ y_ : List Int, y_ = (([a2] : List Int)) := ⟨_, rfl⟩
 rw [← hy138] at H
 have Ny138 := Aside0.mk hy138
 clear hy138
 replace H := Option.bind_eq_some_iff.mp H
 obtain ⟨t1, A40, H⟩ := H
 have A4 := Aside0.mk A40
 clear A40
 cases t1 with
 | false =>
  replace H : (some ((0 : Int), (2 : Int))) = some (r1, r2) := H
  simp only [Option.some.injEq, Prod.mk.injEq] at H
  obtain ⟨rfl, rfl⟩ := H
  go_enter Try.func58, Try.ntmps58
  go_wp2_with (first | ((with_reducible refine gate_dst (N := 5) rfl ?_); refine box_event ?hg (N := 5) ?hd (cs := #[.int .u64 a2]) (t := 49) ?hr ?_; (case hd => rfl); (case hg => rfl); (case hr => first | (go_simp; done) | (go_simp; rfl)); intro gb5 hg5 w5 hbox hb; have hc5 : w5.cell? ⟨gb5, 0, none⟩ = some (.int .u64 a2) := (blk_cell hbox 0).trans rfl; have hf5 := blk_frozen hbox 0; have GS5 := A_ (show w.heap.size ≤ gb5 from by rw [hg5]; exact below_size hb_); clear hbox hg5; have n0_ := A_ (below_step hb_ hb); clear HB; have HB := n0_; clear n0_; clear hb) | ((with_reducible refine gate_dst (N := 15) rfl ?_); refine Kd.R_lit (Kd.int .u64) _ 49 ?hg (N := 15) ?hd (xs := ([a2] : List Int)) (inner := [.int .u64 a2]) (ok := fun _ => True) (okp := fun _ => True) ?hr ?hp (fun _ hk => hk) trivial (Below.refl _ _) (Nat.le_refl _) (by simp) ?_; (case hd => rfl); (case hg => rfl); (case hr => first | (go_simp; done) | (go_simp; rfl)); (case hp => exact (Reps.one (show Kd.M (Kd.int .u64) _ _ _ a2 [.int .u64 a2] from rfl) (Reps.none _ _))); intro v139 w15 ho8 hb hg_ hnew_; clear hg_ hnew_; (first | rw [← Ny138.out] at ho8 | (simp only [Int.reduceToNat] at ho8; rw [← Ny138.out] at ho8)); have hc15 := pw_cell_below hb hc5; have n1_ := A_ (Kd.R_lower ho8 (below_size hb_)); have n0_ := A_ (below_step hb_ hb); clear HB; have HB := n0_; clear n0_; have HO140 := n1_; clear n1_ hb ho8 hc5; obtain ⟨Ao9, co9, eo9⟩ := Kd.R_slice HO140.out; subst eo9) | ((with_reducible refine gate_callee (f := 45) rfl ?_); refine goesM_ (some 16) Try.func45 #[.int .u8 a0, .slice Ao9 y138.length co9] ?_; (with_reducible refine (field_In.calls k a0 _ _ y138 false _ ?side1 ?side2 A4.out).mono ?_); (case side1 => repeat (first | exact (Kd.R_reads' HO140.out).2.2 | (with_reducible refine Kd.C_alloc ?_ _) | (with_reducible refine Kd.C_drewN ?_ _) | (with_reducible refine Kd.C_drew ?_))); (case side2 => exact (Kd.R_reads' HO140.out).2.1); rintro e w16 ⟨rfl, hb⟩; refine ⟨_, rfl, ?_⟩; have hc16 := pw_cell_below hb hc15; have n0_ := A_ (below_step hb_ hb); clear HB; have HB := n0_; clear n0_; clear HO140 hb hc15))
  go_ret2
  exact ⟨rfl, hb_⟩
 | true =>
  rw [if_pos rfl] at H
  replace H := Option.bind_eq_some_iff.mp H
  obtain ⟨e1, A50, H⟩ := H
  have A5 := Aside0.mk A50
  clear A50
  by_cases ce : e1 = 0
  ·subst ce
   rw [if_pos rfl] at H
   by_cases cf : (inF a0 a2 && l1.all (inF a0)) = true
   ·rw [if_pos cf] at H
    simp only [Option.some.injEq, Prod.mk.injEq] at H
    obtain ⟨H1, rfl⟩ := H
    have CF := Aside0.mk cf
    have HS := Aside0.mk H1
    clear cf H1
    refine (callsIn_wide (n := 3)).1 ?_
    refine callsIn_of_wp_marks Try.func58 rfl trivial ?_ rfl
    refine wpIn_wide.2 ?_
    simp only [Try.ntmps58, List.size_toArray, List.length_cons, List.length_nil, Nat.reduceAdd, Nat.reduceSub, Array.replicate_succ, Array.replicate_zero, List.push_toArray, List.append_toArray, List.nil_append, List.cons_append]
    go_wp2_with (first | ((with_reducible refine gate_dst (N := 5) rfl ?_); refine box_event ?hg (N := 5) ?hd (cs := #[.int .u64 a2]) (t := 49) ?hr ?_; (case hd => rfl); (case hg => rfl); (case hr => first | (go_simp; done) | (go_simp; rfl)); intro gb5 hg5 w5 hbox hb; have hc5 : w5.cell? ⟨gb5, 0, none⟩ = some (.int .u64 a2) := (blk_cell hbox 0).trans rfl; have hf5 := blk_frozen hbox 0; have GS5 := A_ (show w.heap.size ≤ gb5 from by rw [hg5]; exact below_size hb_); clear hbox hg5; have n0_ := A_ (below_step hb_ hb); clear HB; have HB := n0_; clear n0_; clear hb) | ((with_reducible refine gate_dst (N := 15) rfl ?_); refine Kd.R_lit (Kd.int .u64) _ 49 ?hg (N := 15) ?hd (xs := ([a2] : List Int)) (inner := [.int .u64 a2]) (ok := fun _ => True) (okp := fun _ => True) ?hr ?hp (fun _ hk => hk) trivial (Below.refl _ _) (Nat.le_refl _) (by simp) ?_; (case hd => rfl); (case hg => rfl); (case hr => first | (go_simp; done) | (go_simp; rfl)); (case hp => exact (Reps.one (show Kd.M (Kd.int .u64) _ _ _ a2 [.int .u64 a2] from rfl) (Reps.none _ _))); intro v139 w15 ho8 hb hg_ hnew_; clear hg_ hnew_; (first | rw [← Ny138.out] at ho8 | (simp only [Int.reduceToNat] at ho8; rw [← Ny138.out] at ho8)); have hc15 := pw_cell_below hb hc5; have n1_ := A_ (Kd.R_lower ho8 (below_size hb_)); have n0_ := A_ (below_step hb_ hb); clear HB; have HB := n0_; clear n0_; have HO140 := n1_; clear n1_ hb ho8 hc5; obtain ⟨Ao9, co9, eo9⟩ := Kd.R_slice HO140.out; subst eo9) | ((with_reducible refine gate_callee (f := 45) rfl ?_); refine goesM_ (some 16) Try.func45 #[.int .u8 a0, .slice Ao9 y138.length co9] ?_; (with_reducible refine (field_In.calls k a0 _ _ y138 true _ ?side1 ?side2 A4.out).mono ?_); (case side1 => repeat (first | exact (Kd.R_reads' HO140.out).2.2 | (with_reducible refine Kd.C_alloc ?_ _) | (with_reducible refine Kd.C_drewN ?_ _) | (with_reducible refine Kd.C_drew ?_))); (case side2 => exact (Kd.R_reads' HO140.out).2.1); rintro e w16 ⟨rfl, hb⟩; refine ⟨_, rfl, ?_⟩; have hc16 := pw_cell_below hb hc15; have n0_ := A_ (below_step hb_ hb); clear HB; have HB := n0_; clear n0_; clear HO140 hb hc15) | ((with_reducible refine gate_dst (N := 20) rfl ?_); refine lit_rows (l := l1) (A := A1) (c := c1) ?hg ?hr ?hC HC1.out ?_; (case hg => rfl); (case hr => first | (go_simp; done) | (go_simp; rfl)); (case hC => exact Kd.C_below HR1.out hb_); intro g20 w20 hC20 hb; have HC20 := Aside0.mk hC20; have hc20 := pw_cell_below hb hc16; have n0_ := A_ (below_step hb_ hb); clear HB; have HB := n0_; clear n0_; clear hb hC20 hc16) | ((with_reducible refine gate_callee (f := 46) rfl ?_); refine goesM_ (some 21) Try.func46 #[.int .u8 a0, .slice (some ⟨g20, 0, none⟩) 1 1] ?_; (refine (poly_may.calls k a0 (some ⟨g20, 0, none⟩) 1 [l1] 0 _ HC20.out (Nat.le_refl _) A5.out).mono ?_); rintro e w21 ⟨rfl, hb⟩; refine ⟨_, rfl, ?_⟩; have hc21 := pw_cell_below hb hc20; have n0_ := A_ (below_step hb_ hb); clear HB; have HB := n0_; clear n0_; clear HC20 hb hc20) | ((with_reducible refine gate_dst (N := 9) rfl ?_); refine box_event ?hg (N := 9) ?hd (cs := #[.int .u8 0]) (t := 72) ?hr ?_; (case hd => rfl); (case hg => rfl); (case hr => first | (go_simp; done) | (go_simp; rfl)); intro gb9 hg9 w9 hbox hb; have BK9 := Aside0.mk hbox; have GE9 := A_ (show w.heap.size ≤ gb9 from by rw [hg9]; exact below_size hb_); have hc9 := pw_cell_below hb hc21; have ne5 : gb5 ≠ gb9 := (by rw [hg9]; have := World.block_lt_of_cell? _ _ hc21; simp at this; omega); clear hbox hg9; have n0_ := A_ (below_step hb_ hb); clear HB; have HB := n0_; clear n0_; clear hb hc21) | ((with_reducible refine gate_dst (N := 10) rfl ?_); refine box_event ?hg (N := 10) ?hd (cs := #[.int .u64 0]) (t := 49) ?hr ?_; (case hd => rfl); (case hg => rfl); (case hr => first | (go_simp; done) | (go_simp; rfl)); intro gb10 hg10 w10 hbox hb; have BK10 := Aside0.mk hbox; have GE10 := A_ (show w.heap.size ≤ gb10 from by rw [hg10]; exact below_size hb_); have hc10 := pw_cell_below hb hc9; have ne5b : gb5 ≠ gb10 := (by rw [hg10]; have := World.block_lt_of_cell? _ _ hc9; simp at this; omega); have ne9 : gb9 ≠ gb10 := (by rw [hg10]; have := (Array.getElem?_eq_some_iff.1 BK9.out).1; omega); have n1_ := A_ (blk_below (g := gb9) (o := .cells #[.int .u8 0] 72 (0, 0)) BK9.out hb); clear BK9; have BK9 := n1_; clear n1_ hbox hg10; have hx9 : w10.cell? ⟨gb9, 0, none⟩ = some (.int .u8 0) := (blk_cell BK9.out 0).trans rfl; have hx10 : w10.cell? ⟨gb10, 0, none⟩ = some (.int .u64 0) := (blk_cell BK10.out 0).trans rfl; have hf9 := blk_frozen BK9.out 0; have hf10 := blk_frozen BK10.out 0; have n0_ := A_ (below_step hb_ hb); clear HB; have HB := n0_; clear n0_; clear hb hc9) | ((with_reducible refine gate_callee (f := 68) rfl ?_); refine goesM_ (some 28) Try.func68 #[.slice A1 l1.length c1] ?_; refine (callsIn_wide.1 (backward_in Fence.wide 3 trivial rfl A1 l1.length c1 _)).mono ?_; rintro e w28 ⟨rfl, rfl⟩; refine ⟨_, rfl, ?_⟩))
    have hL : ∀ i : Int, inF a0 (rd l1 i) = true := fun i => inF_rd CF.out i
    have hx0 : inF a0 a2 = true := by have := CF.out; rw [Bool.and_eq_true] at this; exact this.1
    obtain ⟨W0, hW0⟩ : ∃ W0, (w10.setCell ⟨gb9, 0, none⟩ (.int .u8 a0)).setCell ⟨gb10, 0, none⟩ (.int .u64 0) = W0 := ⟨_, rfl⟩
    have b5 : W0.cell? ⟨gb5, 0, none⟩ = some (.int .u64 a2) := by rw [← hW0, World.cell?_setCell_far _ _ _ _ (show gb10 ≠ gb5 from Ne.symm ne5b), World.cell?_setCell_far _ _ _ _ (show gb9 ≠ gb5 from Ne.symm ne5)]; exact hc10
    have b9 : W0.cell? ⟨gb9, 0, none⟩ = some (.int .u8 a0) := by rw [← hW0, World.cell?_setCell_far _ _ _ _ (show gb10 ≠ gb9 from Ne.symm ne9)]; exact World.cell?_setCell_same' _ _ _ (by rw [hx9]; rfl)
    have b10 : W0.cell? ⟨gb10, 0, none⟩ = some (.int .u64 0) := by rw [← hW0]; exact World.cell?_setCell_same' _ _ _ (by rw [World.cell?_setCell_far _ _ _ _ (show gb9 ≠ gb10 from ne9), hx10]; rfl)
    have f10 : W0.frozen? ⟨gb10, 0, none⟩ = false := by rw [← hW0, World.frozen?_setCell, World.frozen?_setCell]; exact hf10
    have HB0 : Below w.heap.size w W0 := by rw [← hW0]; exact below_set (below_set HB.out GE9.out) GE10.out
    rw [hW0]
    have lt5 := World.block_lt_of_cell? _ _ b5
    have lt9 := World.block_lt_of_cell? _ _ b9
    have lt10 := World.block_lt_of_cell? _ _ b10
    have hsz0 := HB0.size
    clear hc10 hx9 hx10 hf9 hf10 BK9 BK10 HB
    have HC0 := Kd.C_below HR1.out HB0
    simp only [Act.put]
    refine (wpIn_wide (n := 3)).1 ?_
    refine wpIn_rangeFunc_ownG (α := {x : Int × Int // inF a0 x.2 = true}) rfl (by omega) (gf := 74) (lb := #[.pointer (some ⟨W0.heap.size, 0, none⟩)]) rfl trivial (enters_of Try.func74 (by kernel_rfl) rfl)
     (back_stops Fence.wide 2 trivial rfl (by omega) W0.heap.size w A1 c1 l1 HR1.out (fun x : {x : Int × Int // inF a0 x.2 = true} => #[.int .i64 x.1.1, .int .u64 x.1.2]) (fun j => ⟨(((l1.length - 1 - j : Nat) : Int), rd l1 ((l1.length - 1 - j : Nat) : Int)), hL _⟩) (fun _ _ => rfl)
      (W0.alloc (.cells #[.slice A1 l1.length c1] 22)) (below_alloc HB0 _) (cell_new W0 (.slice A1 l1.length c1) 22))
     BKp.t (BKp.b (by simp; omega) (by simp)) (Below.refl _ _) (fun _ => rfl)
     (fun pre W => (W0.heap.size < W.heap.size ∧ inF a0 (pre.foldl (fun s x => step a0 a2 x.1.2 s) 0) = true ∧ W.cell? ⟨gb10, 0, none⟩ = some (.int .u64 (pre.foldl (fun s x => step a0 a2 x.1.2 s) 0)) ∧ W.frozen? ⟨gb10, 0, none⟩ = false ∧ W.cell? ⟨gb9, 0, none⟩ = some (.int .u8 a0) ∧ W.cell? ⟨gb5, 0, none⟩ = some (.int .u64 a2)) ∧ Below w.heap.size w W)
     (fun _ _ _ => False)
     (OwnFrom.and (Own.from (fun s A B row hs hg hr => ⟨Nat.lt_of_lt_of_le hs.1 hg.size, hs.2.1, cell_kept hs.2.2.1 hg hr, (frozen_kept hs.2.2.1 hg hr).trans hs.2.2.2.1, cell_kept hs.2.2.2.2.1 hg hr, cell_kept hs.2.2.2.2.2 hg hr⟩) _) (ownFrom_below (Nat.le_refl _) (by simp; omega)))
     (fun _ _ _ _ _ hs _ _ => hs)
     ⟨⟨by simp, inF_zero hx0, pw_cell_below (below_alloc (Below.refl _ W0) _) b10, (World.frozen?_of_block (a := ⟨gb10, 0, none⟩) ((below_alloc (Below.refl _ W0) _).block gb10 lt10)).trans f10, pw_cell_below (below_alloc (Below.refl _ W0) _) b9, pw_cell_below (below_alloc (Below.refl _ W0) _) b5⟩, below_alloc HB0 _⟩
     (fun x => { tmps := #[.int .u8 a0, .slice A1 l1.length c1, .int .u64 a2, undef, undef, .pointer (some ⟨gb5, 0, none⟩), .int .u64 0, .int .i64 0, .int .i64 0, .pointer (some ⟨gb9, 0, none⟩), .pointer (some ⟨gb10, 0, none⟩), undef, .int .u64 x.1.2, .int .u8 a0, .int .u64 a2, .slice Ao9 y138.length co9, .bool true, .bool false, .int .u8 a0, .slice A1 l1.length c1, .slice (some ⟨g20, 0, none⟩) 1 1, .int .i64 0, .int .i64 0, .bool false, undef, .int .u8 a0, .agg #[.int .u8 a0], .slice A1 l1.length c1, .func (.func 74) #[] #[.pointer (some ⟨W0.heap.size, 0, none⟩)], .int .i64 x.1.1, .int .u64 x.1.2, undef, undef, undef, undef, undef, undef, undef, undef], defers := [] }) ?assign ?body ?done ?stop
    case assign =>
     intro l x W K hK
     gi_wp2
     exact hK
    case body =>
     rintro l pre x W ⟨⟨hlt, hi, hc, hf, h9, h5⟩, hB⟩ _
     generalize hs : pre.foldl (fun s x => step a0 a2 x.1.2 s) 0 = s at hi hc
     have hd : 1 ≤ 3 - 1 - 1 := by omega
     have hmx : Try.prog.follows .mixedOrders = true := by kernel_rfl
     have hxv := x.2
     have HSTEP := A_ (show (pre ++ [x]).foldl (fun s x => step a0 a2 x.1.2 s) 0 = (s * a2 + x.1.2) % Go.Proofs.Ytkaongcpekhbdaa.M.P a0 from by rw [List.foldl_append, hs]; exact Int.emod_add_emod _ _ _)
     obtain ⟨k1, hm1⟩ := tot_mul hi hx0
     have hi2 : inF a0 (s * a2 % Go.Proofs.Ytkaongcpekhbdaa.M.P a0) = true := inF_mod hi
     obtain ⟨k2, hm2⟩ := tot_add hi2 hxv
     gi_wp2
     gi_region_with_o (first | (refine ⟨trivial, ?_⟩; gi_at_call 49; refine (CallsIn.inRound l (callsIn_wide.2 (poly_reckoner_mul.calls k1 a0 s a2 _ _ hm1))).mono ?_; rintro e w1 ⟨rfl, hb1⟩; have hc' := pw_cell_below hb1 hc; have h9' := pw_cell_below hb1 h9; have h5' := pw_cell_below hb1 h5; have hf' := (World.frozen?_of_block (a := ⟨gb10, 0, none⟩) (hb1.block gb10 (World.block_lt_of_cell? _ _ hc))).trans hf) | (refine ⟨trivial, ?_⟩; gi_at_call 69; refine (CallsIn.inRound l (callsIn_wide.2 (poly_reckoner_add.calls k2 a0 _ x.1.2 _ _ hm2))).mono ?_; rintro e w2 ⟨rfl, hb2⟩; have hc'' := pw_cell_below hb2 hc'; have h9'' := pw_cell_below hb2 h9'; have h5'' := pw_cell_below hb2 h5'; have hf'' := (World.frozen?_of_block (a := ⟨gb10, 0, none⟩) (hb2.block gb10 (World.block_lt_of_cell? _ _ hc'))).trans hf'))
     all_goals gi_wp2
     all_goals (
      obtain ⟨q1, q2, q3, q4, q5, q6, q7, q8⟩ := round_end (B := (W0.alloc (.cells #[.slice A1 l1.length c1] 22)).heap.size) hB hb1 hb2 hlt GE10.out lt10 hc'' hf'' h9'' h5'' ne9 ne5b (.int .u64 ((s * a2 + x.1.2) % Go.Proofs.Ytkaongcpekhbdaa.M.P a0))
      exact ⟨q1, q2, ⟨⟨q8, by rw [HSTEP.out]; exact inF_mod hi, by rw [HSTEP.out]; exact q3, q4, q5, q6⟩, q7⟩⟩)
    case done =>
     rintro D ys W hD rfl ⟨⟨_, _, hc, _, _, _⟩, hB⟩ hK
     go_wp2
     refine ⟨by simp, .inl ⟨_, _, rfl, run_takeDeferred hK, ?_⟩⟩
     exact ⟨_, results_tmp2 rfl _ _ _, by rw [fold_upto l1 a0 a2 (fun j => ⟨(((l1.length - 1 - j : Nat) : Int), rd l1 ((l1.length - 1 - j : Nat) : Int)), hL _⟩) (fun _ _ => rfl), HS.out]; rfl, hB.trans (belowK_b (w := w) (Nat.le_refl _) W D _ _ (by simp at hD; omega) hK rfl rfl)⟩
    case stop =>
     rintro D c pre W _ _ h _
     exact h.elim
   ·rw [if_neg cf] at H
    cases H
  ·rw [if_neg ce] at H
   simp only [Option.some.injEq, Prod.mk.injEq] at H
   obtain ⟨rfl, rfl⟩ := H
   have ceb0 : (e1 == 0) = false := beq_eq_false_iff_ne.mpr ce
   have ceb1 : (e1 != 0) = true := bne_iff_ne.mpr ce
   go_enter Try.func58, Try.ntmps58
   go_wp2_with (first | ((with_reducible refine gate_dst (N := 5) rfl ?_); refine box_event ?hg (N := 5) ?hd (cs := #[.int .u64 a2]) (t := 49) ?hr ?_; (case hd => rfl); (case hg => rfl); (case hr => first | (go_simp; done) | (go_simp; rfl)); intro gb5 hg5 w5 hbox hb; have hc5 : w5.cell? ⟨gb5, 0, none⟩ = some (.int .u64 a2) := (blk_cell hbox 0).trans rfl; have hf5 := blk_frozen hbox 0; have GS5 := A_ (show w.heap.size ≤ gb5 from by rw [hg5]; exact below_size hb_); clear hbox hg5; have n0_ := A_ (below_step hb_ hb); clear HB; have HB := n0_; clear n0_; clear hb) | ((with_reducible refine gate_dst (N := 15) rfl ?_); refine Kd.R_lit (Kd.int .u64) _ 49 ?hg (N := 15) ?hd (xs := ([a2] : List Int)) (inner := [.int .u64 a2]) (ok := fun _ => True) (okp := fun _ => True) ?hr ?hp (fun _ hk => hk) trivial (Below.refl _ _) (Nat.le_refl _) (by simp) ?_; (case hd => rfl); (case hg => rfl); (case hr => first | (go_simp; done) | (go_simp; rfl)); (case hp => exact (Reps.one (show Kd.M (Kd.int .u64) _ _ _ a2 [.int .u64 a2] from rfl) (Reps.none _ _))); intro v139 w15 ho8 hb hg_ hnew_; clear hg_ hnew_; (first | rw [← Ny138.out] at ho8 | (simp only [Int.reduceToNat] at ho8; rw [← Ny138.out] at ho8)); have hc15 := pw_cell_below hb hc5; have n1_ := A_ (Kd.R_lower ho8 (below_size hb_)); have n0_ := A_ (below_step hb_ hb); clear HB; have HB := n0_; clear n0_; have HO140 := n1_; clear n1_ hb ho8 hc5; obtain ⟨Ao9, co9, eo9⟩ := Kd.R_slice HO140.out; subst eo9) | ((with_reducible refine gate_callee (f := 45) rfl ?_); refine goesM_ (some 16) Try.func45 #[.int .u8 a0, .slice Ao9 y138.length co9] ?_; (with_reducible refine (field_In.calls k a0 _ _ y138 true _ ?side1 ?side2 A4.out).mono ?_); (case side1 => repeat (first | exact (Kd.R_reads' HO140.out).2.2 | (with_reducible refine Kd.C_alloc ?_ _) | (with_reducible refine Kd.C_drewN ?_ _) | (with_reducible refine Kd.C_drew ?_))); (case side2 => exact (Kd.R_reads' HO140.out).2.1); rintro e w16 ⟨rfl, hb⟩; refine ⟨_, rfl, ?_⟩; have hc16 := pw_cell_below hb hc15; have n0_ := A_ (below_step hb_ hb); clear HB; have HB := n0_; clear n0_; clear HO140 hb hc15) | ((with_reducible refine gate_dst (N := 20) rfl ?_); refine lit_rows (l := l1) (A := A1) (c := c1) ?hg ?hr ?hC HC1.out ?_; (case hg => rfl); (case hr => first | (go_simp; done) | (go_simp; rfl)); (case hC => exact Kd.C_below HR1.out hb_); intro g20 w20 hC20 hb; have HC20 := Aside0.mk hC20; have hc20 := pw_cell_below hb hc16; have n0_ := A_ (below_step hb_ hb); clear HB; have HB := n0_; clear n0_; clear hb hC20 hc16) | ((with_reducible refine gate_callee (f := 46) rfl ?_); refine goesM_ (some 21) Try.func46 #[.int .u8 a0, .slice (some ⟨g20, 0, none⟩) 1 1] ?_; (refine (poly_may.calls k a0 (some ⟨g20, 0, none⟩) 1 [l1] e1 _ HC20.out (Nat.le_refl _) A5.out).mono ?_); rintro e w21 ⟨rfl, hb⟩; refine ⟨_, rfl, ?_⟩; have hc21 := pw_cell_below hb hc20; have n0_ := A_ (below_step hb_ hb); clear HB; have HB := n0_; clear n0_; clear HC20 hb hc20))
   go_ret2
   exact ⟨rfl, hb_⟩
end
end Go.Proofs.Ytkaongcpekhbdaa.PTreeFresh
