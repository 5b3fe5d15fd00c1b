/- Inverses modulo the two primes; products of lists. Plain. -/
import Derived.Test.YtbjanbbjjnoecaaMB
namespace Go.Proofs.Ytbjanbbjjnoecaa.M
open Go.RowKit Go Go.Proofs.YtbjanbbjjnoecaaW.PrintWords Go.Proofs.YtbjanbbjjnoecaaW.PrintLast Go.Proofs.YtbjanbbjjnoecaaW.PrintMore

/-- The inverse, as a power. -/
def inv (p a : Int) : Int := a ^ (p - 2).toNat % p
theorem inv_rng {p : Int} (hp : Pr p) (a : Int) : 0 ≤ inv p a ∧ inv p a < p := by
  have := hp.lo
  exact ⟨Int.emod_nonneg _ (by omega), Int.emod_lt_of_pos _ (by omega)⟩
theorem fermat_mod {p : Int} (hp : Pr p) {a : Int} (ha : a % p ≠ 0) : a ^ (p - 1).toNat % p = 1 := by
  have h := hp.lo
  have h0 : 0 ≤ a % p := Int.emod_nonneg _ (by omega)
  have h1 : a % p < p := Int.emod_lt_of_pos _ (by omega)
  rw [← emod_pow_l]
  exact fermat hp (by omega) h1
theorem inv_mul {p : Int} (hp : Pr p) {a : Int} (ha : a % p ≠ 0) : a * inv p a % p = 1 := by
  have h := hp.lo
  unfold inv
  rw [emod_mul_r, Int.mul_comm, ← Int.pow_succ, show (p - 2).toNat.succ = (p - 1).toNat by omega]
  exact fermat_mod hp ha
theorem mul_inv {p : Int} (hp : Pr p) {a : Int} (ha : a % p ≠ 0) : inv p a * a % p = 1 := by
  rw [Int.mul_comm]; exact inv_mul hp ha
theorem one_mod {p : Int} (hp : Pr p) : (1 : Int) % p = 1 := by have := hp.lo; exact Int.emod_eq_of_lt (by omega) (by omega)
theorem inv_unique {p : Int} (hp : Pr p) {a x : Int} (h : x * a % p = 1) : x % p = inv p a := by
  have h0 := one_mod hp
  have ha : a % p ≠ 0 := by
    intro e
    rw [← emod_mul_r, e] at h
    simp at h
  have : x * (a * inv p a) % p = x % p := by rw [← emod_mul_r, inv_mul hp ha, Int.mul_one]
  rw [← this, ← Int.mul_assoc, ← emod_mul_l, h, Int.one_mul]
  exact Int.emod_eq_of_lt (inv_rng hp a).1 (inv_rng hp a).2
theorem no_zero {p : Int} (hp : Pr p) {a b : Int} (ha : a % p ≠ 0) (hb : b % p ≠ 0) : a * b % p ≠ 0 := by
  intro e
  apply hb
  have : inv p a * (a * b) % p = b % p := by rw [← Int.mul_assoc, ← emod_mul_l, mul_inv hp ha, Int.one_mul]
  rw [← this, ← emod_mul_r, e]; simp

/-- The product of a list. -/
def prd : List Int → Int
  | [] => 1
  | x :: l => x * prd l
theorem prd_append (a b : List Int) : prd (a ++ b) = prd a * prd b := by
  induction a with
  | nil => simp [prd]
  | cons x a ih => simp [prd, ih, Int.mul_assoc]
theorem prd_one (x : Int) : prd [x] = x := by simp [prd]
theorem prd_take {l : List Int} {i : Nat} (h : i < l.length) : prd (l.take (i + 1)) = prd (l.take i) * rd l (i : Int) := by
  rw [take_rd h, prd_append, prd_one]
theorem prd_nz {p : Int} (hp : Pr p) : ∀ l : List Int, (∀ x ∈ l, x % p ≠ 0) → prd l % p ≠ 0
  | [], _ => by rw [prd, one_mod hp]; decide
  | x :: l, h => no_zero hp (h x (by simp)) (prd_nz hp l fun y hy => h y (by simp [hy]))

theorem rd_set {l : List Int} {i j : Nat} {x : Int} (h : i < l.length) : rd (l.set i x) (j : Int) = if i = j then x else rd l (j : Int) := by
  unfold rd
  simp only [Int.toNat_natCast, List.getD_eq_getElem?_getD, List.getElem?_set]
  by_cases e : i = j
  · subst e; simp [h]
  · simp [e]
theorem ext_rd {a b : List Int} (h : a.length = b.length) (k : ∀ i, i < a.length → rd a (i : Int) = rd b (i : Int)) : a = b := by
  refine List.ext_getElem h fun i h1 h2 => ?_
  have := k i h1
  rwa [rd_lt h1, rd_lt h2] at this
theorem rd_map {l : List Int} (f : Int → Int) {i : Nat} (h : i < l.length) : rd (l.map f) (i : Int) = f (rd l (i : Int)) := by
  rw [rd_lt (by simpa using h), rd_lt h]; simp
theorem mem_rd {l : List Int} {x : Int} (h : x ∈ l) : ∃ i, i < l.length ∧ rd l (i : Int) = x := by
  obtain ⟨i, hi, e⟩ := List.getElem_of_mem h
  exact ⟨i, hi, (rd_lt hi).trans e⟩
theorem rd_mem {l : List Int} {i : Nat} (h : i < l.length) : rd l (i : Int) ∈ l := by rw [rd_lt h]; exact List.getElem_mem h

end Go.Proofs.Ytbjanbbjjnoecaa.M
