/- Polynomials by their coefficients: sums, differences, products. Plain. -/
import Derived.Test.YtbjanbbjjnoecaaMP
namespace Go.Proofs.Ytbjanbbjjnoecaa.M
open Go.RowKit Go Go.Proofs.YtbjanbbjjnoecaaW.PrintWords Go.Proofs.YtbjanbbjjnoecaaW.PrintLast Go.Proofs.YtbjanbbjjnoecaaW.PrintMore

/-- The list of g 0, .., g (n - 1). -/
def pol (n : Nat) (g : Nat → Int) : List Int := (List.range n).map g
theorem pol_len {n : Nat} {g : Nat → Int} : (pol n g).length = n := by simp [pol]
theorem cf_pol {n : Nat} {g : Nat → Int} {i : Nat} : cf (pol n g) i = if i < n then g i else 0 := by
  by_cases h : i < n
  · rw [if_pos h, cf_lt (by rw [pol_len]; exact h)]; simp [pol]
  · rw [if_neg h, cf_ge (by rw [pol_len]; omega)]
theorem pol_ext {n : Nat} {g : Nat → Int} {l : List Int} (h : l.length = n) (k : ∀ i, i < n → cf l i = g i) : l = pol n g :=
  ext_cf (by rw [pol_len, h]) fun i => by
    rw [cf_pol]; split
    · exact k i ‹_›
    · exact cf_ge (by omega)
theorem pol_congr {n : Nat} {g g' : Nat → Int} (k : ∀ i, i < n → g i = g' i) : pol n g = pol n g' :=
  pol_ext pol_len fun i hi => by rw [cf_pol, if_pos hi, k i hi]
theorem pol_set {n m : Nat} {g : Nat → Int} {v : Int} (h : m < n) : (pol n g).set m v = pol n (fun i => if i = m then v else g i) :=
  pol_ext (by rw [List.length_set, pol_len]) fun i hi => by
    have e := rd_set (l := pol n g) (i := m) (j := i) (x := v) (by rw [pol_len]; exact h)
    have c := cf_pol (n := n) (g := g) (i := i)
    rw [if_pos hi] at c
    unfold cf at *
    rw [e, c]
    by_cases q : m = i
    · rw [if_pos q, if_pos q.symm]
    · rw [if_neg q, if_neg (fun z => q z.symm)]
theorem pol_zero (n : Nat) : List.replicate n (0 : Int) = pol n (fun _ => 0) :=
  pol_ext (by simp) fun i hi => by rw [cf_lt (by simpa using hi)]; simp
theorem pol_el {p : Int} {n : Nat} {g : Nat → Int} (k : ∀ i, i < n → 0 ≤ g i ∧ g i < p) : El p (pol n g) := by
  intro x hx
  obtain ⟨i, hi, rfl⟩ := List.mem_map.1 hx
  exact k i (List.mem_range.1 hi)
theorem cf_el {p : Int} {l : List Int} (h : El p l) (hp : 0 < p) (i : Nat) : 0 ≤ cf l i ∧ cf l i < p := by
  by_cases c : i < l.length
  · exact h.rd c
  · rw [cf_ge (by omega)]; exact ⟨Int.le_refl _, hp⟩
theorem cf_nil (i : Nat) : cf [] i = 0 := cf_ge (Nat.zero_le _)

/-- Why two lists may not be. -/
def bad (f : Int) (a b : List Int) : Int := if ok f a = true ∧ ok f b = true then (if a.length ≤ 4096 ∧ b.length ≤ 4096 then 0 else 4) else 2
theorem bad_zero {f : Int} {a b : List Int} (h : bad f a b = 0) : ok f a = true ∧ ok f b = true ∧ a.length ≤ 4096 ∧ b.length ≤ 4096 := by
  unfold bad at h
  split at h
  · rename_i c
    split at h
    · rename_i d; exact ⟨c.1, c.2, d.1, d.2⟩
    · cases h
  · cases h
theorem bad_rng (f : Int) (a b : List Int) : bad f a b = 0 ∨ bad f a b = 2 ∨ bad f a b = 4 := by
  unfold bad; split
  · split <;> simp
  · simp
def sumP (p : Int) (a b : List Int) : List Int := trim (pol (max a.length b.length) fun i => (cf a i + cf b i) % p)
def lessP (p : Int) (a b : List Int) : List Int := trim (pol (max a.length b.length) fun i => (cf a i - cf b i) % p)
/-- The products of the first m coefficients of a, gathered at n. -/
def cv (a b : List Int) : Nat → Nat → Int
  | 0, _ => 0
  | m + 1, n => cv a b m n + (if m ≤ n then cf a m * cf b (n - m) else 0)
def mulP (p : Int) (a b : List Int) : List Int := if a = [] ∨ b = [] then [] else pol (a.length + b.length - 1) fun n => cv a b a.length n % p
/-- What stands where j products of the row m have been added. -/
def row (p : Int) (a b : List Int) (m j n : Nat) : Int := (cv a b m n + (if m ≤ n ∧ n < m + j then cf a m * cf b (n - m) else 0)) % p
theorem row_zero (p : Int) (a b : List Int) (m n : Nat) : row p a b m 0 n = cv a b m n % p := by
  unfold row; rw [if_neg (by omega), Int.add_zero]
theorem row_last (p : Int) (a b : List Int) (m n : Nat) : row p a b m b.length n = cv a b (m + 1) n % p := by
  unfold row; rw [cv]
  by_cases h : m ≤ n
  · rw [if_pos h]
    by_cases k : n < m + b.length
    · rw [if_pos ⟨h, k⟩]
    · rw [if_neg (fun z => k z.2), cf_ge (show b.length ≤ n - m by omega)]; simp
  · rw [if_neg h, if_neg (fun z => h z.1)]
theorem row_step (p : Int) (a b : List Int) (m j : Nat) : (row p a b m j (m + j) + cf a m * cf b j % p) % p = row p a b m (j + 1) (m + j) := by
  unfold row
  rw [if_neg (by omega), if_pos (by omega), Int.add_zero, show m + j - m = j by omega, emod_add_l, emod_add_r]
theorem row_other (p : Int) (a b : List Int) (m j n : Nat) (h : n ≠ m + j) : row p a b m (j + 1) n = row p a b m j n := by
  unfold row
  by_cases c : m ≤ n ∧ n < m + j
  · rw [if_pos c, if_pos ⟨c.1, by omega⟩]
  · rw [if_neg c, if_neg (fun z => c ⟨z.1, by omega⟩)]
theorem row_set {p : Int} {a b : List Int} {m j N : Nat} (h : m + j < N) : (pol N (row p a b m j)).set (m + j) ((row p a b m j (m + j) + cf a m * cf b j % p) % p) = pol N (row p a b m (j + 1)) := by
  rw [pol_set h, row_step]
  refine pol_congr fun i _ => ?_
  by_cases c : i = m + j
  · rw [if_pos c, c]
  · rw [if_neg c, row_other p a b m j i c]
theorem row_rng {p : Int} (hp : 0 < p) (a b : List Int) (m j n : Nat) : 0 ≤ row p a b m j n ∧ row p a b m j n < p := ⟨Int.emod_nonneg _ (by omega), Int.emod_lt_of_pos _ hp⟩
/-- Only the top coefficients meet at the top. -/
theorem cv_top (a b : List Int) : ∀ m, m < a.length → cv a b m (a.length + b.length - 2) = 0
  | 0, _ => rfl
  | m + 1, h => by
    rw [cv, cv_top a b m (by omega)]
    split
    · rw [cf_ge (l := b) (by omega)]; simp
    · simp
theorem mulP_top {p : Int} (hp : Pr p) {a b : List Int} (ha : trim a = a) (hb : trim b = b) (ea : El p a) (eb : El p b) : trim (mulP p a b) = mulP p a b := by
  unfold mulP
  split
  · rfl
  · rename_i c
    have ca : a ≠ [] := fun e => c (.inl e)
    have cb : b ≠ [] := fun e => c (.inr e)
    have la : a.length ≠ 0 := fun e => ca (List.length_eq_zero_iff.1 e)
    have lb : b.length ≠ 0 := fun e => cb (List.length_eq_zero_iff.1 e)
    have ta := trim_top (l := a) (by rw [ha]; exact ca)
    have tb := trim_top (l := b) (by rw [hb]; exact cb)
    rw [ha] at ta; rw [hb] at tb
    have hp0 := hp.lo
    have ra := cf_el ea (by omega) (a.length - 1)
    have rb := cf_el eb (by omega) (b.length - 1)
    have top : cv a b a.length (a.length + b.length - 2) % p ≠ 0 := by
      obtain ⟨m, hm⟩ : ∃ m, a.length = m + 1 := ⟨a.length - 1, by omega⟩
      have z := cv_top a b m (by omega)
      have e : cv a b a.length (a.length + b.length - 2) = cf a (a.length - 1) * cf b (b.length - 1) := by
        conv => lhs; arg 3; rw [hm]
        rw [cv, z, if_pos (by omega), Int.zero_add, show a.length - 1 = m by omega, show a.length + b.length - 2 - m = b.length - 1 by omega]
      rw [e]
      exact no_zero hp (by rw [Int.emod_eq_of_lt ra.1 ra.2]; exact ta) (by rw [Int.emod_eq_of_lt rb.1 rb.2]; exact tb)
    generalize hL : pol (a.length + b.length - 1) (fun n => cv a b a.length n % p) = L
    have hlen : L.length = a.length + b.length - 1 := by rw [← hL, pol_len]
    have htop : cf L (L.length - 1) ≠ 0 := by
      rw [hlen, ← hL, cf_pol, if_pos (by omega), show a.length + b.length - 1 - 1 = a.length + b.length - 2 by omega]
      exact top
    have h1 : (trim L).length = L.length := by
      refine Nat.le_antisymm (trim_le L) (Nat.le_of_not_lt fun q => htop ?_)
      rw [← cf_trim]
      exact cf_ge (by omega)
    exact ext_cf h1 fun i => cf_trim L i
def Padd (f : Int) (a b : List Int) : List Int × Int := if bad f a b = 0 then (sumP (P f) a b, 0) else ([], bad f a b)
def Psub (f : Int) (a b : List Int) : List Int × Int := if bad f a b = 0 then (lessP (P f) a b, 0) else ([], bad f a b)
def Pmul (f : Int) (a b : List Int) : List Int × Int :=
  if bad f a b = 0 then (if trim a = [] ∨ trim b = [] then ([], 0) else if (trim a).length + (trim b).length - 1 > 4096 then ([], 4) else (mulP (P f) (trim a) (trim b), 0)) else ([], bad f a b)

end Go.Proofs.Ytbjanbbjjnoecaa.M
