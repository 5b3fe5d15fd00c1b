/- Division of polynomials with remainder; it is the only one; divisors. Plain. -/
import Derived.Test.YtbjanbbjjnoecaaMW
namespace Go.Proofs.Ytbjanbbjjnoecaa.M
open Go.RowKit Go Go.Proofs.YtbjanbbjjnoecaaW.PrintWords Go.Proofs.YtbjanbbjjnoecaaW.PrintLast Go.Proofs.YtbjanbbjjnoecaaW.PrintMore

/-- The remainder, once c times the divisor at place d is taken off. -/
def stepR (p c : Int) (d : Nat) (q r : List Int) : List Int := trim (pol r.length fun i => if d ≤ i then (cf r i - c * cf q (i - d)) % p else cf r i)
/-- n steps at the most: the quotient's coefficients, and what is left. -/
def dm (p top : Int) (q : List Int) : Nat → (Nat → Int) → List Int → (Nat → Int) × List Int
  | 0, g, r => (g, r)
  | n + 1, g, r => if r.length < q.length then (g, r) else
      dm p top q n (fun i => if i = r.length - q.length then cf r (r.length - 1) * top % p else g i) (stepR p (cf r (r.length - 1) * top % p) (r.length - q.length) q r)
theorem stepR_cn {p : Int} (hp : 0 < p) (c : Int) (d : Nat) (q : List Int) {r : List Int} (h : Cn p r) : Cn p (stepR p c d q r) := by
  refine Cn.trim (pol_el fun i _ => ?_)
  split
  · exact ⟨Int.emod_nonneg _ (by omega), Int.emod_lt_of_pos _ hp⟩
  · exact cf_el h.el hp i
theorem stepR_len {p : Int} (hp : Pr p) {top : Int} {q r : List Int} (hq0 : q ≠ []) (hr : Cn p r) (hl : q.length ≤ r.length) (ht : cf q (q.length - 1) * top % p = 1) :
    (stepR p (cf r (r.length - 1) * top % p) (r.length - q.length) q r).length < r.length := by
  have hlo := hp.lo
  have q0 : q.length ≠ 0 := fun e => hq0 (List.length_eq_zero_iff.1 e)
  have le : (stepR p (cf r (r.length - 1) * top % p) (r.length - q.length) q r).length ≤ r.length := Nat.le_trans (trim_le _) (by rw [pol_len]; exact Nat.le_refl _)
  refine Nat.lt_of_le_of_ne le fun e => ?_
  have hc := stepR_cn (by omega) (cf r (r.length - 1) * top % p) (r.length - q.length) q hr
  have t := hc.top (fun z => by rw [z] at e; simp at e; omega)
  rw [e] at t
  apply t
  unfold stepR
  rw [cf_trim, cf_pol, if_pos (by omega), if_pos (by omega), show r.length - 1 - (r.length - q.length) = q.length - 1 by omega]
  have k : (cf r (r.length - 1) * top % p) * cf q (q.length - 1) % p = cf r (r.length - 1) % p := by
    rw [emod_mul_l, Int.mul_assoc, Int.mul_comm top, ← emod_mul_r, ht, Int.mul_one]
  rw [← emod_sub_r, k, emod_sub_r, Int.sub_self, Int.zero_emod]
theorem stepR_cg (p c : Int) (d : Nat) (q r : List Int) (h : d + q.length ≤ r.length) : Cg p (ev (stepR p c d q r)) (fun x => ev r x - c * x ^ d * ev q x) := by
  refine (Cg.trim _).trans ?_
  have e : ∀ i, cf (pol r.length fun i => if d ≤ i then cf r i - c * cf q (i - d) else cf r i) i = if d ≤ i then cf r i - c * cf q (i - d) else cf r i := fun i => by
    rw [cf_pol]; split
    · rfl
    · rw [cf_ge (l := r) (by omega)]
      split
      · rw [cf_ge (l := q) (by omega)]; simp
      · rfl
  have s : ∀ i, cf (pol r.length fun i => if d ≤ i then c * cf q (i - d) else 0) i = if d ≤ i then c * cf q (i - d) else 0 := fun i => by
    rw [cf_pol]; split
    · rfl
    · split
      · rw [cf_ge (l := q) (by omega)]; simp
      · rfl
  refine (Cg.of_cf (b := pol r.length fun i => if d ≤ i then cf r i - c * cf q (i - d) else cf r i) fun i => ?_).trans (Cg.of fun x => ?_)
  · rw [cf_pol, cf_pol]; split
    · split
      · rw [Int.emod_emod]
      · rfl
    · rfl
  · rw [ev_lin (s := 1) (t := -1) (a := r) (b := pol r.length fun i => if d ≤ i then c * cf q (i - d) else 0) x (fun j => by rw [e, s]; split <;> grind), ev_shift x s]
    grind
theorem ev_put {N d : Nat} {c : Int} {g : Nat → Int} (hd : d < N) (hg : g d = 0) (x : Int) : ev (pol N fun i => if i = d then c else g i) x = ev (pol N g) x + c * x ^ d := by
  have s : ∀ i, cf (pol N fun i => if i = d then c else 0) i = if d ≤ i then c * cf [1] (i - d) else 0 := fun i => by
    rw [cf_pol]
    by_cases h : i = d
    · rw [if_pos (by omega), if_pos h, if_pos (by omega), h, Nat.sub_self]; simp [cf_cons_zero]
    · rw [if_neg h]
      by_cases h2 : d ≤ i
      · rw [if_pos h2, cf_ge (l := [1]) (by simp; omega)]; simp
      · rw [if_neg h2]; simp
  rw [ev_lin (s := 1) (t := 1) (a := pol N g) (b := pol N fun i => if i = d then c else 0) x (fun j => by
    rw [cf_pol, cf_pol, cf_pol]
    by_cases h : j = d
    · subst h; simp [hg]
    · simp [h]), ev_shift x s]
  simp [ev_cons, ev_nil]
theorem dm_inv {p : Int} (hp : Pr p) {q : List Int} (hq0 : q ≠ []) {top : Int} (ht : cf q (q.length - 1) * top % p = 1) (L : Nat) : ∀ (n : Nat) (g : Nat → Int) (r : List Int), Cn p r → r.length ≤ n → r.length ≤ L →
    (∀ i, (i + q.length ≤ r.length ∨ L < i + q.length) → g i = 0) → (∀ i, 0 ≤ g i ∧ g i < p) →
    Cn p (dm p top q n g r).2 ∧ (dm p top q n g r).2.length < q.length ∧ (∀ i, L < i + q.length → (dm p top q n g r).1 i = 0) ∧ (∀ i, 0 ≤ (dm p top q n g r).1 i ∧ (dm p top q n g r).1 i < p) ∧
      ∀ N, L + 1 ≤ N + q.length → Cg p (fun x => ev (pol N (dm p top q n g r).1) x * ev q x + ev (dm p top q n g r).2 x) (fun x => ev (pol N g) x * ev q x + ev r x) := by
  have hlo := hp.lo
  have q0 : q.length ≠ 0 := fun e => hq0 (List.length_eq_zero_iff.1 e)
  intro n
  induction n with
  | zero =>
    intro g r hr hn hL hg hb
    exact ⟨hr, by show r.length < _; omega, fun i hi => hg i (.inr hi), hb, fun N _ => Cg.refl _⟩
  | succ n ih =>
    intro g r hr hn hL hg hb
    rw [dm]
    by_cases c : r.length < q.length
    · rw [if_pos c]
      exact ⟨hr, c, fun i hi => hg i (.inr hi), hb, fun N _ => Cg.refl _⟩
    · rw [if_neg c]
      have hl := stepR_len hp hq0 hr (by omega) ht
      have hc := stepR_cn (by omega) (cf r (r.length - 1) * top % p) (r.length - q.length) q hr
      obtain ⟨a1, a2, a3, a4, a5⟩ := ih (fun i => if i = r.length - q.length then cf r (r.length - 1) * top % p else g i) _ hc (by omega) (by omega)
        (fun i hi => by
          rw [if_neg (by omega)]
          exact hg i (by omega))
        (fun i => by
          split
          · exact ⟨Int.emod_nonneg _ (by omega), Int.emod_lt_of_pos _ (by omega)⟩
          · exact hb i)
      refine ⟨a1, a2, a3, a4, fun N hN => (a5 N hN).trans ?_⟩
      have k := stepR_cg p (cf r (r.length - 1) * top % p) (r.length - q.length) q r (by omega)
      refine ((Cg.refl (p := p) fun x => ev (pol N fun i => if i = r.length - q.length then cf r (r.length - 1) * top % p else g i) x * ev q x).add k).trans (Cg.of fun x => ?_)
      rw [ev_put (by omega) (hg _ (by omega))]
      grind
/-- The one quotient and the one remainder. -/
theorem div_one {p : Int} (hp : Pr p) {q s t : List Int} (hq : Cn p q) (hq0 : q ≠ []) (hs : Cn p s) (ht : t.length < q.length) (h : Cg p (fun x => ev s x * ev q x) (ev t)) : s = [] := by
  have hlo := hp.lo
  refine Classical.byContradiction fun c => ?_
  have k := (mulP_cg p s q).trans h
  have l := (mulP_cn hp hs hq).len_le (by omega) k
  rw [mulP_len c hq0] at l
  have : s.length ≠ 0 := fun e => c (List.length_eq_zero_iff.1 e)
  omega
/-- a is divided by b: the quotient and the remainder. -/
def dmP (p : Int) (a b : List Int) : List Int × List Int :=
  (trim (pol (a.length + 1) (dm p (inv p (cf b (b.length - 1))) b a.length (fun _ => 0) a).1), (dm p (inv p (cf b (b.length - 1))) b a.length (fun _ => 0) a).2)
def Pdm (f : Int) (a b : List Int) : List Int × List Int × Int :=
  if bad f a b = 0 then (if trim b = [] then ([], [], 5) else ((dmP (P f) (trim a) (trim b)).1, (dmP (P f) (trim a) (trim b)).2, 0)) else ([], [], bad f a b)
theorem top_inv {p : Int} (hp : Pr p) {b : List Int} (hb : Cn p b) (hb0 : b ≠ []) : cf b (b.length - 1) * inv p (cf b (b.length - 1)) % p = 1 := by
  have hlo := hp.lo
  have r := cf_el hb.el (by omega) (b.length - 1)
  exact inv_mul hp (by rw [Int.emod_eq_of_lt r.1 r.2]; exact hb.top hb0)
theorem dmP_inv {p : Int} (hp : Pr p) {a b : List Int} (ha : Cn p a) (hb : Cn p b) (hb0 : b ≠ []) :
    Cn p (dmP p a b).2 ∧ (dmP p a b).2.length < b.length ∧ (∀ i, a.length < i + b.length → (dm p (inv p (cf b (b.length - 1))) b a.length (fun _ => 0) a).1 i = 0) ∧ (∀ i, 0 ≤ (dm p (inv p (cf b (b.length - 1))) b a.length (fun _ => 0) a).1 i ∧ (dm p (inv p (cf b (b.length - 1))) b a.length (fun _ => 0) a).1 i < p) ∧
      ∀ N, a.length + 1 ≤ N + b.length → Cg p (fun x => ev (pol N (dm p (inv p (cf b (b.length - 1))) b a.length (fun _ => 0) a).1) x * ev b x + ev (dmP p a b).2 x) (fun x => ev (pol N fun _ => 0) x * ev b x + ev a x) :=
  dm_inv hp hb0 (top_inv hp hb hb0) a.length a.length (fun _ => 0) a ha (Nat.le_refl _) (Nat.le_refl _) (fun _ _ => rfl) (fun _ => ⟨Int.le_refl _, by have := hp.lo; omega⟩)
/-- What a quotient and a remainder are. -/
theorem dmP_spec {p : Int} (hp : Pr p) {a b : List Int} (ha : Cn p a) (hb : Cn p b) (hb0 : b ≠ []) :
    Cn p (dmP p a b).1 ∧ Cn p (dmP p a b).2 ∧ (dmP p a b).2.length < b.length ∧ ((dmP p a b).1 = [] ∨ (dmP p a b).1.length + b.length ≤ a.length + 1) ∧ Cg p (fun x => ev (dmP p a b).1 x * ev b x + ev (dmP p a b).2 x) (ev a) := by
  have hlo := hp.lo
  obtain ⟨a1, a2, a3, a4, a5⟩ := dmP_inv hp ha hb hb0
  have c1 : Cn p (dmP p a b).1 := Cn.trim (pol_el fun i _ => a4 i)
  refine ⟨c1, a1, a2, ?_, ?_⟩
  · by_cases c : (dmP p a b).1 = []
    · exact .inl c
    · have t := c1.top c
      have l : (dmP p a b).1.length ≠ 0 := fun e => c (List.length_eq_zero_iff.1 e)
      have h : ¬ a.length < (dmP p a b).1.length - 1 + b.length := fun h => t (by
        unfold dmP; dsimp only
        rw [cf_trim, cf_pol]; split
        · exact a3 _ h
        · rfl)
      exact .inr (by omega)
  · refine (Cg.of fun x => ?_).trans ((a5 (a.length + 1) (by omega)).trans (Cg.of fun x => ?_))
    · unfold dmP; dsimp only; rw [ev_trim]
    · rw [ev_congr (a := pol (a.length + 1) fun _ => 0) (b := []) (fun i => by rw [cf_pol, cf_nil]; split <;> rfl), ev_nil]; simp
/-- A quotient and a remainder that come to a are those of the division. -/
theorem dmP_unique {p : Int} (hp : Pr p) {a b s t : List Int} (ha : Cn p a) (hb : Cn p b) (hb0 : b ≠ []) (hs : Cn p s) (ht : Cn p t) (hl : t.length < b.length) (h : Cg p (fun x => ev s x * ev b x + ev t x) (ev a)) :
    (dmP p a b).1 = s ∧ (dmP p a b).2 = t := by
  have hlo := hp.lo
  obtain ⟨a1, a2, a3, _, a5⟩ := dmP_spec hp ha hb hb0
  have e := h.trans a5.symm
  have k : Cg p (fun x => ev (lessP p s (dmP p a b).1) x * ev b x) (ev (lessP p (dmP p a b).2 t)) := by
    refine (((lessP_cg p s (dmP p a b).1).mul (Cg.refl (ev b)) ((Pf.of _).sub (Pf.of _)) (Pf.of _)).trans ?_).trans (lessP_cg p _ _).symm
    refine (Cg.of fun x => ?_).trans ((e.sub (Cg.refl fun x => ev (dmP p a b).1 x * ev b x + ev t x)).trans (Cg.of fun x => ?_)) <;> grind
  have ll : (lessP p (dmP p a b).2 t).length < b.length := by
    have : (lessP p (dmP p a b).2 t).length ≤ max (dmP p a b).2.length t.length := Nat.le_trans (trim_le _) (by rw [pol_len]; exact Nat.le_refl _)
    omega
  have z := div_one hp hb hb0 (lessP_cn (by omega) _ _) ll k
  rw [z] at k
  have z2 : lessP p (dmP p a b).2 t = [] := (lessP_cn (by omega) _ _).ext (by omega) Cn.nil (k.symm.trans (Cg.of fun x => by simp [ev_nil]))
  constructor
  · refine a1.ext (by omega) hs ?_
    have := (lessP_cg p s (dmP p a b).1).symm
    rw [z] at this
    refine Cg.symm ?_
    refine (Cg.of fun x => ?_).trans ((this.add (Cg.refl (ev (dmP p a b).1))).trans (Cg.of fun x => ?_))
    · grind
    · simp [ev_nil]
  · refine a2.ext (by omega) ht ?_
    have := (lessP_cg p (dmP p a b).2 t).symm
    rw [z2] at this
    refine (Cg.of fun x => ?_).trans ((this.add (Cg.refl (ev t))).trans (Cg.of fun x => ?_))
    · grind
    · simp [ev_nil]

theorem bad_good {f : Int} (hp : P f ≠ 0) {a b : List Int} (ea : El (P f) a) (eb : El (P f) b) (la : a.length ≤ 4096) (lb : b.length ≤ 4096) : bad f a b = 0 := by
  unfold bad
  rw [if_pos ⟨ok_iff.2 ⟨hp, fun x hx => (ea x hx).2⟩, ok_iff.2 ⟨hp, fun x hx => (eb x hx).2⟩⟩, if_pos ⟨la, lb⟩]
theorem Padd_good {f : Int} (hp : P f ≠ 0) {a b : List Int} (ea : El (P f) a) (eb : El (P f) b) (la : a.length ≤ 4096) (lb : b.length ≤ 4096) : Padd f a b = (sumP (P f) a b, 0) := by
  unfold Padd; rw [if_pos (bad_good hp ea eb la lb)]
theorem Psub_good {f : Int} (hp : P f ≠ 0) {a b : List Int} (ea : El (P f) a) (eb : El (P f) b) (la : a.length ≤ 4096) (lb : b.length ≤ 4096) : Psub f a b = (lessP (P f) a b, 0) := by
  unfold Psub; rw [if_pos (bad_good hp ea eb la lb)]
theorem Pmul_good {f : Int} (hp : P f ≠ 0) {a b : List Int} (ea : El (P f) a) (eb : El (P f) b) (la : a.length ≤ 4096) (lb : b.length ≤ 4096) (h : trim a = [] ∨ trim b = [] ∨ (trim a).length + (trim b).length ≤ 4097) : Pmul f a b = (mulP (P f) (trim a) (trim b), 0) := by
  unfold Pmul; rw [if_pos (bad_good hp ea eb la lb)]
  split
  · rename_i c; unfold mulP; rw [if_pos c]
  · rename_i c
    rw [if_neg]
    rcases h with h | h | h
    · exact absurd (.inl h) c
    · exact absurd (.inr h) c
    · omega
theorem Pdm_good {f : Int} (hp : P f ≠ 0) {a b : List Int} (ea : El (P f) a) (eb : El (P f) b) (la : a.length ≤ 4096) (lb : b.length ≤ 4096) (h : trim b ≠ []) : Pdm f a b = ((dmP (P f) (trim a) (trim b)).1, (dmP (P f) (trim a) (trim b)).2, 0) := by
  unfold Pdm; rw [if_pos (bad_good hp ea eb la lb), if_neg h]
theorem Cn.trimmed {p : Int} {l : List Int} (h : Cn p l) : M.trim l = l := h.tr

end Go.Proofs.Ytbjanbbjjnoecaa.M
