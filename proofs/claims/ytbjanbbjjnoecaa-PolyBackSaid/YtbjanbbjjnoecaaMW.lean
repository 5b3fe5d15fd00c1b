/- Polynomials as functions of whole numbers: what holds of them modulo p is reckoned with numbers, and coefficients follow. Plain. -/
import Derived.Test.YtbjanbbjjnoecaaMV
namespace Go.Proofs.Ytbjanbbjjnoecaa.M
open Go.RowKit Go Go.Proofs.YtbjanbbjjnoecaaW.PrintWords Go.Proofs.YtbjanbbjjnoecaaW.PrintLast Go.Proofs.YtbjanbbjjnoecaaW.PrintMore

/-- The value at a whole number. -/
def ev (l : List Int) (x : Int) : Int := sm l x l.length
theorem sm_ge {l : List Int} {x : Int} : ∀ n, l.length ≤ n → sm l x n = ev l x := by
  intro n h
  induction n with
  | zero => unfold ev; rw [show l.length = 0 by omega]
  | succ n ih =>
    by_cases c : l.length = n + 1
    · unfold ev; rw [c]
    · rw [sm, ih (by omega), cf_ge (by omega)]; simp
theorem sm_congr {a b : List Int} {x : Int} (h : ∀ i, cf a i = cf b i) : ∀ n, sm a x n = sm b x n
  | 0 => rfl
  | n + 1 => by rw [sm, sm, sm_congr h n, h]
theorem ev_congr {a b : List Int} (h : ∀ i, cf a i = cf b i) (x : Int) : ev a x = ev b x := by
  rw [← sm_ge (max a.length b.length) (by omega), ← sm_ge (l := b) (max a.length b.length) (by omega), sm_congr h]
theorem ev_nil (x : Int) : ev [] x = 0 := rfl
theorem ev_cons (c : Int) (r : List Int) (x : Int) : ev (c :: r) x = c + x * ev r x := by
  unfold ev; rw [List.length_cons, sm_cons]
theorem ev_trim (l : List Int) (x : Int) : ev (trim l) x = ev l x := ev_congr (cf_trim l) x
theorem sm_lin {a b c : List Int} {s t : Int} {x : Int} (h : ∀ i, cf c i = s * cf a i + t * cf b i) : ∀ n, sm c x n = s * sm a x n + t * sm b x n
  | 0 => by simp [sm]
  | n + 1 => by rw [sm, sm, sm, sm_lin h n, h]; grind
theorem ev_lin {a b c : List Int} {s t : Int} (x : Int) (h : ∀ i, cf c i = s * cf a i + t * cf b i) : ev c x = s * ev a x + t * ev b x := by
  rw [← sm_ge (max a.length (max b.length c.length)) (by omega), ← sm_ge (l := a) (max a.length (max b.length c.length)) (by omega), ← sm_ge (l := b) (max a.length (max b.length c.length)) (by omega), sm_lin h]
theorem sm_shift {a c : List Int} {k : Int} {m : Nat} {x : Int} (h : ∀ i, cf c i = if m ≤ i then k * cf a (i - m) else 0) : ∀ n, sm c x (n + m) = k * x ^ m * sm a x n := by
  have z : ∀ n, n ≤ m → sm c x n = 0 := by
    intro n
    induction n with
    | zero => intro _; rfl
    | succ n ih => intro hn; rw [sm, ih (by omega), h, if_neg (by omega)]; simp
  intro n
  induction n with
  | zero => rw [Nat.zero_add, z m (Nat.le_refl _)]; simp [sm]
  | succ n ih =>
    rw [show n + 1 + m = (n + m) + 1 by omega, sm, ih, h, if_pos (by omega), Nat.add_sub_cancel, sm, Int.pow_add]
    grind
theorem ev_shift {a c : List Int} {k : Int} {m : Nat} (x : Int) (h : ∀ i, cf c i = if m ≤ i then k * cf a (i - m) else 0) : ev c x = k * x ^ m * ev a x := by
  rw [← sm_ge (max a.length c.length + m) (by omega), sm_shift h, sm_ge _ (by omega)]
/-- The convolution's value. -/
theorem ev_cv {a b : List Int} (x : Int) : ∀ (m : Nat) (c : List Int), (∀ i, cf c i = cv a b m i) → ev c x = sm a x m * ev b x
  | 0, c, h => by
    rw [ev_congr (b := []) (fun i => by rw [h, cf_nil]; rfl), ev_nil, sm]; simp
  | m + 1, c, h => by
    have zcv : ∀ (k i : Nat), k + b.length ≤ i → cv a b k i = 0 := by
      intro k
      induction k with
      | zero => intro i _; rfl
      | succ k ih =>
        intro i hi
        rw [cv, ih i (by omega)]
        split
        · rw [cf_ge (l := b) (by omega)]; simp
        · simp
    have h1 : ∀ i, cf (pol (m + b.length) (cv a b m)) i = cv a b m i := fun i => by
      rw [cf_pol]; split
      · rfl
      · exact (zcv m i (by omega)).symm
    have e1 := ev_cv x m _ h1
    have h2 : ∀ i, cf (pol (m + b.length) fun i => if m ≤ i then cf a m * cf b (i - m) else 0) i = if m ≤ i then cf a m * cf b (i - m) else 0 := fun i => by
      rw [cf_pol]; split
      · rfl
      · split
        · rw [cf_ge (l := b) (by omega)]; simp
        · rfl
    have e2 := ev_shift x h2
    have e3 := ev_lin (c := c) (a := pol (m + b.length) (cv a b m)) (b := pol (m + b.length) fun i => if m ≤ i then cf a m * cf b (i - m) else 0) (s := 1) (t := 1) x (fun i => by rw [h, cv, h1 i, h2 i]; simp)
    rw [e3, e1, e2, sm]
    grind
/-- A polynomial that is 0 from some number on has no coefficients. -/
theorem ev_zero : ∀ (l : List Int), (∃ N, ∀ x, N < x → ev l x = 0) → ∀ i, cf l i = 0
  | [], _, i => cf_nil i
  | c :: r, ⟨N, h⟩, i => by
    have hc : c = 0 := by
      let x : Int := max (max N c.natAbs) 0 + 1
      have hx : N < x := by omega
      have hx2 : (c.natAbs : Int) < x := by omega
      have e := h x hx
      rw [ev_cons] at e
      have d : x ∣ c := ⟨- ev r x, by grind⟩
      have d2 := Int.natAbs_dvd_natAbs.2 d
      by_cases z : c = 0
      · exact z
      · have := Nat.le_of_dvd (by omega) d2
        omega
    have hr := ev_zero r ⟨max N 0, fun x hx => by
      have e := h x (by omega)
      rw [ev_cons, hc, Int.zero_add] at e
      rcases Int.mul_eq_zero.1 e with e | e
      · omega
      · exact e⟩
    cases i with
    | zero => rw [cf_cons_zero]; exact hc
    | succ i => rw [cf_cons_succ]; exact hr i

/-- A polynomial's function. -/
def Pf (φ : Int → Int) : Prop := ∃ l, ∀ x, φ x = ev l x
theorem Pf.of (l : List Int) : Pf (ev l) := ⟨l, fun _ => rfl⟩
theorem Pf.const (c : Int) : Pf fun _ => c := ⟨[c], fun x => by rw [ev_cons, ev_nil]; simp⟩
theorem Pf.X : Pf fun x => x := ⟨[0, 1], fun x => by simp [ev_cons, ev_nil]⟩
theorem Pf.lin {φ ψ : Int → Int} (s t : Int) (h : Pf φ) (k : Pf ψ) : Pf fun x => s * φ x + t * ψ x := by
  obtain ⟨a, ha⟩ := h
  obtain ⟨b, hb⟩ := k
  refine ⟨pol (max a.length b.length) fun i => s * cf a i + t * cf b i, fun x => ?_⟩
  dsimp only
  rw [ha, hb]
  refine (ev_lin x fun i => ?_).symm
  rw [cf_pol]; split
  · rfl
  · rw [cf_ge (l := a) (by omega), cf_ge (l := b) (by omega)]; simp
theorem Pf.congr {φ ψ : Int → Int} (h : Pf φ) (e : ∀ x, ψ x = φ x) : Pf ψ := by
  obtain ⟨a, ha⟩ := h
  exact ⟨a, fun x => (e x).trans (ha x)⟩
theorem Pf.add {φ ψ : Int → Int} (h : Pf φ) (k : Pf ψ) : Pf fun x => φ x + ψ x := (Pf.lin 1 1 h k).congr fun x => by simp
theorem Pf.sub {φ ψ : Int → Int} (h : Pf φ) (k : Pf ψ) : Pf fun x => φ x - ψ x := (Pf.lin 1 (-1) h k).congr fun x => by grind
theorem Pf.neg {φ : Int → Int} (h : Pf φ) : Pf fun x => - φ x := (Pf.lin (-1) 0 h h).congr fun x => by grind
theorem Pf.mulL {ψ : Int → Int} (k : Pf ψ) : ∀ a : List Int, Pf fun x => ev a x * ψ x
  | [] => (Pf.const 0).congr fun x => by rw [ev_nil]; simp
  | c :: r => by
    have ih := Pf.mulL k r
    have sh : Pf fun x => x * (ev r x * ψ x) := by
      obtain ⟨l, hl⟩ := ih
      exact ⟨0 :: l, fun x => by rw [ev_cons, ← hl x]; simp⟩
    exact (Pf.lin c 1 k sh).congr fun x => by rw [ev_cons]; grind
theorem Pf.mul {φ ψ : Int → Int} (h : Pf φ) (k : Pf ψ) : Pf fun x => φ x * ψ x := by
  obtain ⟨a, ha⟩ := h
  exact (Pf.mulL k a).congr fun x => by rw [ha]
theorem Pf.pow {φ : Int → Int} (h : Pf φ) : ∀ n : Nat, Pf fun x => φ x ^ n
  | 0 => (Pf.const 1).congr fun x => by simp
  | n + 1 => ((Pf.pow h n).mul h).congr fun x => by rw [Int.pow_succ]

/-- Two polynomials' functions are the same modulo p. -/
def Cg (p : Int) (φ ψ : Int → Int) : Prop := ∃ δ, Pf δ ∧ ∀ x, φ x = ψ x + p * δ x
theorem Cg.refl {p : Int} (φ : Int → Int) : Cg p φ φ := ⟨fun _ => 0, Pf.const 0, fun x => by simp⟩
theorem Cg.of {p : Int} {φ ψ : Int → Int} (h : ∀ x, φ x = ψ x) : Cg p φ ψ := ⟨fun _ => 0, Pf.const 0, fun x => by rw [h]; simp⟩
theorem Cg.symm {p : Int} {φ ψ : Int → Int} (h : Cg p φ ψ) : Cg p ψ φ := by
  obtain ⟨d, hd, e⟩ := h
  exact ⟨fun x => - d x, hd.neg, fun x => by rw [e]; grind⟩
theorem Cg.trans {p : Int} {φ ψ χ : Int → Int} (h : Cg p φ ψ) (k : Cg p ψ χ) : Cg p φ χ := by
  obtain ⟨d, hd, e⟩ := h
  obtain ⟨d2, hd2, e2⟩ := k
  exact ⟨fun x => d x + d2 x, hd.add hd2, fun x => by dsimp only; rw [e, e2]; grind⟩
theorem Cg.add {p : Int} {φ ψ φ' ψ' : Int → Int} (h : Cg p φ ψ) (k : Cg p φ' ψ') : Cg p (fun x => φ x + φ' x) (fun x => ψ x + ψ' x) := by
  obtain ⟨d, hd, e⟩ := h
  obtain ⟨d2, hd2, e2⟩ := k
  exact ⟨fun x => d x + d2 x, hd.add hd2, fun x => by dsimp only; rw [e, e2]; grind⟩
theorem Cg.sub {p : Int} {φ ψ φ' ψ' : Int → Int} (h : Cg p φ ψ) (k : Cg p φ' ψ') : Cg p (fun x => φ x - φ' x) (fun x => ψ x - ψ' x) := by
  obtain ⟨d, hd, e⟩ := h
  obtain ⟨d2, hd2, e2⟩ := k
  exact ⟨fun x => d x - d2 x, hd.sub hd2, fun x => by dsimp only; rw [e, e2]; grind⟩
theorem Cg.mul {p : Int} {φ ψ φ' ψ' : Int → Int} (h : Cg p φ ψ) (k : Cg p φ' ψ') (hψ : Pf ψ) (hφ' : Pf φ') : Cg p (fun x => φ x * φ' x) (fun x => ψ x * ψ' x) := by
  obtain ⟨d, hd, e⟩ := h
  obtain ⟨d2, hd2, e2⟩ := k
  exact ⟨fun x => d x * φ' x + ψ x * d2 x, (hd.mul hφ').add (hψ.mul hd2), fun x => by dsimp only; rw [e x, e2 x]; grind⟩
theorem Cg.at {p : Int} {φ ψ : Int → Int} (h : Cg p φ ψ) (x : Int) : φ x % p = ψ x % p := by
  obtain ⟨d, _, e⟩ := h
  rw [e]; simp
theorem Cg.of_cf {p : Int} {a b : List Int} (h : ∀ i, cf a i % p = cf b i % p) : Cg p (ev a) (ev b) := by
  refine ⟨ev (pol (max a.length b.length) fun i => (cf a i - cf b i) / p), Pf.of _, fun x => ?_⟩
  have e : ∀ i, cf (pol (max a.length b.length) fun i => (cf a i - cf b i) / p) i = (cf a i - cf b i) / p := fun i => by
    rw [cf_pol]; split
    · rfl
    · rw [cf_ge (l := a) (by omega), cf_ge (l := b) (by omega)]; simp
  have k := ev_lin (c := a) (s := 1) (t := p) (a := b) (b := pol (max a.length b.length) fun i => (cf a i - cf b i) / p) x (fun i => by
    rw [e]
    have d : p ∣ cf a i - cf b i := Int.dvd_of_emod_eq_zero (by rw [Int.sub_emod, h]; simp)
    rw [Int.mul_ediv_cancel' d]; grind)
  rw [k]; grind
theorem Cg.cf {p : Int} {a b : List Int} (h : Cg p (ev a) (ev b)) (i : Nat) : cf a i % p = cf b i % p := by
  obtain ⟨d, ⟨l, hl⟩, e⟩ := h
  have z : ∀ j, M.cf (pol (max a.length (max b.length l.length)) fun j => M.cf a j - M.cf b j - p * M.cf l j) j = M.cf a j - M.cf b j - p * M.cf l j := fun j => by
    rw [cf_pol]; split
    · rfl
    · rw [cf_ge (l := a) (by omega), cf_ge (l := b) (by omega), cf_ge (l := l) (by omega)]; simp
  have k1 : ∀ j, M.cf (pol (max a.length b.length) fun j => M.cf a j - M.cf b j) j = M.cf a j - M.cf b j := fun j => by
    rw [cf_pol]; split
    · rfl
    · rw [cf_ge (l := a) (by omega), cf_ge (l := b) (by omega)]; simp
  have y := ev_zero (pol (max a.length (max b.length l.length)) fun j => M.cf a j - M.cf b j - p * M.cf l j) ⟨0, fun x _ => by
    rw [ev_lin (s := 1) (t := -p) (a := pol (max a.length b.length) fun j => M.cf a j - M.cf b j) (b := l) x (fun j => by rw [z, k1]; grind),
      ev_lin (c := pol (max a.length b.length) fun j => M.cf a j - M.cf b j) (s := 1) (t := -1) (a := a) (b := b) x (fun j => by rw [k1]; grind), e, hl]
    grind⟩ i
  rw [z] at y
  have e2 : M.cf a i = M.cf b i + p * M.cf l i := by omega
  rw [e2]; simp
/-- Trimmed lists of elements that are the same modulo p are the same. -/
theorem Cg.same {p : Int} (hp : 0 < p) {a b : List Int} (h : Cg p (ev a) (ev b)) (ea : El p a) (eb : El p b) (ta : trim a = a) (tb : trim b = b) : a = b := by
  rw [← ta, ← tb]
  refine trim_ext fun i => ?_
  have k := h.cf i
  rwa [Int.emod_eq_of_lt (cf_el ea hp i).1 (cf_el ea hp i).2, Int.emod_eq_of_lt (cf_el eb hp i).1 (cf_el eb hp i).2] at k

theorem trim_idem_of {l r : List Int} (h : r = trim l) : trim r = r := by rw [h, trim_trim]
theorem Cg.trim {p : Int} (l : List Int) : Cg p (ev (M.trim l)) (ev l) := Cg.of (ev_trim l)
theorem Cg.pol {p : Int} {n : Nat} {g : Nat → Int} {l : List Int} (h : ∀ i, M.cf l i % p = (if i < n then g i else 0) % p) : Cg p (ev (M.pol n g)) (ev l) :=
  Cg.of_cf fun i => by rw [cf_pol, h]
theorem sumP_cg (p : Int) (a b : List Int) : Cg p (ev (sumP p a b)) (fun x => ev a x + ev b x) := by
  refine (Cg.trim _).trans ?_
  have e : ∀ i, M.cf (M.pol (max a.length b.length) fun i => M.cf a i + M.cf b i) i = M.cf a i + M.cf b i := fun i => by
    rw [cf_pol]; split
    · rfl
    · rw [cf_ge (l := a) (by omega), cf_ge (l := b) (by omega)]; simp
  refine (Cg.of_cf (b := M.pol (max a.length b.length) fun i => M.cf a i + M.cf b i) fun i => ?_).trans (Cg.of fun x => ?_)
  · rw [cf_pol, cf_pol]; split
    · rw [Int.emod_emod]
    · rfl
  · rw [ev_lin (s := 1) (t := 1) (a := a) (b := b) x (fun j => by rw [e]; grind)]; grind
theorem lessP_cg (p : Int) (a b : List Int) : Cg p (ev (lessP p a b)) (fun x => ev a x - ev b x) := by
  refine (Cg.trim _).trans ?_
  have e : ∀ i, M.cf (M.pol (max a.length b.length) fun i => M.cf a i - M.cf b i) i = M.cf a i - M.cf b i := fun i => by
    rw [cf_pol]; split
    · rfl
    · rw [cf_ge (l := a) (by omega), cf_ge (l := b) (by omega)]; simp
  refine (Cg.of_cf (b := M.pol (max a.length b.length) fun i => M.cf a i - M.cf b i) fun i => ?_).trans (Cg.of fun x => ?_)
  · rw [cf_pol, cf_pol]; split
    · rw [Int.emod_emod]
    · rfl
  · rw [ev_lin (s := 1) (t := -1) (a := a) (b := b) x (fun j => by rw [e]; grind)]; grind
theorem scaleP_cg (p c : Int) (a : List Int) : Cg p (ev (scaleP p c a)) (fun x => ev a x * c) := by
  refine (Cg.trim _).trans ?_
  have e : ∀ i, M.cf (M.pol a.length fun i => M.cf a i * c) i = M.cf a i * c := fun i => by
    rw [cf_pol]; split
    · rfl
    · rw [cf_ge (l := a) (by omega)]; simp
  refine (Cg.of_cf (b := M.pol a.length fun i => M.cf a i * c) fun i => ?_).trans (Cg.of fun x => ?_)
  · rw [cf_pol, cf_pol]; split
    · rw [Int.emod_emod]
    · rfl
  · rw [ev_lin (s := c) (t := 0) (a := a) (b := a) x (fun j => by rw [e]; grind)]; grind
theorem cv_ge (a b : List Int) : ∀ (k i : Nat), k + b.length ≤ i + 1 → b ≠ [] → k ≤ i + 1 → cv a b k i = 0
  | 0, _, _, _, _ => rfl
  | k + 1, i, h, hb, hk => by
    rw [cv, cv_ge a b k i (by omega) hb (by omega)]
    have : b.length ≠ 0 := fun e => hb (List.length_eq_zero_iff.1 e)
    split
    · rw [cf_ge (l := b) (by omega)]; simp
    · simp
theorem mulP_cg (p : Int) (a b : List Int) : Cg p (ev (mulP p a b)) (fun x => ev a x * ev b x) := by
  unfold mulP
  split
  · rename_i h
    refine Cg.of fun x => ?_
    rcases h with rfl | rfl <;> simp [ev_nil]
  · rename_i h
    have hb : b ≠ [] := fun z => h (.inr z)
    have hb0 : b.length ≠ 0 := fun e => hb (List.length_eq_zero_iff.1 e)
    have ha0 : a.length ≠ 0 := fun e => h (.inl (List.length_eq_zero_iff.1 e))
    have e : ∀ i, M.cf (M.pol (a.length + b.length - 1) (cv a b a.length)) i = cv a b a.length i := fun i => by
      rw [cf_pol]; split
      · rfl
      · exact (cv_ge a b a.length i (by omega) hb (by omega)).symm
    refine (Cg.of_cf (b := M.pol (a.length + b.length - 1) (cv a b a.length)) fun i => ?_).trans (Cg.of fun x => ev_cv x _ _ e)
    rw [cf_pol, cf_pol]; split
    · rw [Int.emod_emod]
    · rfl

/-- A canonical polynomial: elements, no nought at the end. -/
structure Cn (p : Int) (l : List Int) : Prop where
  el : El p l
  tr : trim l = l
theorem Cn.nil {p : Int} : Cn p [] := ⟨El.nil, trim_nil⟩
theorem Cn.trim {p : Int} {l : List Int} (h : El p l) : Cn p (M.trim l) := ⟨trim_el h, trim_trim l⟩
theorem sumP_cn {p : Int} (hp : 0 < p) (a b : List Int) : Cn p (sumP p a b) := Cn.trim (pol_el fun i _ => ⟨Int.emod_nonneg _ (by omega), Int.emod_lt_of_pos _ hp⟩)
theorem lessP_cn {p : Int} (hp : 0 < p) (a b : List Int) : Cn p (lessP p a b) := Cn.trim (pol_el fun i _ => ⟨Int.emod_nonneg _ (by omega), Int.emod_lt_of_pos _ hp⟩)
theorem scaleP_cn {p : Int} (hp : 0 < p) (c : Int) (a : List Int) : Cn p (scaleP p c a) := Cn.trim (pol_el fun i _ => ⟨Int.emod_nonneg _ (by omega), Int.emod_lt_of_pos _ hp⟩)
theorem mulP_el {p : Int} (hp : 0 < p) (a b : List Int) : El p (mulP p a b) := by
  unfold mulP; split
  · exact El.nil
  · exact pol_el fun i _ => ⟨Int.emod_nonneg _ (by omega), Int.emod_lt_of_pos _ hp⟩
theorem mulP_cn {p : Int} (hp : Pr p) {a b : List Int} (ha : Cn p a) (hb : Cn p b) : Cn p (mulP p a b) := ⟨mulP_el (by have := hp.lo; omega) a b, mulP_top hp ha.tr hb.tr ha.el hb.el⟩
theorem mulP_len {p : Int} {a b : List Int} (ha : a ≠ []) (hb : b ≠ []) : (mulP p a b).length = a.length + b.length - 1 := by
  unfold mulP; rw [if_neg (fun z => by rcases z with z | z <;> contradiction), pol_len]
theorem Cn.ext {p : Int} (hp : 0 < p) {a b : List Int} (ha : Cn p a) (hb : Cn p b) (h : Cg p (ev a) (ev b)) : a = b := h.same hp ha.el hb.el ha.tr hb.tr
theorem Cn.top {p : Int} {l : List Int} (h : Cn p l) (hl : l ≠ []) : M.cf l (l.length - 1) ≠ 0 := by
  have t := trim_top (l := l) (by rw [h.tr]; exact hl)
  rwa [h.tr] at t
/-- What is the same as a shorter list modulo p. -/
theorem Cn.len_le {p : Int} (hp : 0 < p) {a b : List Int} (ha : Cn p a) (h : Cg p (ev a) (ev b)) : a.length ≤ b.length := by
  by_cases c : a = []
  · rw [c]; exact Nat.zero_le _
  · have t := ha.top c
    have la : a.length ≠ 0 := fun e => c (List.length_eq_zero_iff.1 e)
    refine Nat.le_of_not_lt fun q => t ?_
    have k := h.cf (a.length - 1)
    rw [cf_ge (l := b) (by omega), Int.emod_eq_of_lt (cf_el ha.el hp _).1 (cf_el ha.el hp _).2] at k
    simpa using k

end Go.Proofs.Ytbjanbbjjnoecaa.M
