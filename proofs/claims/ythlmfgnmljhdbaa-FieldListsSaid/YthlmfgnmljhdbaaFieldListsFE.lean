/- Lists of layer 1: all inverses at one time, sums of products; copies. -/
import Derived.Test.YthlmfgnmljhdbaaMG
import Derived.Test.YthlmfgnmljhdbaaFieldListsFD
namespace Go.Proofs.Ythlmfgnmljhdbaa.FFieldLists
open Go.RowKit Go Go.Proofs.YthlmfgnmljhdbaaW.PrintWords Go.Proofs.YthlmfgnmljhdbaaW.PrintLast Go.Proofs.YthlmfgnmljhdbaaW.PrintMore Go.Proofs.Ythlmfgnmljhdbaa.M Go.Proofs.Ythlmfgnmljhdbaa.PFieldLists

/-- All inverses, or the error. -/
def batch (f : Int) (l : List Int) : List Int × Int := if ok f l then (if (0 : Int) ∈ l then ([], 5) else (l.map (inv (P f)), 0)) else ([], 2)
theorem batch_down {p : Int} {w : Bool} (h : PF p w) (hp : Pr p) (l : List Int) (he : El p l) (hn : l.length < 17592186044416) : ∀ (d : Nat) (A : List Int) (over : Int), d ≤ l.length → A.length = l.length → 0 ≤ over → over < p →
    (∀ j, j < d → rd A (j : Int) = prd (l.take j) % p) → (∀ j, d ≤ j → j < l.length → rd A (j : Int) = inv p (rd l (j : Int))) → over * prd (l.take d) % p = 1 →
    Ev (fun k => field_Batch.l1 k l A over ((d : Int) - 1) p w) (l.map (inv p), 0) := by
  have hlo := hp.lo
  intro d
  induction d with
  | zero =>
    intro A over _ hA _ _ _ h2 _
    refine Ev.step (fun k => by rw [field_Batch.l1]) ?_
    refine Ev.neg (by omega) (Ev.fix ?_)
    congr 2
    refine ext_rd (by simp [hA]) fun i hi => ?_
    rw [rd_map _ (by omega)]
    exact h2 i (by omega) (by omega)
  | succ d ih =>
    intro A over hd hA ho ho1 h1 h2 h3
    have hx : (((d + 1 : Nat) : Int) - 1) = ((d : Nat) : Int) := by omega
    have hi : wrap64 (((d : Nat) : Int) - 1) = (d : Int) - 1 := w64_in (by omega) (by omega)
    have hld : d < l.length := by omega
    have e1 := h1 d (by omega)
    have r1 := emod_rng (p := p) (prd (l.take d)) (by omega)
    rw [← e1] at r1
    have r2 := he.rd hld
    refine Ev.step (fun k => by rw [field_Batch.l1]) ?_
    rw [hx, hi]
    refine Ev.pos (by omega) (Ev.pos (by omega) (Ev.pos (by omega) (Ev.bnd (mul_eq h r1.1 r1.2 ho ho1) (Ev.pos (by omega) (Ev.bnd (mul_eq h ho ho1 r2.1 r2.2) ?_)))))
    have r3 := emod_rng (p := p) (over * rd l (d : Int)) (by omega)
    rw [prd_take hld] at h3
    refine ih _ _ (by omega) (by simp [hA]) r3.1 r3.2 ?_ ?_ ?_
    · intro j hj
      rw [Int.toNat_natCast, rd_set (by omega), if_neg (by omega)]
      exact h1 j (by omega)
    · intro j hj hj1
      rw [Int.toNat_natCast, rd_set (by omega)]
      split
      · rename_i e; subst e
        have : rd A (d : Int) * over * rd l (d : Int) % p = 1 := by
          rw [e1, ← h3, Int.mul_assoc, emod_mul_l]; congr 1; grind
        exact inv_unique hp this
      · exact h2 j (by omega) hj1
    · rw [emod_mul_l, ← h3]; congr 1; grind
theorem batch_up {p : Int} {w : Bool} (h : PF p w) (hp : Pr p) (l : List Int) (he : El p l) (hn : l.length < 17592186044416) : ∀ (d i : Nat) (A : List Int) (acc : Int), i + d = l.length → A.length = l.length → acc = prd (l.take i) % p →
    (∀ j, j < i → rd A (j : Int) = prd (l.take j) % p) → (∀ j, j < i → rd l (j : Int) ≠ 0) →
    Ev (fun k => field_Batch.l0 k l A acc l (l.length : Int) (i : Int) p w) (if (0 : Int) ∈ l then ([], 5) else (l.map (inv p), 0)) := by
  have hlo := hp.lo
  intro d
  induction d with
  | zero =>
    intro i A acc hi hA hacc h1 h2
    have hz : (0 : Int) ∉ l := by
      intro hm
      obtain ⟨j, hj, e⟩ := mem_rd hm
      exact h2 j (by omega) e
    rw [if_neg hz]
    refine Ev.step (fun k => by rw [field_Batch.l0]) ?_
    have r := emod_rng (p := p) (prd (l.take i)) (by omega)
    refine Ev.neg (by omega) (Ev.bind (inv_eq h (by omega) (by omega)) ?_)
    rw [w64_in (by omega) (by omega)]
    have hil : i = l.length := by omega
    have nz : prd l % p ≠ 0 := prd_nz hp l fun x hx e => by
      have := he x hx
      rw [Int.emod_eq_of_lt this.1 this.2] at e
      exact hz (e ▸ hx)
    have ea : acc = prd l % p := by rw [hacc, hil, List.take_length]
    have e2 : acc ^ (p - 2).toNat % p = inv p (prd l) := by rw [ea, emod_pow_l]; rfl
    rw [e2]
    have r2 := inv_rng hp (prd l)
    refine batch_down h hp l he hn l.length A _ (by omega) hA r2.1 r2.2 (fun j hj => h1 j (by omega)) (fun j hj hj1 => absurd hj1 (by omega)) ?_
    rw [List.take_length]
    exact mul_inv hp nz
  | succ d ih =>
    intro i A acc hi hA hacc h1 h2
    have hlt : i < l.length := by omega
    refine Ev.step (fun k => by rw [field_Batch.l0]) ?_
    refine Ev.pos (by omega) (Ev.pos (by omega) (Ev.pos (by omega) (Ev.ite (fun c => ?_) (fun c => ?_))))
    · rw [if_pos (c ▸ rd_mem hlt)]
      exact Ev.fix rfl
    · have r := emod_rng (p := p) (prd (l.take i)) (by omega)
      have r2 := he.rd hlt
      refine Ev.pos (by omega) (Ev.bnd (mul_eq h (by omega) (by omega) r2.1 r2.2) ?_)
      rw [w64_succ (by omega)]
      refine ih (i + 1) _ _ (by omega) (by simp [hA]) ?_ ?_ ?_
      · rw [hacc, emod_mul_l, prd_take hlt]
      · intro j hj
        rw [Int.toNat_natCast, rd_set (by omega)]
        split
        · rename_i e; rw [← e]; exact hacc
        · exact h1 j (by omega)
      · intro j hj
        by_cases e : j = i
        · rw [e]; exact c
        · exact h2 j (by omega)
theorem Batch_eq (f : Int) (l : List Int) (hw : Wd l) (hn : l.length < 17592186044416) : Ev (fun k => field_Batch.f k f l) (batch f l) := by
  unfold field_Batch.f batch
  refine Ev.bind (asked_eq f l (by omega)) ?_
  by_cases h : ok f l = true
  · simp only [h, if_true]
    have h0 := ok_iff.1 h; have hp := ok_pr h
    have he : El (P f) l := fun x hx => ⟨(hw x hx).1, h0.2 x hx⟩
    refine Ev.pos (by omega) (Ev.pos (by omega) ?_)
    exact batch_up (pf_of h0.1) hp l he hn l.length 0 _ _ (by omega) (by simp) (by simp [prd, one_mod hp]) (fun j hj => absurd hj (by omega)) (fun j hj => absurd hj (by omega))
  · simp only [h]
    exact Ev.fix (by simp)
theorem rBatch_loop {f : Int} (hp : Pr (P f)) (l : List Int) (he : El (P f) l) (hn : l.length < 17592186044416) : ∀ (d i : Nat), i + d = l.length → (0 : Int) ∉ l.take i →
    Ev (fun k => conclaveref01_Batch.l0 k f l ((l.take i).map (inv (P f))) (i : Int)) (if (0 : Int) ∈ l then ([], 5) else (l.map (inv (P f)), 0)) := by
  have hlo := hp.lo
  intro d
  induction d with
  | zero =>
    intro i hi hz
    rw [List.take_of_length_le (by omega)] at hz
    rw [if_neg hz]
    refine Ev.step (fun k => by rw [conclaveref01_Batch.l0]) ?_
    refine Ev.neg (by omega) (Ev.fix ?_)
    rw [List.take_of_length_le (by omega)]
  | succ d ih =>
    intro i hi hz
    have hlt : i < l.length := by omega
    have r := he.rd hlt
    have hok : ok f [1, rd l (i : Int)] = true := by rw [ok_iff]; refine ⟨by omega, fun x hx => ?_⟩; simp at hx; rcases hx with rfl | rfl <;> omega
    refine Ev.step (fun k => by rw [conclaveref01_Batch.l0]) ?_
    refine Ev.pos (by omega) (Ev.pos (by omega) (Ev.bind (rDiv f 1 _ (by decide) r.1) ?_))
    unfold rquot
    rw [if_pos hok]
    by_cases c : rd l (i : Int) = 0
    · rw [if_pos c, if_pos (c ▸ rd_mem hlt)]
      exact Ev.fix (by simp)
    · rw [if_neg c]
      have e1 : 1 * ((rd l (i : Int)) ^ (P f - 2).toNat % P f) % P f = inv (P f) (rd l (i : Int)) := by rw [Int.one_mul, Int.emod_emod]; rfl
      rw [e1]
      refine Ev.pos rfl (Ev.pos (by rw [List.length_map, List.length_take]; omega) ?_)
      rw [w64_succ (by omega)]
      have := ih (i + 1) (by omega) (by
        rw [take_rd hlt, List.mem_append]
        rintro (hm | hm)
        · exact hz hm
        · simp at hm; exact c hm.symm)
      rw [take_rd hlt, List.map_append] at this
      exact this
theorem rBatch (f : Int) (l : List Int) (hw : Wd l) (hn : l.length < 17592186044416) : Ev (fun k => conclaveref01_Batch.f k f l) (batch f l) := by
  unfold conclaveref01_Batch.f batch
  refine Ev.bind (rIn f l (by omega)) ?_
  by_cases h : ok f l = true
  · simp only [h, if_true]
    have h0 := ok_iff.1 h; have hp := ok_pr h
    have he : El (P f) l := fun x hx => ⟨(hw x hx).1, h0.2 x hx⟩
    exact rBatch_loop hp l he hn l.length 0 (by omega) (by simp)
  · simp only [h]
    exact Ev.fix (by simp)
/-- The sum of products. -/
def dot : List Int → List Int → Int
  | a :: x, b :: y => a * b + dot x y
  | _, _ => 0
theorem dot_snoc : ∀ (x y : List Int) (a b : Int), x.length = y.length → dot (x ++ [a]) (y ++ [b]) = dot x y + a * b
  | [], [], _, _, _ => by simp [dot]
  | [], _ :: _, _, _, h => by simp at h
  | _ :: _, [], _, _, h => by simp at h
  | c :: x, d :: y, a, b, h => by
    have := dot_snoc x y a b (by simpa using h)
    simp [dot, this, Int.add_assoc]
def dotE (f : Int) (a b : List Int) : Int × Int := if ok f a ∧ ok f b then (if a.length = b.length then (dot a b % P f, 0) else (0, 3)) else (0, 2)
theorem dot_loop {p : Int} {w : Bool} (h : PF p w) (a b : List Int) (ha : El p a) (hb : El p b) (hl : a.length = b.length) (hn : a.length < 17592186044416) : ∀ (d i : Nat), i + d = a.length →
    Ev (fun k => field_Dot.l0 k b (dot (a.take i) (b.take i) % p) a (a.length : Int) (i : Int) p w) (dot a b % p, 0) := by
  have hlo := h.lo
  intro d
  induction d with
  | zero =>
    intro i hi
    refine Ev.step (fun k => by rw [field_Dot.l0]) ?_
    refine Ev.neg (by omega) (Ev.fix ?_)
    rw [List.take_of_length_le (by omega), List.take_of_length_le (by omega)]
  | succ d ih =>
    intro i hi
    have r1 := ha.rd (i := i) (by omega)
    have r2 := hb.rd (i := i) (by omega)
    have r3 := emod_rng (p := p) (rd a (i : Int) * rd b (i : Int)) (by omega)
    have r4 := emod_rng (p := p) (dot (a.take i) (b.take i)) (by omega)
    refine Ev.step (fun k => by rw [field_Dot.l0]) ?_
    refine Ev.pos (by omega) (Ev.pos (by omega) (Ev.pos (by omega) (Ev.pos (by omega) (Ev.bnd (mul_eq h r1.1 r1.2 r2.1 r2.2) (Ev.bnd (add_eq h r4.1 r4.2 r3.1 r3.2) ?_)))))
    have := ih (i + 1) (by omega)
    rw [take_rd (l := a) (by omega), take_rd (l := b) (by omega), dot_snoc _ _ _ _ (by simp; omega)] at this
    rw [w64_succ (by omega), emod_add_l, emod_add_r]
    exact this
theorem Dot_eq (f : Int) (a b : List Int) (ha : Wd a) (hb : Wd b) (hn : a.length < 17592186044416) (hm : b.length < 17592186044416) : Ev (fun k => field_Dot.f k f a b) (dotE f a b) := by
  unfold field_Dot.f
  by_cases h : ok f a = true
  · have h0 := ok_iff.1 h; have hp := ok_pr h
    refine Ev.bind (asked_yes (by omega) h) ?_
    refine Ev.pos rfl (Ev.bind (in_eq (P f) (wd f) b (by omega)) (Ev.step (fun k => by rw [field_Dot.j0]) ?_))
    have e : ok f b = allIn (P f) b := by unfold ok; simp [h0.1]
    by_cases h2 : allIn (P f) b = true
    · refine Ev.neg (by simp [h2]) ?_
      by_cases hl : a.length = b.length
      · have eR : dotE f a b = (dot a b % P f, 0) := by unfold dotE; simp [h, h2, e, hl]
        rw [eR]
        have := dot_loop (pf_of h0.1) a b (ha.el (by simpa [ok, h0.1] using h)) (hb.el h2) hl hn a.length 0 (by omega)
        exact Ev.pos (by omega) (by simpa [dot] using this)
      · have eR : dotE f a b = (0, 3) := by unfold dotE; simp [h, h2, e, hl]
        rw [eR]
        exact Ev.neg (by omega) (Ev.fix rfl)
    · have eR : dotE f a b = (0, 2) := by unfold dotE; simp [h2, e]
      rw [eR]
      exact Ev.pos (by simp [h2]) (Ev.fix rfl)
  · have eR : dotE f a b = (0, 2) := by unfold dotE; simp [h]
    rw [eR]
    refine Ev.bind (asked_no (by omega) h) ?_
    refine Ev.neg (by decide) (Ev.step (fun k => by rw [field_Dot.j0]) ?_)
    exact Ev.pos rfl (Ev.fix rfl)
theorem rDot_loop {f : Int} (hp : Pr (P f)) (a b : List Int) (ha : El (P f) a) (hb : El (P f) b) (hl : a.length = b.length) (hn : a.length < 17592186044416) : ∀ (d i : Nat), i + d = a.length →
    Ev (fun k => conclaveref01_Dot.l0 k f a b (dot (a.take i) (b.take i) % P f) (i : Int)) (dot a b % P f, 0) := by
  have hlo := hp.lo; have hhi := hp.hi
  intro d
  induction d with
  | zero =>
    intro i hi
    refine Ev.step (fun k => by rw [conclaveref01_Dot.l0]) ?_
    refine Ev.neg (by omega) (Ev.fix ?_)
    rw [List.take_of_length_le (by omega), List.take_of_length_le (by omega)]
  | succ d ih =>
    intro i hi
    have r1 := ha.rd (i := i) (by omega)
    have r2 := hb.rd (i := i) (by omega)
    have r3 := emod_rng (p := P f) (rd a (i : Int) * rd b (i : Int)) (by omega)
    have r4 := emod_rng (p := P f) (dot (a.take i) (b.take i)) (by omega)
    refine Ev.step (fun k => by rw [conclaveref01_Dot.l0]) ?_
    refine Ev.pos (by omega) (Ev.bnd (rP f) (Ev.pos (by omega) (Ev.pos (by omega) (Ev.bind (rTimes (by omega) (by omega) r1.1 r1.2 r2.1 (by omega)) (Ev.bnd (rSum (by omega) (by omega) r4.1 r4.2 r3.1 r3.2) ?_)))))
    have := ih (i + 1) (by omega)
    rw [take_rd (l := a) (by omega), take_rd (l := b) (by omega), dot_snoc _ _ _ _ (by simp; omega)] at this
    rw [w64_succ (by omega), emod_add_l, emod_add_r]
    exact this
theorem rDot (f : Int) (a b : List Int) (ha : Wd a) (hb : Wd b) (hn : a.length < 17592186044416) (hm : b.length < 17592186044416) : Ev (fun k => conclaveref01_Dot.f k f a b) (dotE f a b) := by
  unfold conclaveref01_Dot.f
  refine Ev.bind (rIn f a (by omega)) ?_
  by_cases h : ok f a = true
  · have h0 := ok_iff.1 h; have hp := ok_pr h
    refine Ev.pos h (Ev.bind (rIn f b (by omega)) (Ev.step (fun k => by rw [conclaveref01_Dot.j0]) ?_))
    by_cases h2 : ok f b = true
    · refine Ev.neg (by simp [h2]) ?_
      by_cases hl : a.length = b.length
      · have eR : dotE f a b = (dot a b % P f, 0) := by unfold dotE; simp [h, h2, hl]
        rw [eR]
        have := rDot_loop hp a b (ha.el (by simpa [ok, h0.1] using h)) (hb.el (by simpa [ok, h0.1] using h2)) hl hn a.length 0 (by omega)
        exact Ev.pos (by omega) (by simpa [dot] using this)
      · have eR : dotE f a b = (0, 3) := by unfold dotE; simp [h, h2, hl]
        rw [eR]
        exact Ev.neg (by omega) (Ev.fix rfl)
    · have eR : dotE f a b = (0, 2) := by unfold dotE; simp [h2]
      rw [eR]
      exact Ev.pos (by simp [h2]) (Ev.fix rfl)
  · have eR : dotE f a b = (0, 2) := by unfold dotE; simp [h]
    rw [eR]
    refine Ev.neg h (Ev.step (fun k => by rw [conclaveref01_Dot.j0]) ?_)
    exact Ev.pos rfl (Ev.fix rfl)

end Go.Proofs.Ythlmfgnmljhdbaa.FFieldLists
