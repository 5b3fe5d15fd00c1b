/- Lists of layer 1: all inverses at one time, sums of products; copies. -/
import Derived.Test.YthlmfgnmljhdbaaMG
import Derived.Test.YthlmfgnmljhdbaaFieldInvertsFD
namespace Go.Proofs.Ythlmfgnmljhdbaa.FFieldInverts
open Go.RowKit Go Go.Proofs.YthlmfgnmljhdbaaW.PrintWords Go.Proofs.YthlmfgnmljhdbaaW.PrintLast Go.Proofs.YthlmfgnmljhdbaaW.PrintMore Go.Proofs.Ythlmfgnmljhdbaa.M Go.Proofs.Ythlmfgnmljhdbaa.PFieldInverts

/-- All inverses, or the error. -/
def batch (f : Int) (l : List Int) : List Int × Int := if ok f l then (if (0 : Int) ∈ l then ([], 5) else (l.map (inv (P f)), 0)) else ([], 2)
theorem batch_down {p : Int} {w : Bool} (h : PF p w) (hp : Pr p) (l : List Int) (he : El p l) (hn : l.length < 17592186044416) : ∀ (d : Nat) (A : List Int) (over : Int), d ≤ l.length → A.length = l.length → 0 ≤ over → over < p →
    (∀ j, j < d → rd A (j : Int) = prd (l.take j) % p) → (∀ j, d ≤ j → j < l.length → rd A (j : Int) = inv p (rd l (j : Int))) → over * prd (l.take d) % p = 1 →
    Ev (fun k => field_Batch.l1 k l A over ((d : Int) - 1) p w) (l.map (inv p), 0) := by
  have hlo := hp.lo
  intro d
  induction d with
  | zero =>
    intro A over _ hA _ _ _ h2 _
    refine Ev.step (fun k => by rw [field_Batch.l1]) ?_
    refine Ev.neg (by omega) (Ev.fix ?_)
    congr 2
    refine ext_rd (by simp [hA]) fun i hi => ?_
    rw [rd_map _ (by omega)]
    exact h2 i (by omega) (by omega)
  | succ d ih =>
    intro A over hd hA ho ho1 h1 h2 h3
    have hx : (((d + 1 : Nat) : Int) - 1) = ((d : Nat) : Int) := by omega
    have hi : wrap64 (((d : Nat) : Int) - 1) = (d : Int) - 1 := w64_in (by omega) (by omega)
    have hld : d < l.length := by omega
    have e1 := h1 d (by omega)
    have r1 := emod_rng (p := p) (prd (l.take d)) (by omega)
    rw [← e1] at r1
    have r2 := he.rd hld
    refine Ev.step (fun k => by rw [field_Batch.l1]) ?_
    rw [hx, hi]
    refine Ev.pos (by omega) (Ev.pos (by omega) (Ev.pos (by omega) (Ev.bnd (mul_eq h r1.1 r1.2 ho ho1) (Ev.pos (by omega) (Ev.bnd (mul_eq h ho ho1 r2.1 r2.2) ?_)))))
    have r3 := emod_rng (p := p) (over * rd l (d : Int)) (by omega)
    rw [prd_take hld] at h3
    refine ih _ _ (by omega) (by simp [hA]) r3.1 r3.2 ?_ ?_ ?_
    · intro j hj
      rw [Int.toNat_natCast, rd_set (by omega), if_neg (by omega)]
      exact h1 j (by omega)
    · intro j hj hj1
      rw [Int.toNat_natCast, rd_set (by omega)]
      split
      · rename_i e; subst e
        have : rd A (d : Int) * over * rd l (d : Int) % p = 1 := by
          rw [e1, ← h3, Int.mul_assoc, emod_mul_l]; congr 1; grind
        exact inv_unique hp this
      · exact h2 j (by omega) hj1
    · rw [emod_mul_l, ← h3]; congr 1; grind
theorem batch_up {p : Int} {w : Bool} (h : PF p w) (hp : Pr p) (l : List Int) (he : El p l) (hn : l.length < 17592186044416) : ∀ (d i : Nat) (A : List Int) (acc : Int), i + d = l.length → A.length = l.length → acc = prd (l.take i) % p →
    (∀ j, j < i → rd A (j : Int) = prd (l.take j) % p) → (∀ j, j < i → rd l (j : Int) ≠ 0) →
    Ev (fun k => field_Batch.l0 k l A acc l (l.length : Int) (i : Int) p w) (if (0 : Int) ∈ l then ([], 5) else (l.map (inv p), 0)) := by
  have hlo := hp.lo
  intro d
  induction d with
  | zero =>
    intro i A acc hi hA hacc h1 h2
    have hz : (0 : Int) ∉ l := by
      intro hm
      obtain ⟨j, hj, e⟩ := mem_rd hm
      exact h2 j (by omega) e
    rw [if_neg hz]
    refine Ev.step (fun k => by rw [field_Batch.l0]) ?_
    have r := emod_rng (p := p) (prd (l.take i)) (by omega)
    refine Ev.neg (by omega) (Ev.bind (inv_eq h (by omega) (by omega)) ?_)
    rw [w64_in (by omega) (by omega)]
    have hil : i = l.length := by omega
    have nz : prd l % p ≠ 0 := prd_nz hp l fun x hx e => by
      have := he x hx
      rw [Int.emod_eq_of_lt this.1 this.2] at e
      exact hz (e ▸ hx)
    have ea : acc = prd l % p := by rw [hacc, hil, List.take_length]
    have e2 : acc ^ (p - 2).toNat % p = inv p (prd l) := by rw [ea, emod_pow_l]; rfl
    rw [e2]
    have r2 := inv_rng hp (prd l)
    refine batch_down h hp l he hn l.length A _ (by omega) hA r2.1 r2.2 (fun j hj => h1 j (by omega)) (fun j hj hj1 => absurd hj1 (by omega)) ?_
    rw [List.take_length]
    exact mul_inv hp nz
  | succ d ih =>
    intro i A acc hi hA hacc h1 h2
    have hlt : i < l.length := by omega
    refine Ev.step (fun k => by rw [field_Batch.l0]) ?_
    refine Ev.pos (by omega) (Ev.pos (by omega) (Ev.pos (by omega) (Ev.ite (fun c => ?_) (fun c => ?_))))
    · rw [if_pos (c ▸ rd_mem hlt)]
      exact Ev.fix rfl
    · have r := emod_rng (p := p) (prd (l.take i)) (by omega)
      have r2 := he.rd hlt
      refine Ev.pos (by omega) (Ev.bnd (mul_eq h (by omega) (by omega) r2.1 r2.2) ?_)
      rw [w64_succ (by omega)]
      refine ih (i + 1) _ _ (by omega) (by simp [hA]) ?_ ?_ ?_
      · rw [hacc, emod_mul_l, prd_take hlt]
      · intro j hj
        rw [Int.toNat_natCast, rd_set (by omega)]
        split
        · rename_i e; rw [← e]; exact hacc
        · exact h1 j (by omega)
      · intro j hj
        by_cases e : j = i
        · rw [e]; exact c
        · exact h2 j (by omega)
theorem Batch_eq (f : Int) (l : List Int) (hw : Wd l) (hn : l.length < 17592186044416) : Ev (fun k => field_Batch.f k f l) (batch f l) := by
  unfold field_Batch.f batch
  refine Ev.bind (asked_eq f l (by omega)) ?_
  by_cases h : ok f l = true
  · simp only [h, if_true]
    have h0 := ok_iff.1 h; have hp := ok_pr h
    have he : El (P f) l := fun x hx => ⟨(hw x hx).1, h0.2 x hx⟩
    refine Ev.pos (by omega) (Ev.pos (by omega) ?_)
    exact batch_up (pf_of h0.1) hp l he hn l.length 0 _ _ (by omega) (by simp) (by simp [prd, one_mod hp]) (fun j hj => absurd hj (by omega)) (fun j hj => absurd hj (by omega))
  · simp only [h]
    exact Ev.fix (by simp)
/-- The sum of products. -/
def dot : List Int → List Int → Int
  | a :: x, b :: y => a * b + dot x y
  | _, _ => 0
theorem dot_snoc : ∀ (x y : List Int) (a b : Int), x.length = y.length → dot (x ++ [a]) (y ++ [b]) = dot x y + a * b
  | [], [], _, _, _ => by simp [dot]
  | [], _ :: _, _, _, h => by simp at h
  | _ :: _, [], _, _, h => by simp at h
  | c :: x, d :: y, a, b, h => by
    have := dot_snoc x y a b (by simpa using h)
    simp [dot, this, Int.add_assoc]
def dotE (f : Int) (a b : List Int) : Int × Int := if ok f a ∧ ok f b then (if a.length = b.length then (dot a b % P f, 0) else (0, 3)) else (0, 2)

end Go.Proofs.Ythlmfgnmljhdbaa.FFieldInverts
