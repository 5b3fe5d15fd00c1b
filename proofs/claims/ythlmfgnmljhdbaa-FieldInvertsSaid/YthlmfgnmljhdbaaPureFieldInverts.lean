/- FieldInverts: the product with the inverse is 1, a quotient times the divisor is what was divided. For every byte that chooses the field and every list of words. -/
import Derived.Test.YthlmfgnmljhdbaaFieldInvertsFE
namespace Go.Proofs.Ythlmfgnmljhdbaa.Pure
open Go.RowKit Go.Proofs.Ythlmfgnmljhdbaa.PFieldInverts Go.Proofs.YthlmfgnmljhdbaaW.PrintWords Go.Proofs.YthlmfgnmljhdbaaW.PrintLast Go.Proofs.Ythlmfgnmljhdbaa.M Go.Proofs.Ythlmfgnmljhdbaa.FFieldInverts

theorem scan (f : Int) (x iv : List Int) (e : Int) (hl : x.length < 4611686018427387904) (R : Bool) : ∀ (d i : Nat) (z : Bool), i + d = x.length → z = decide ((0 : Int) ∈ x.take i) →
    (decide ((0 : Int) ∈ x) = true → Ev (fun k => (conclavelaw01_anchored.f k).bind fun t => if t = true then (if e = 5 then some ((iv.length : Int) == 0) else some false) else some false) R) →
    (decide ((0 : Int) ∈ x) = false → Ev (fun k => if e = 0 then conclavelaw01_FieldInverts.j1 k f x iv ((iv.length : Int) != (x.length : Int)) else conclavelaw01_FieldInverts.j1 k f x iv true) R) →
    Ev (fun k => conclavelaw01_FieldInverts.l0 k f x iv e z (i : Int)) R := by
  intro d
  induction d with
  | zero =>
    intro i z hi hz h1 h2
    rw [List.take_of_length_le (by omega)] at hz
    refine Ev.step (fun k => by rw [conclavelaw01_FieldInverts.l0]) ?_
    refine Ev.neg (by omega) (Ev.ite (fun c => h1 (by rw [← hz]; exact c)) (fun c => h2 (by rw [← hz]; simpa using c)))
  | succ d ih =>
    intro i z hi hz h1 h2
    have hlt : i < x.length := by omega
    refine Ev.step (fun k => by rw [conclavelaw01_FieldInverts.l0]) ?_
    rw [w64_succ (by omega)]
    refine Ev.pos (by omega) (Ev.ite (fun c => ?_) (fun c => Ev.pos (by omega) ?_))
    · refine ih (i + 1) _ (by omega) ?_ h1 h2
      have hm : (0 : Int) ∈ x.take i := by rw [hz] at c; simpa using c
      rw [take_rd hlt]; simp [hm]
    · refine ih (i + 1) _ (by omega) ?_ h1 h2
      have hm : ¬ (0 : Int) ∈ x.take i := by rw [hz] at c; simpa using c
      rw [take_rd hlt]
      by_cases c0 : rd x (i : Int) = 0
      · simp [c0]
      · have c1 : ¬ (0 : Int) = rd x (i : Int) := fun h => c0 h.symm
        simp [hm, c0, c1]
theorem check (f : Int) (hp : Pr (P f)) (x : List Int) (he : El (P f) x) (hz : (0 : Int) ∉ x) (hl : x.length < 17592186044416) : ∀ (d i : Nat), i + d = x.length →
    Ev (fun k => conclavelaw01_FieldInverts.l1 k f x (x.map (inv (P f))) (i : Int)) true := by
  have hlo := hp.lo
  intro d
  induction d with
  | zero =>
    intro i hi
    refine Ev.step (fun k => by rw [conclavelaw01_FieldInverts.l1]) ?_
    exact Ev.neg (by omega) (Ev.bind anchored1 (Ev.fix rfl))
  | succ d ih =>
    intro i hi
    have hlt : i < x.length := by omega
    have r := he.rd hlt
    have r0 : 0 ≤ rd x 0 ∧ rd x 0 < P f := he.rd (i := 0) (by omega)
    have rz : rd x (i : Int) ≠ 0 := fun h => hz (h ▸ rd_mem hlt)
    have rm : rd x (i : Int) % P f ≠ 0 := by rw [Int.emod_eq_of_lt r.1 r.2]; exact rz
    have ri := inv_rng hp (rd x (i : Int))
    have rq := emod_rng (p := P f) (rd x 0 * (rd x (i : Int) ^ (P f - 2).toNat % P f)) (by omega)
    have okk : ∀ a b : Int, a < P f → b < P f → ok f [a, b] = true := fun a b h1 h2 => by
      rw [ok_iff]; refine ⟨by omega, fun y hy => ?_⟩; simp at hy; rcases hy with rfl | rfl <;> assumption
    refine Ev.step (fun k => by rw [conclavelaw01_FieldInverts.l1]) ?_
    rw [rd_map _ hlt]
    refine Ev.pos (by omega) (Ev.pos (by omega) (Ev.pos (by simp; omega) ?_))
    have m1 : Ev (fun k => field_Mul.f k f (rd x (i : Int)) (inv (P f) (rd x (i : Int)))) (1, 0) :=
      Ev.cast (Mul_eq f _ _ r.1 ri.1) (by rw [if_pos (okk _ _ r.2 ri.2), inv_mul hp rm])
    have m2 : Ev (fun k => field_Div.f k f (rd x 0) (rd x (i : Int))) (rd x 0 * (rd x (i : Int) ^ (P f - 2).toNat % P f) % P f, 0) :=
      Ev.cast (Div_eq f _ _ r0.1 r.1) (by unfold quot; rw [if_pos (okk _ _ r0.2 r.2), if_neg rz])
    have m3 : Ev (fun k => field_Mul.f k f (rd x 0 * (rd x (i : Int) ^ (P f - 2).toNat % P f) % P f) (rd x (i : Int))) (rd x 0, 0) :=
      Ev.cast (Mul_eq f _ _ rq.1 r.1) (by
        rw [if_pos (okk _ _ rq.2 r.2), emod_mul_l, Int.mul_assoc, ← emod_mul_r]
        have : rd x (i : Int) ^ (P f - 2).toNat % P f * rd x (i : Int) % P f = 1 := mul_inv hp rm
        rw [this, Int.mul_one, Int.emod_eq_of_lt r0.1 r0.2])
    refine Ev.bind m1 (Ev.pos (by omega) (Ev.bind m2 (Ev.bind m3 ?_)))
    rw [w64_succ (by omega)]
    exact Ev.pos rfl (Ev.pos rfl (Ev.pos rfl (Ev.pos rfl (Ev.pos rfl (ih (i + 1) (by omega))))))
theorem FieldInverts : conclavelaw01_FieldInverts.Pure := by
  intro f l hf _ hn hw
  have hf := wf_u8 hf
  have hw := Wd.of_wf hw
  have hp := fd_pr f
  have he := els_el hp l
  have hl : (els (fd f) l).length < 17592186044410 := by rw [els_len]; omega
  have hw2 : Wd (els (fd f) l) := he.wd (by have := hp.hi; omega)
  have hok : ok (fd f) (els (fd f) l) = true := by rw [ok_iff]; exact ⟨by have := hp.lo; omega, fun x hx => (he x hx).2⟩
  refine Ev.rounds (g := fun k => conclavelaw01_FieldInverts.f k f l) ?_
  unfold conclavelaw01_FieldInverts.f
  refine Ev.bind (elements_eq f hf.1 l hw (by omega)) (Ev.bind (Batch_eq _ _ hw2 (by dsimp only; omega)) ?_)
  dsimp only
  refine scan _ _ _ _ (by omega) true (els (fd f) l).length 0 false (by omega) (by simp) (fun c => ?_) (fun c => ?_)
  · have c : (0 : Int) ∈ els (fd f) l := by simpa using c
    have eR : batch (fd f) (els (fd f) l) = ([], 5) := by unfold batch; rw [if_pos hok, if_pos c]
    rw [eR]
    exact Ev.bind anchored1 (Ev.fix rfl)
  · have c : (0 : Int) ∉ els (fd f) l := by simpa using c
    have eR : batch (fd f) (els (fd f) l) = ((els (fd f) l).map (inv (P (fd f))), 0) := by unfold batch; rw [if_pos hok, if_neg c]
    rw [eR]
    refine Ev.pos rfl (Ev.step (fun k => by rw [conclavelaw01_FieldInverts.j1]) (Ev.neg (by simp) ?_))
    exact check (fd f) hp _ he c (by omega) _ 0 (Nat.zero_add _)

end Go.Proofs.Ythlmfgnmljhdbaa.Pure
