/- FieldPowers: exponents add up, and the power with one less than the prime is 1. For every byte that chooses the field, every word and every two exponents of 32 bits. -/
import Derived.Test.YthlmfgnmljhdbaaMG
import Derived.Test.YthlmfgnmljhdbaaFieldPowersFD
namespace Go.Proofs.Ythlmfgnmljhdbaa.Pure
open Go.RowKit Go.Proofs.Ythlmfgnmljhdbaa.PFieldPowers Go.Proofs.YthlmfgnmljhdbaaW.PrintWords Go.Proofs.YthlmfgnmljhdbaaW.PrintLast Go.Proofs.Ythlmfgnmljhdbaa.M Go.Proofs.Ythlmfgnmljhdbaa.FFieldPowers

theorem FieldPowers : conclavelaw01_FieldPowers.Pure := by
  intro f a m n hf ha hm hn
  have hf := wf_u8 hf
  have ha := wf_u64 ha
  have hm := wf_u32 hm
  have hn := wf_u32 hn
  have hp := fd_pr f
  have hlo := hp.lo; have hhi := hp.hi
  have hP : P (fd f) ≠ 0 := by omega
  refine Ev.rounds (g := fun k => conclavelaw01_FieldPowers.f k f a m n) ?_
  unfold conclavelaw01_FieldPowers.f
  refine Ev.bind (elements_eq f hf.1 [a] (Wd.cons ha Wd.nil) (by simp)) ?_
  have hx : els (fd f) [a] = [a % P (fd f)] := rfl
  have hr : rd [a % P (fd f)] 0 = a % P (fd f) := rfl
  have r := emod_rng (p := P (fd f)) a (by omega)
  rw [hx]
  dsimp only
  rw [hr]
  generalize a % P (fd f) = x at *
  have okx : ∀ y, y < P (fd f) → ok (fd f) [y] = true := fun y hy => by rw [ok_iff]; exact ⟨hP, fun z hz => by simp at hz; omega⟩
  have pw : ∀ e : Int, 0 ≤ e → e < 18446744073709551616 → Ev (fun k => field_Pow.f k (fd f) x e) (x ^ e.toNat % P (fd f), 0) := fun e h0 h1 =>
    Ev.cast (Pow_eq (fd f) x e r.1 h0 h1) (by rw [if_pos (okx x r.2)])
  refine Ev.bind (Prime_eq (fd f)) ?_
  rw [if_neg hP]
  dsimp only
  rw [u64w_in m (by omega) (by omega), u64w_in n (by omega) (by omega), u64w_in (m + n) (by omega) (by omega), u64w_in (P (fd f) - 1) (by omega) (by omega)]
  have r1 := emod_rng (p := P (fd f)) (x ^ m.toNat) (by omega)
  have r2 := emod_rng (p := P (fd f)) (x ^ n.toNat) (by omega)
  have hmul : Ev (fun k => field_Mul.f k (fd f) (x ^ m.toNat % P (fd f)) (x ^ n.toNat % P (fd f))) (x ^ (m + n).toNat % P (fd f), 0) := by
    refine Ev.cast (Mul_eq (fd f) _ _ r1.1 r2.1) ?_
    rw [if_pos (by rw [ok_iff]; exact ⟨hP, fun z hz => by simp at hz; rcases hz with rfl | rfl <;> omega⟩), emod_mul_l, emod_mul_r, ← Int.pow_add, Int.toNat_add hm.1 hn.1]
  refine Ev.pos (by simp) (Ev.bind (pw m hm.1 (by omega)) (Ev.bind (pw n hn.1 (by omega)) (Ev.bind (pw (m + n) (by omega) (by omega)) (Ev.bind hmul (Ev.bind (pw (P (fd f) - 1) (by omega) (by omega)) (Ev.bind anchored1 ?_))))))
  refine Ev.pos rfl (Ev.pos rfl (Ev.pos rfl (Ev.pos rfl (Ev.pos rfl (Ev.pos rfl (Ev.pos rfl ?_))))))
  refine Ev.ite (fun c => ?_) (fun c => ?_)
  · refine Ev.pos ?_ (Ev.fix rfl)
    have e : (P (fd f) - 1).toNat = (P (fd f) - 2).toNat + 1 := by omega
    rw [c, e, Int.pow_succ, Int.mul_zero]; simp
  · have e : x ^ (P (fd f) - 1).toNat % P (fd f) = 1 := fermat_mod hp (by rw [Int.emod_eq_of_lt r.1 r.2]; exact c)
    rw [e]
    exact Ev.fix rfl

end Go.Proofs.Ythlmfgnmljhdbaa.Pure
