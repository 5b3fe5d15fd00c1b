/- RootFlips: Flip twice is nothing. For every number of 32 bits and every byte that tells the log. -/
import Derived.Test.YthlmfgnmljhdbaaRootFlipsFG
namespace Go.Proofs.Ythlmfgnmljhdbaa.Pure
open Go.RowKit Go.Proofs.Ythlmfgnmljhdbaa.PRootFlips Go.Proofs.YthlmfgnmljhdbaaW.PrintWords Go.Proofs.YthlmfgnmljhdbaaW.PrintLast Go.Proofs.Ythlmfgnmljhdbaa.M Go.Proofs.Ythlmfgnmljhdbaa.FRootFlips

theorem RootFlips : conclavelaw02_RootFlips.Pure := by
  intro n l hn hl
  have hn := wf_u32 hn
  have hl := wf_u8 hl
  refine Ev.rounds (g := fun k => conclavelaw02_RootFlips.f k n l) ?_
  unfold conclavelaw02_RootFlips.f
  rw [w64_in (i := n) (by omega) (by omega), w64_in (i := l) (by omega) (by omega), Int.tmod_eq_emod_of_nonneg hl.1]
  have hk : 0 ≤ l % 33 ∧ l % 33 ≤ 32 := by omega
  generalize l % 33 = k at *
  rw [u64w_in k (by omega) (by omega), shl64 k (by omega) (by omega), Int.tmod_eq_emod_of_nonneg hn.1]
  have hp : (0 : Int) < 2 ^ k.toNat := Int.pow_pos (by decide)
  have r := emod_rng (p := 2 ^ k.toNat) n hp
  have hb : (2 : Int) ^ k.toNat ≤ 2 ^ 32 := two_le (by omega)
  generalize n % 2 ^ k.toNat = m at *
  have r2 := flp_rng k.toNat m r.1
  have e1 : flipE m k = (flp k.toNat m 0, 0) := by unfold flipE; rw [if_neg (by omega)]
  have e2 : flipE (flp k.toNat m 0) k = (m, 0) := by unfold flipE; rw [if_neg (by omega), flp_flp _ _ r.1 r.2]
  have f1 : Ev (fun j => root_Flip.f j m k) (flp k.toNat m 0, 0) := Ev.cast (Flip_eq m k (by omega)) e1
  have f2 : Ev (fun j => root_Flip.f j (flp k.toNat m 0) k) (m, 0) := Ev.cast (Flip_eq _ k (by omega)) e2
  refine Ev.pos hk.1 (Ev.neg (by omega) (Ev.bind f1 (Ev.bind f2 (Ev.bind anchored2 ?_))))
  refine Ev.pos rfl (Ev.pos rfl (Ev.pos rfl (Ev.pos rfl (Ev.pos r2.1 (Ev.pos r2.2 ?_)))))
  refine Ev.ite (fun c => Ev.pos ?_ (Ev.fix rfl)) (fun c => Ev.neg ?_ (Ev.fix rfl))
  · rw [c]; exact flp_zero _
  · intro h
    have h : flp k.toNat m 0 = 0 := h
    have := flp_flp k.toNat m r.1 r.2
    rw [h, flp_zero] at this
    exact c this.symm

end Go.Proofs.Ythlmfgnmljhdbaa.Pure
