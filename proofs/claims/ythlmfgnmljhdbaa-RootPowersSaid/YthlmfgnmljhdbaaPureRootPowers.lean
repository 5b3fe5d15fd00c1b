/- RootPowers: every Powers and Flip of the root's package, or its error, is the reference's. For every field number, every word and every three ints. -/
import Derived.Test.YthlmfgnmljhdbaaRootPowersFG
namespace Go.Proofs.Ythlmfgnmljhdbaa.Pure
open Go.RowKit Go.Proofs.Ythlmfgnmljhdbaa.PRootPowers Go.Proofs.YthlmfgnmljhdbaaW.PrintWords Go.Proofs.YthlmfgnmljhdbaaW.PrintLast Go.Proofs.Ythlmfgnmljhdbaa.M Go.Proofs.Ythlmfgnmljhdbaa.FRootPowers

theorem RootPowers : conclavelaw02_RootPowers.Pure := by
  intro f a n m l _ ha hn hm hl
  have ha := wf_u64 ha
  have hn := wf_i64 hn
  have hm := wf_i64 hm
  have hlen : (powsE f a n).1.length < 4611686018427387904 := by
    unfold powsE
    split
    · split
      · simp
      · simp only [pows_len]; omega
    · simp
  refine Ev.rounds (g := fun k => conclavelaw02_RootPowers.f k f a n m l) ?_
  unfold conclavelaw02_RootPowers.f
  refine Ev.bind (Powers_eq f a n ha.1) (Ev.bind (rPowers f a n ha.1) (Ev.bind (Flip_eq m l hm.2) (Ev.bind (rFlip m l hm.2) ?_)))
  exact Ev.bind (rSame _ _ hlen) (Ev.pos (by simp) (Ev.pos rfl (Ev.pos rfl (Ev.fix (by simp)))))

end Go.Proofs.Ythlmfgnmljhdbaa.Pure
