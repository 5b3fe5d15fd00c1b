/- RootRoots: every Two, Root and Log of the root's package, or its error, is the reference's. For every field number, every int and every word. -/
import Derived.Test.YthlmfgnmljhdbaaRootRootsFG
namespace Go.Proofs.Ythlmfgnmljhdbaa.Pure
open Go.RowKit Go.Proofs.Ythlmfgnmljhdbaa.PRootRoots Go.Proofs.YthlmfgnmljhdbaaW.PrintWords Go.Proofs.YthlmfgnmljhdbaaW.PrintLast Go.Proofs.Ythlmfgnmljhdbaa.M Go.Proofs.Ythlmfgnmljhdbaa.FRootRoots

theorem roots_rest (f n a : Int) (hn : n < 9223372036854775808) (ha : 0 ≤ a) : Ev (fun k => conclavelaw02_RootRoots.j0 k n a f false) true := by
  refine Ev.step (fun k => by rw [conclavelaw02_RootRoots.j0]) (Ev.neg (by decide) ?_)
  refine Ev.bind (Root_eq f n) (Ev.bind (rRoot f n hn) (Ev.bind (Log_eq f a ha) (Ev.bind (rLog f a ha) ?_)))
  refine Ev.pos rfl (Ev.pos rfl (Ev.pos rfl (Ev.ite (fun c => ?_) (fun c => ?_))))
  · exact Ev.pos c (Ev.pos rfl (Ev.bind anchored2 (Ev.fix rfl)))
  · exact Ev.neg c (Ev.pos rfl (Ev.bind anchored2 (Ev.fix rfl)))
theorem RootRoots : conclavelaw02_RootRoots.Pure := by
  intro f n a _ hn ha
  have hn := wf_i64 hn
  have ha := wf_u64 ha
  refine Ev.rounds (g := fun k => conclavelaw02_RootRoots.f k f n a) ?_
  unfold conclavelaw02_RootRoots.f
  have rest := roots_rest f n a hn.2 ha.1
  have hlg := lg_rng f
  refine Ev.bind (Two_eq f) (Ev.bnd (rTwo f) ?_)
  by_cases h : P f = 0
  · have e : twoE f = (0, 2) := by unfold twoE; rw [if_pos h]
    rw [e, if_pos h]
    exact Ev.pos (by decide) (Ev.pos rfl (Ev.pos rfl (Ev.neg (by decide) rest)))
  · have e : twoE f = (lg f, 0) := by unfold twoE; rw [if_neg h]
    rw [e, if_neg h]
    refine Ev.neg (by omega) (Ev.pos (by omega) (Ev.pos rfl ?_))
    simpa using rest

end Go.Proofs.Ythlmfgnmljhdbaa.Pure
