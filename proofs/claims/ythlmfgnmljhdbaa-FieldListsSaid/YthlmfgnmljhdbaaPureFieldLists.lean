/- FieldLists: every Batch and Dot of the field's package, or its error, is the reference's. For every field number and every two lists. -/
import Derived.Test.YthlmfgnmljhdbaaFieldListsFE
namespace Go.Proofs.Ythlmfgnmljhdbaa.Pure
open Go.RowKit Go.Proofs.Ythlmfgnmljhdbaa.PFieldLists Go.Proofs.YthlmfgnmljhdbaaW.PrintWords Go.Proofs.YthlmfgnmljhdbaaW.PrintLast Go.Proofs.Ythlmfgnmljhdbaa.M Go.Proofs.Ythlmfgnmljhdbaa.FFieldLists

theorem batch_len (f : Int) (l : List Int) : (batch f l).1.length ≤ l.length := by
  unfold batch; split <;> (try split) <;> simp
theorem FieldLists : conclavelaw01_FieldLists.Pure := by
  intro f a b _ _ hn hw _ hm hv
  have hw := Wd.of_wf hw
  have hv := Wd.of_wf hv
  refine Ev.rounds (g := fun k => conclavelaw01_FieldLists.f k f a b) ?_
  unfold conclavelaw01_FieldLists.f
  refine Ev.bind (Batch_eq f a hw (by omega)) (Ev.bind (rBatch f a hw (by omega)) (Ev.bind (Dot_eq f a b hw hv (by omega) (by omega)) (Ev.bind (rDot f a b hw hv (by omega) (by omega)) ?_)))
  refine Ev.bind (rSame _ _ (by have := batch_len f a; show (batch _ _).1.length < _; omega)) (Ev.pos (by simp) (Ev.pos rfl (Ev.pos rfl (Ev.fix (by simp)))))

end Go.Proofs.Ythlmfgnmljhdbaa.Pure
