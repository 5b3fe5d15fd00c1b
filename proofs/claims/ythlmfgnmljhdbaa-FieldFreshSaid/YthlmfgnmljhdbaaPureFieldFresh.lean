/- FieldFresh: what is handed to Batch stays as it was, and what it answers is new memory. For every field number and every list. -/
import Derived.Test.YthlmfgnmljhdbaaFieldFreshFE
namespace Go.Proofs.Ythlmfgnmljhdbaa.Pure
open Go.RowKit Go.Proofs.Ythlmfgnmljhdbaa.PFieldFresh Go.Proofs.YthlmfgnmljhdbaaW.PrintWords Go.Proofs.YthlmfgnmljhdbaaW.PrintLast Go.Proofs.Ythlmfgnmljhdbaa.M Go.Proofs.Ythlmfgnmljhdbaa.FFieldFresh

theorem batch_len (f : Int) (l : List Int) : (batch f l).1.length ≤ l.length := by
  unfold batch; split <;> (try split) <;> simp
theorem FieldFresh : conclavelaw01_FieldFresh.Pure := by
  intro f l hf _ hn hw
  have hf := wf_u8 hf
  have hw := Wd.of_wf hw
  have hp := fd_pr f
  have he := els_el hp l
  have hl : (els (fd f) l).length < 17592186044410 := by rw [els_len]; omega
  have hw2 : Wd (els (fd f) l) := he.wd (by have := hp.hi; omega)
  refine Ev.rounds (g := fun k => conclavelaw01_FieldFresh.f k f l) ?_
  unfold conclavelaw01_FieldFresh.f
  have hb := batch_len (fd f) (els (fd f) l)
  refine Ev.bind (elements_eq f hf.1 l hw (by omega)) ?_
  dsimp only
  refine Ev.bnd (rCopy _ (by omega)) (Ev.bind (Batch_eq _ _ hw2 (by omega)) (Ev.bind (Batch_eq _ _ hw2 (by omega)) (Ev.bind (rSpoil _ 7 (by omega)) (Ev.bind (rBatch _ _ hw2 (by omega)) (Ev.bind anchored1 (Ev.pos rfl ?_))))))
  exact Ev.bind (rSame _ _ (by omega)) (Ev.pos (by simp) (Ev.bind (rSame _ _ (by omega)) (Ev.pos (by simp) (Ev.fix (by simp)))))

end Go.Proofs.Ythlmfgnmljhdbaa.Pure
