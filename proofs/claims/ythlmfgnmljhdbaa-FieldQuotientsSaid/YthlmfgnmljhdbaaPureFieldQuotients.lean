/- FieldQuotients: every Inv and Div of the field's package, or its error, is the reference's. For every field number and every two words. -/
import Derived.Test.YthlmfgnmljhdbaaFieldQuotientsFD
namespace Go.Proofs.Ythlmfgnmljhdbaa.Pure
open Go.RowKit Go.Proofs.Ythlmfgnmljhdbaa.PFieldQuotients Go.Proofs.YthlmfgnmljhdbaaW.PrintWords Go.Proofs.YthlmfgnmljhdbaaW.PrintLast Go.Proofs.Ythlmfgnmljhdbaa.M Go.Proofs.Ythlmfgnmljhdbaa.FFieldQuotients

theorem FieldQuotients : conclavelaw01_FieldQuotients.Pure := by
  intro f a b _ ha hb
  have ha := wf_u64 ha
  have hb := wf_u64 hb
  refine Ev.rounds (g := fun k => conclavelaw01_FieldQuotients.f k f a b) ?_
  unfold conclavelaw01_FieldQuotients.f
  refine Ev.bind (Inv_eq f a ha.1) (Ev.bind (rDiv f 1 a (by decide) ha.1) (Ev.bind (Div_eq f a b ha.1 hb.1) (Ev.bind (rDiv f a b ha.1 hb.1) (Ev.bnd (rP f) ?_))))
  refine Ev.ite (fun c => ?_) (fun c => ?_)
  · have e : ∀ l, ok f l = false := fun l => by unfold ok; simp [c]
    simp only [quot, e]
    simp only [Bool.false_eq_true, if_false, if_true]
    exact Ev.bind anchored1 (Ev.fix rfl)
  · have e : ∀ a b, quot f a b = rquot f a b := fun _ _ => rfl
    simp only [e, if_true]
    exact Ev.fix (by simp)

end Go.Proofs.Ythlmfgnmljhdbaa.Pure
