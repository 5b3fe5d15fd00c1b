/- FieldSums: every Prime, In, Add, Sub, Mul and Pow of the field's package, or its error, is the reference's. For every field number and every two words. -/
import Derived.Test.YthlmfgnmljhdbaaFieldSumsFD
namespace Go.Proofs.Ythlmfgnmljhdbaa.Pure
open Go.RowKit Go.Proofs.Ythlmfgnmljhdbaa.PFieldSums Go.Proofs.YthlmfgnmljhdbaaW.PrintWords Go.Proofs.YthlmfgnmljhdbaaW.PrintLast Go.Proofs.Ythlmfgnmljhdbaa.M Go.Proofs.Ythlmfgnmljhdbaa.FFieldSums

theorem sums_rest (f a b : Int) (ha : 0 ≤ a) (hb : 0 ≤ b) (hb1 : b < 18446744073709551616) : Ev (fun k => conclavelaw01_FieldSums.j0 k a b f false) true := by
  refine Ev.step (fun k => by rw [conclavelaw01_FieldSums.j0]) ?_
  refine Ev.neg (by decide) ?_
  refine Ev.bind (Add_eq f a b ha hb) (Ev.bind (rAdd f a b ha hb) (Ev.bind (Sub_eq f a b ha hb) (Ev.bind (rSub f a b ha hb) (Ev.bind (Mul_eq f a b ha hb) (Ev.bind (rMul f a b ha hb) (Ev.bind (Pow_eq f a b ha hb hb1) (Ev.bind (rPow f a b ha hb hb1) ?_)))))))
  refine Ev.pos rfl (Ev.pos rfl (Ev.pos rfl (Ev.pos rfl (Ev.pos rfl (Ev.pos rfl (Ev.pos rfl (Ev.pos rfl ?_)))))))
  refine Ev.bind (In_eq f _ (by simp)) (Ev.bind (rIn f _ (by simp)) ?_)
  have h2 := In_eq f [] (by simp)
  have h3 := rIn f [] (by simp)
  have fin : ∀ c : Bool, Ev (fun _ : Nat => if c = true then (if c = true then some true else some false) else (if c = true then some false else some true)) true := by
    intro c; cases c <;> exact Ev.fix rfl
  have rest : Ev (fun k => (field_In.f k f []).bind fun t => (conclaveref01_In.f k f []).bind fun u => if t = true then (if u = true then some true else some false) else (if u = true then some false else some true)) true :=
    Ev.bind h2 (Ev.bind h3 (fin _))
  generalize ok f [a, b] = c
  cases c
  · exact Ev.neg (by decide) (Ev.neg (by decide) rest)
  · exact Ev.pos rfl (Ev.pos rfl rest)
theorem FieldSums : conclavelaw01_FieldSums.Pure := by
  intro f a b _ ha hb
  have ha := wf_u64 ha
  have hb := wf_u64 hb
  refine Ev.rounds (g := fun k => conclavelaw01_FieldSums.f k f a b) ?_
  unfold conclavelaw01_FieldSums.f
  refine Ev.bind (Prime_eq f) (Ev.bnd (rP f) ?_)
  have rest := sums_rest f a b ha.1 hb.1 hb.2
  by_cases h : P f = 0
  · simp only [h, if_true]
    simp
    exact rest
  · simp only [h]
    simp [h]
    exact rest

end Go.Proofs.Ythlmfgnmljhdbaa.Pure
