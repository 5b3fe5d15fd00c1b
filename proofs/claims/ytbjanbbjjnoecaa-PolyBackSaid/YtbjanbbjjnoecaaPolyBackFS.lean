/- A polynomial times a number, and values: the package's, the reference's. -/
import Derived.Test.YtbjanbbjjnoecaaMV
import Derived.Test.YtbjanbbjjnoecaaPolyBackFR
namespace Go.Proofs.Ytbjanbbjjnoecaa.FPolyBack
open Go.RowKit Go Go.Proofs.YtbjanbbjjnoecaaW.PrintWords Go.Proofs.YtbjanbbjjnoecaaW.PrintLast Go.Proofs.YtbjanbbjjnoecaaW.PrintMore Go.Proofs.Ytbjanbbjjnoecaa.M Go.Proofs.Ytbjanbbjjnoecaa.PPolyBack

/-- A value, or the error. -/
def valE (f : Int) (a : List Int) (x : Int) : Int × Int := if bad f a [x] = 0 then (sm a x a.length % P f, 0) else (0, bad f a [x])
theorem PEval_eq (f x : Int) (a : List Int) (hx : 0 ≤ x) (wa : Wd a) (ha : a.length < 17592186044416) : Ev (fun k => poly_Eval.f k f a x) (valE f a x) := by
  unfold poly_Eval.f valE
  refine Ev.bind (In_eq f [x] (by simp)) (Ev.ite (fun q => ?_) (fun q => ?_))
  · have hp := (ok_iff.1 q).1
    have hx2 : x < P f := (ok_iff.1 q).2 x (by simp)
    have e : (if P f = 0 then 2 else bads f [a] 0) = bad f a [x] := by
      rw [if_neg hp]
      unfold bad
      by_cases ca : ok f a = true
      · rw [if_pos ⟨ca, q⟩]
        simp only [bads, if_pos ca]
        by_cases l : a.length ≤ 4096
        · rw [if_neg (by omega), if_pos ⟨l, by simp⟩]
        · rw [if_pos (by omega), if_neg (fun z => l z.1)]
      · rw [if_neg (fun z => ca z.1)]
        simp only [bads, if_neg ca]
    have m := may_eq f [a] (by simp; omega) (by simp)
    rw [e] at m
    refine Ev.bind m (Ev.ite (fun b => ?_) (fun b => ?_))
    · rw [if_pos b]
      obtain ⟨ka, _, la, _⟩ := bad_zero b
      have ea := wa.el (ok_all ka)
      refine Ev.pos ?_ (Ev.fix ?_)
      · rw [Bool.and_eq_true]
        refine ⟨by unfold inF; simp [hx, hx2], List.all_eq_true.2 fun c hc => ?_⟩
        have := ea c hc
        unfold inF; simp [this]
      · rw [← horner]; rfl
    · rw [if_neg b]; exact Ev.fix rfl
  · have e : bad f a [x] = 2 := by unfold bad; rw [if_neg (fun z => q z.2)]
    rw [e, if_neg (by omega)]; exact Ev.fix rfl

end Go.Proofs.Ytbjanbbjjnoecaa.FPolyBack
