/- What the reference's functions of layer 1 answer. -/
import Derived.Test.YtbjanbbjjnoecaaMB
import Derived.Test.YtbjanbbjjnoecaaPPolyTrimsx
namespace Go.Proofs.Ytbjanbbjjnoecaa.FPolyTrims
open Go.RowKit Go Go.Proofs.YtbjanbbjjnoecaaW.PrintWords Go.Proofs.YtbjanbbjjnoecaaW.PrintLast Go.Proofs.YtbjanbbjjnoecaaW.PrintMore Go.Proofs.Ytbjanbbjjnoecaa.M Go.Proofs.Ytbjanbbjjnoecaa.PPolyTrims

theorem rSame_loop (a b : List Int) (hl : a.length < 4611686018427387904) (he : a.length = b.length) : ∀ (d i : Nat), i + d = a.length →
    Ev (fun k => conclaveref01_Same.l0 k a b (i : Int)) (decide (a.drop i = b.drop i)) := by
  intro d
  induction d with
  | zero =>
    intro i hi
    refine Ev.step (fun k => by rw [conclaveref01_Same.l0]) ?_
    refine Ev.neg (by omega) (Ev.fix ?_)
    rw [List.drop_eq_nil_of_le (by omega), List.drop_eq_nil_of_le (by omega)]; simp
  | succ d ih =>
    intro i hi
    refine Ev.step (fun k => by rw [conclaveref01_Same.l0]) ?_
    refine Ev.pos (by omega) (Ev.pos (by omega) ?_)
    rw [drop_rd (l := a) (by omega), drop_rd (l := b) (by omega), w64_succ (by omega)]
    have hb : (i : Int) < (b.length : Int) := by omega
    by_cases c : rd a (i : Int) = rd b (i : Int)
    · refine Ev.cast (r := decide (a.drop (i + 1) = b.drop (i + 1))) ?_ (by simp [c])
      simp only [hb, c, if_true]
      exact ih (i + 1) (by omega)
    · refine Ev.cast (r := false) ?_ (by simp [c])
      simp only [hb, c, if_true, if_false]
      exact Ev.fix rfl
theorem rSame (a b : List Int) (hl : a.length < 4611686018427387904) : Ev (fun k => conclaveref01_Same.f k a b) (decide (a = b)) := by
  unfold conclaveref01_Same.f
  by_cases he : a.length = b.length
  · have h := rSame_loop a b hl he a.length 0 (by omega)
    rw [List.drop_zero, List.drop_zero] at h
    have he' : (a.length : Int) = (b.length : Int) := by omega
    simp only [he', if_true]
    exact h
  · refine Ev.cast (r := false) ?_ (by rw [decide_eq_false]; rintro rfl; exact he rfl)
    have he' : ¬ (a.length : Int) = (b.length : Int) := by omega
    simp only [he', if_false]
    exact Ev.fix rfl

end Go.Proofs.Ytbjanbbjjnoecaa.FPolyTrims
