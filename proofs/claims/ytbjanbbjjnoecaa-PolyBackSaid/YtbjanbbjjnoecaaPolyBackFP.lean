/- Trimming. -/
import Derived.Test.YtbjanbbjjnoecaaMP
import Derived.Test.YtbjanbbjjnoecaaPPolyBackx
namespace Go.Proofs.Ytbjanbbjjnoecaa.FPolyBack
open Go.RowKit Go Go.Proofs.YtbjanbbjjnoecaaW.PrintWords Go.Proofs.YtbjanbbjjnoecaaW.PrintLast Go.Proofs.YtbjanbbjjnoecaaW.PrintMore Go.Proofs.Ytbjanbbjjnoecaa.M Go.Proofs.Ytbjanbbjjnoecaa.PPolyBack

theorem trimmed_loop (l : List Int) (hl : l.length < 4611686018427387904) : ∀ n : Nat, n ≤ l.length → Ev (fun k => poly_trimmed.l0 k l (n : Int)) (l.take (tl l n)) := by
  intro n
  induction n with
  | zero =>
    intro _
    refine Ev.step (fun k => by rw [poly_trimmed.l0]) ?_
    exact Ev.neg (by omega) (Ev.pos (by omega) (Ev.pos (by omega) (Ev.fix rfl)))
  | succ n ih =>
    intro hn
    have e : wrap64 (((n + 1 : Nat) : Int) - 1) = (n : Int) := by rw [w64_in (by omega) (by omega)]; omega
    refine Ev.step (fun k => by rw [poly_trimmed.l0]) ?_
    rw [e]
    refine Ev.pos (by omega) (Ev.pos (by omega) (Ev.pos (by omega) (Ev.ite (fun c => ?_) (fun c => ?_))))
    · rw [tl, if_pos c]; exact ih (by omega)
    · rw [tl, if_neg c]; exact Ev.pos (by omega) (Ev.pos (by omega) (Ev.fix rfl))
theorem trimmed_eq (l : List Int) (hl : l.length < 4611686018427387904) : Ev (fun k => poly_trimmed.f k l) (trim l) := by
  unfold poly_trimmed.f
  exact trimmed_loop l hl l.length (Nat.le_refl _)
theorem clone_eq (l : List Int) (hl : l.length < 17592186044416) : slices_Clone_uint64_uint64.f l = some l := by
  unfold slices_Clone_uint64_uint64.f; rw [if_pos hl]
theorem Trim_eq (l : List Int) (hl : l.length < 17592186044416) : Ev (fun k => poly_Trim.f k l) (trim l) := by
  unfold poly_Trim.f
  exact Ev.bind (trimmed_eq l (by omega)) (Ev.bnd (clone_eq _ (by have := trim_le l; omega)) (Ev.fix rfl))
theorem Degree_eq (l : List Int) (hl : l.length < 4611686018427387904) : Ev (fun k => poly_Degree.f k l) (((trim l).length : Int) - 1) := by
  unfold poly_Degree.f
  have := trim_le l
  refine Ev.bind (trimmed_eq l hl) (Ev.fix ?_)
  rw [w64_in (by omega) (by omega)]
theorem rTrim_loop (l : List Int) (hl : l.length < 17592186044416) : ∀ n : Nat, n ≤ l.length → Ev (fun k => conclaveref03_Trim.l0 k l (n : Int)) (l.take (tl l n)) := by
  have hc : ∀ m : Nat, conclaveref01_Copy.f (l.take ((m : Int) : Int).toNat) = some (l.take m) := fun m => by
    unfold conclaveref01_Copy.f
    have : (l.take m).length ≤ l.length := List.length_take_le' _ _
    simp only [Int.toNat_natCast, Option.bind_some, List.length_nil, List.nil_append, Nat.zero_add]
    rw [if_pos (by omega)]
  intro n
  induction n with
  | zero =>
    intro _
    refine Ev.step (fun k => by rw [conclaveref03_Trim.l0]) ?_
    exact Ev.neg (by omega) (Ev.pos (by omega) (Ev.pos (by omega) (Ev.bnd (hc 0) (Ev.fix rfl))))
  | succ n ih =>
    intro hn
    have e : wrap64 (((n + 1 : Nat) : Int) - 1) = (n : Int) := by rw [w64_in (by omega) (by omega)]; omega
    refine Ev.step (fun k => by rw [conclaveref03_Trim.l0]) ?_
    rw [e]
    refine Ev.pos (by omega) (Ev.pos (by omega) (Ev.pos (by omega) (Ev.ite (fun c => ?_) (fun c => ?_))))
    · rw [tl, if_pos c]; exact ih (by omega)
    · rw [tl, if_neg c]; exact Ev.pos (by omega) (Ev.pos (by omega) (Ev.bnd (hc (n + 1)) (Ev.fix rfl)))
theorem rTrim (l : List Int) (hl : l.length < 17592186044416) : Ev (fun k => conclaveref03_Trim.f k l) (trim l) := by
  unfold conclaveref03_Trim.f
  exact rTrim_loop l hl l.length (Nat.le_refl _)

end Go.Proofs.Ytbjanbbjjnoecaa.FPolyBack
