/- The anchor of layer 1, and elements made of numbers. -/
import Derived.Test.YthlmfgnmljhdbaaFieldRingFB
import Derived.Test.YthlmfgnmljhdbaaFieldRingFC
namespace Go.Proofs.Ythlmfgnmljhdbaa.FFieldRing
open Go.RowKit Go Go.Proofs.YthlmfgnmljhdbaaW.PrintWords Go.Proofs.YthlmfgnmljhdbaaW.PrintLast Go.Proofs.YthlmfgnmljhdbaaW.PrintMore Go.Proofs.Ythlmfgnmljhdbaa.M Go.Proofs.Ythlmfgnmljhdbaa.PFieldRing

theorem anchored1 : Ev (fun k => conclavelaw01_anchored.f k) true := by
  have h1 : Ev (fun k => field_Mul.f k 2 4294967296 4294967296) (4294967295, 0) := Ev.cast (Mul_eq 2 4294967296 4294967296 (by decide) (by decide)) (by decide +kernel)
  have h2 : Ev (fun k => field_Pow.f k 1 2 31) (134217727, 0) := Ev.cast (Pow_eq 1 2 31 (by decide) (by decide) (by decide)) (by decide +kernel)
  have h3 : Ev (fun k => field_Add.f k 0 0 0) (0, 2) := Ev.cast (Add_eq 0 0 0 (by decide) (by decide)) (by decide +kernel)
  unfold conclavelaw01_anchored.f
  refine Ev.bind h1 (Ev.bind h2 (Ev.bind h3 ?_))
  exact Ev.fix (by decide)
/-- The field that a byte chooses. -/
def fd (a : Int) : Int := if a % 2 = 0 then 2 else 1
theorem fd_pr (a : Int) : Pr (P (fd a)) := by
  unfold fd; split <;> (apply P_pr; decide)
theorem fd_cases (a : Int) : fd a = 1 ∨ fd a = 2 := by unfold fd; split <;> simp
/-- Numbers made elements. -/
def els (f : Int) (l : List Int) : List Int := l.map fun x => x % P f
theorem els_len (f : Int) (l : List Int) : (els f l).length = l.length := by simp [els]
theorem els_el {f : Int} (h : Pr (P f)) (l : List Int) : El (P f) (els f l) := by
  intro x hx
  obtain ⟨y, _, rfl⟩ := List.mem_map.1 hx
  have := h.lo
  exact ⟨Int.emod_nonneg _ (by omega), Int.emod_lt_of_pos _ (by omega)⟩
theorem els_loop (f : Int) (hf : Pr (P f)) (l : List Int) (hw : Wd l) (hl : l.length < 17592186044416) : ∀ (d i : Nat), i + d = l.length →
    Ev (fun k => conclavelaw01_elements.l0 k l f (els f (l.take i)) (i : Int)) (f, els f l) := by
  have hp := hf.lo
  intro d
  induction d with
  | zero =>
    intro i hi
    refine Ev.step (fun k => by rw [conclavelaw01_elements.l0]) ?_
    refine Ev.neg (by omega) (Ev.fix ?_)
    rw [List.take_of_length_le (by omega)]
  | succ d ih =>
    intro i hi
    have hlt : i < l.length := by omega
    refine Ev.step (fun k => by rw [conclavelaw01_elements.l0]) ?_
    refine Ev.pos (by omega) (Ev.pos (by omega) (Ev.bnd (rP f) (Ev.neg (by omega) (Ev.pos (by rw [els_len, List.length_take]; omega) ?_))))
    have := ih (i + 1) (by omega)
    rw [take_rd hlt] at this
    rw [w64_succ (by omega), Int.tmod_eq_emod_of_nonneg (hw.rd hlt).1]
    simpa [els] using this
theorem elements_eq (a : Int) (ha : 0 ≤ a) (l : List Int) (hw : Wd l) (hl : l.length < 17592186044416) : Ev (fun k => conclavelaw01_elements.f k a l) (fd a, els (fd a) l) := by
  unfold conclavelaw01_elements.f fd
  rw [Int.tmod_eq_emod_of_nonneg ha]
  by_cases c : a % 2 = 0
  · rw [if_pos c]
    refine Ev.pos c (Ev.step (fun k => by rw [conclavelaw01_elements.j0]) ?_)
    have := els_loop 2 (by decide) l hw hl l.length 0 (by omega)
    simpa [els] using this
  · rw [if_neg c]
    refine Ev.neg c (Ev.step (fun k => by rw [conclavelaw01_elements.j0]) ?_)
    have := els_loop 1 (by decide) l hw hl l.length 0 (by omega)
    simpa [els] using this

end Go.Proofs.Ythlmfgnmljhdbaa.FFieldRing
