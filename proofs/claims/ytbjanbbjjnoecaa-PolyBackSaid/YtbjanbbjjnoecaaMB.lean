/- Fields by number, elements, lists read place by place. Plain. -/
import Derived.Test.YtbjanbbjjnoecaaEV
import Derived.Test.YtbjanbbjjnoecaaMF
namespace Go.Proofs.Ytbjanbbjjnoecaa.M
open Go.RowKit Go Go.Proofs.YtbjanbbjjnoecaaW.PrintWords Go.Proofs.YtbjanbbjjnoecaaW.PrintLast Go.Proofs.YtbjanbbjjnoecaaW.PrintMore

/-- The prime of a field; 0: it is none. -/
def P (f : Int) : Int := if f = 1 then 2013265921 else if f = 2 then 18446744069414584321 else 0
def wd (f : Int) : Bool := decide (f = 2)
/-- Are all of them below p? -/
def allIn (p : Int) (l : List Int) : Bool := l.all fun x => decide (x < p)
/-- A field, and elements of it. -/
def ok (f : Int) (l : List Int) : Bool := decide (P f ≠ 0) && allIn (P f) l
/-- A prime of ours. -/
@[reducible] def Pr (p : Int) : Prop := p = 2013265921 ∨ p = 18446744069414584321
theorem Pr.lo {p : Int} (h : Pr p) : 2013265921 ≤ p := by unfold Pr at h; omega
theorem Pr.hi {p : Int} (h : Pr p) : p ≤ 18446744069414584321 := by unfold Pr at h; omega
theorem P_pr {f : Int} (h : P f ≠ 0) : Pr (P f) := by unfold P at *; unfold Pr; split <;> (try split) <;> simp_all
theorem P_cases (f : Int) : (f = 1 ∧ P f = 2013265921) ∨ (f = 2 ∧ P f = 18446744069414584321) ∨ (f ≠ 1 ∧ f ≠ 2 ∧ P f = 0) := by
  unfold P; by_cases h1 : f = 1
  · simp [h1]
  · by_cases h2 : f = 2 <;> simp [h1, h2]
theorem allIn_nil (p : Int) : allIn p [] = true := rfl
theorem allIn_cons (p x : Int) (l : List Int) : allIn p (x :: l) = (decide (x < p) && allIn p l) := rfl
theorem allIn_iff {p : Int} {l : List Int} : allIn p l = true ↔ ∀ x ∈ l, x < p := by unfold allIn; simp
theorem ok_iff {f : Int} {l : List Int} : ok f l = true ↔ P f ≠ 0 ∧ ∀ x ∈ l, x < P f := by unfold ok; simp [allIn_iff]
theorem ok_pr {f : Int} {l : List Int} (h : ok f l = true) : Pr (P f) := P_pr (ok_iff.1 h).1

/-- Words: what a list of 64 bits holds. -/
def Wd (l : List Int) : Prop := ∀ x ∈ l, 0 ≤ x ∧ x < 18446744073709551616
/-- Elements below p. -/
def El (p : Int) (l : List Int) : Prop := ∀ x ∈ l, 0 ≤ x ∧ x < p
theorem Wd.el {p : Int} {l : List Int} (h : Wd l) (k : allIn p l = true) : El p l := fun x hx => ⟨(h x hx).1, allIn_iff.1 k x hx⟩
theorem Wd.of_wf {l : List Int} (h : ∀ x ∈ l, (Lit.int .u64 x).wf = true) : Wd l := fun x hx => wf_u64 (h x hx)
theorem El.wd {p : Int} {l : List Int} (h : El p l) (hp : p ≤ 18446744073709551616) : Wd l := fun x hx => ⟨(h x hx).1, Int.lt_of_lt_of_le (h x hx).2 hp⟩
theorem El.cons {p x : Int} {l : List Int} (h : 0 ≤ x ∧ x < p) (k : El p l) : El p (x :: l) := by
  intro y hy; rcases List.mem_cons.1 hy with rfl | hy
  · exact h
  · exact k y hy
theorem El.nil {p : Int} : El p [] := fun _ h => by cases h
theorem Wd.nil : Wd [] := fun _ h => by cases h
theorem Wd.cons {x : Int} {l : List Int} (h : 0 ≤ x ∧ x < 18446744073709551616) (k : Wd l) : Wd (x :: l) := by
  intro y hy; rcases List.mem_cons.1 hy with rfl | hy
  · exact h
  · exact k y hy

theorem rd_lt {l : List Int} {i : Nat} (h : i < l.length) : rd l (i : Int) = l[i] := by unfold rd; simp [h]
theorem drop_rd {l : List Int} {i : Nat} (h : i < l.length) : l.drop i = rd l (i : Int) :: l.drop (i + 1) := by
  rw [rd_lt h, List.drop_eq_getElem_cons h]
theorem take_rd {l : List Int} {i : Nat} (h : i < l.length) : l.take (i + 1) = l.take i ++ [rd l (i : Int)] := by
  rw [rd_lt h, List.take_succ_eq_append_getElem h]
theorem El.rd {p : Int} {l : List Int} (h : El p l) {i : Nat} (hi : i < l.length) : 0 ≤ rd l (i : Int) ∧ rd l (i : Int) < p := by
  rw [rd_lt hi]; exact h _ (List.getElem_mem hi)
theorem Wd.rd {l : List Int} (h : Wd l) {i : Nat} (hi : i < l.length) : 0 ≤ _root_.Go.Proofs.YtbjanbbjjnoecaaW.PrintWords.rd l (i : Int) ∧ _root_.Go.Proofs.YtbjanbbjjnoecaaW.PrintWords.rd l (i : Int) < 18446744073709551616 := by
  rw [rd_lt hi]; exact h _ (List.getElem_mem hi)
theorem w64_succ {i : Nat} (h : i < 4611686018427387904) : wrap64 ((i : Int) + 1) = ((i + 1 : Nat) : Int) := by unfold wrap64; omega
theorem w64_in {i : Int} (h : -9223372036854775808 ≤ i) (h1 : i < 9223372036854775808) : wrap64 i = i := by unfold wrap64; omega

end Go.Proofs.Ytbjanbbjjnoecaa.M
