/- Values of polynomials; a polynomial times a number. Plain. -/
import Derived.Test.YtbjanbbjjnoecaaMQ
namespace Go.Proofs.Ytbjanbbjjnoecaa.M
open Go.RowKit Go Go.Proofs.YtbjanbbjjnoecaaW.PrintWords Go.Proofs.YtbjanbbjjnoecaaW.PrintLast Go.Proofs.YtbjanbbjjnoecaaW.PrintMore

/-- The first m summands of a value. -/
def sm (l : List Int) (x : Int) : Nat → Int
  | 0 => 0
  | m + 1 => sm l x m + cf l m * x ^ m
theorem cf_cons_zero (c : Int) (r : List Int) : cf (c :: r) 0 = c := rfl
theorem cf_cons_succ (c : Int) (r : List Int) (m : Nat) : cf (c :: r) (m + 1) = cf r m := by
  unfold cf rd; simp
theorem sm_cons (c : Int) (r : List Int) (x : Int) : ∀ m, sm (c :: r) x (m + 1) = c + x * sm r x m
  | 0 => by simp [sm, cf_cons_zero]
  | m + 1 => by
    rw [sm, sm_cons c r x m, cf_cons_succ, sm, Int.pow_succ]
    grind
/-- The value, by Horner's way. -/
theorem horner (p x : Int) : ∀ l : List Int, l.foldr (fun c s => (s * x % p + c) % p) 0 = sm l x l.length % p
  | [] => by simp [sm]
  | c :: r => by
    rw [List.foldr_cons, horner p x r, List.length_cons, sm_cons, emod_mul_l, emod_add_l]
    congr 1; grind
theorem trim_none {l : List Int} (h : ∀ i, cf l i = 0) : trim l = [] := by
  rw [trim_ext (b := []) (fun i => by rw [h, cf_nil]), trim_nil]
def scaleP (p c : Int) (a : List Int) : List Int := trim (pol a.length fun i => cf a i * c % p)
theorem scale_mul {p : Int} (hp : Pr p) {c : Int} (hc : 0 ≤ c ∧ c < p) {a : List Int} (ea : El p a) :
    (if trim [c] = [] ∨ trim a = [] then [] else mulP p (trim [c]) (trim a)) = scaleP p c a := by
  have hlo := hp.lo
  have z : ∀ i, cf (pol a.length fun i => cf a i * c % p) i = cf a i * c % p := fun i => by
    rw [cf_pol]; split
    · rfl
    · rw [cf_ge (l := a) (by omega)]; simp
  split
  · rename_i h
    refine (trim_none fun i => ?_).symm
    rw [z]
    rcases h with h | h
    · have : cf [c] 0 = 0 := by rw [← cf_trim, h, cf_nil]
      rw [show c = 0 from this]; simp
    · rw [← cf_trim a, h, cf_nil]; simp
  · rename_i h
    have ec : El p [c] := El.cons hc El.nil
    rw [← mulP_top hp (trim_trim _) (trim_trim _) (trim_el ec) (trim_el ea)]
    refine trim_ext fun i => ?_
    rw [z]
    have l1 : (trim [c]).length = 1 := by
      have h1 := trim_le [c]
      have h2 : (trim [c]).length ≠ 0 := fun e => h (.inl (List.length_eq_zero_iff.1 e))
      simp at h1; omega
    unfold mulP
    rw [if_neg h, cf_pol, l1]
    have h3 : (trim a).length ≠ 0 := fun e => h (.inr (List.length_eq_zero_iff.1 e))
    split
    · rw [cv, cv, if_pos (Nat.zero_le _), Nat.sub_zero, cf_trim, cf_trim]
      congr 1
      rw [show cf [c] 0 = c from rfl]; grind
    · rw [← cf_trim a, cf_ge (l := trim a) (by omega)]; simp

end Go.Proofs.Ytbjanbbjjnoecaa.M
