/- Lists without the noughts at their end. Plain. -/
import Derived.Test.YtbjanbbjjnoecaaMG
namespace Go.Proofs.Ytbjanbbjjnoecaa.M
open Go.RowKit Go Go.Proofs.YtbjanbbjjnoecaaW.PrintWords Go.Proofs.YtbjanbbjjnoecaaW.PrintLast Go.Proofs.YtbjanbbjjnoecaaW.PrintMore

/-- How long a list is without noughts at its end, of its first n places. -/
def tl (l : List Int) : Nat → Nat
  | 0 => 0
  | n + 1 => if rd l (n : Int) = 0 then tl l n else n + 1
def trim (l : List Int) : List Int := l.take (tl l l.length)
theorem tl_le (l : List Int) : ∀ n, tl l n ≤ n
  | 0 => Nat.le_refl _
  | n + 1 => by
    rw [tl]; split
    · exact Nat.le_succ_of_le (tl_le l n)
    · exact Nat.le_refl _
theorem trim_len (l : List Int) : (trim l).length = tl l l.length := by
  unfold trim; rw [List.length_take]; exact Nat.min_eq_left (tl_le _ _)
theorem trim_le (l : List Int) : (trim l).length ≤ l.length := by rw [trim_len]; exact tl_le _ _
/-- A coefficient. -/
def cf (l : List Int) (i : Nat) : Int := rd l (i : Int)
theorem cf_ge {l : List Int} {i : Nat} (h : l.length ≤ i) : cf l i = 0 := by unfold cf rd; simp [h]
theorem cf_lt {l : List Int} {i : Nat} (h : i < l.length) : cf l i = l[i] := rd_lt h
theorem tl_zero (l : List Int) : ∀ n i, tl l n ≤ i → i < n → cf l i = 0
  | 0, _, _, h => absurd h (Nat.not_lt_zero _)
  | n + 1, i, h1, h2 => by
    rw [tl] at h1
    split at h1
    · rename_i c
      by_cases e : i = n
      · rw [e]; exact c
      · exact tl_zero l n i h1 (by omega)
    · omega
theorem tl_top (l : List Int) : ∀ n, tl l n ≠ 0 → cf l (tl l n - 1) ≠ 0
  | 0, h => absurd rfl h
  | n + 1, h => by
    rw [tl] at h ⊢
    split
    · rename_i c
      rw [if_pos c] at h
      exact tl_top l n h
    · rename_i c
      exact c
theorem cf_take {l : List Int} {n i : Nat} : cf (l.take n) i = if i < n then cf l i else 0 := by
  unfold cf rd
  simp only [Int.toNat_natCast, List.getD_eq_getElem?_getD, List.getElem?_take]
  split <;> rfl
theorem cf_trim (l : List Int) (i : Nat) : cf (trim l) i = cf l i := by
  unfold trim
  rw [cf_take]
  split
  · rfl
  · by_cases h : i < l.length
    · exact (tl_zero l _ i (by omega) h).symm
    · exact (cf_ge (by omega)).symm
theorem trim_top {l : List Int} (h : trim l ≠ []) : cf l ((trim l).length - 1) ≠ 0 := by
  rw [trim_len]
  refine tl_top l _ ?_
  intro e
  apply h
  rw [← List.length_eq_zero_iff, trim_len, e]
theorem ext_cf {a b : List Int} (h : a.length = b.length) (k : ∀ i, cf a i = cf b i) : a = b := ext_rd h fun i _ => k i
/-- Trimmed lists with the same coefficients are the same. -/
theorem trim_ext {a b : List Int} (h : ∀ i, cf a i = cf b i) : trim a = trim b := by
  have key : ∀ a b : List Int, (∀ i, cf a i = cf b i) → (trim a).length ≤ (trim b).length := by
    intro a b h
    by_cases c : trim a = []
    · rw [c]; exact Nat.zero_le _
    · have h1 := trim_top c
      rw [h, ← cf_trim] at h1
      have : (trim a).length ≠ 0 := fun e => c (List.length_eq_zero_iff.1 e)
      have h2 : (trim a).length - 1 < (trim b).length := Nat.lt_of_not_le fun e => h1 (cf_ge e)
      omega
  refine ext_cf (Nat.le_antisymm (key a b h) (key b a fun i => (h i).symm)) fun i => ?_
  rw [cf_trim, cf_trim, h]
theorem trim_trim (l : List Int) : trim (trim l) = trim l := trim_ext (cf_trim l)
theorem trim_nil : trim [] = [] := rfl
theorem trim_el {p : Int} {l : List Int} (h : El p l) : El p (trim l) := fun x hx => h x (List.mem_of_mem_take hx)
theorem trim_wd {l : List Int} (h : Wd l) : Wd (trim l) := fun x hx => h x (List.mem_of_mem_take hx)

end Go.Proofs.Ytbjanbbjjnoecaa.M
