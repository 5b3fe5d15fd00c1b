/- Small words on 'from some number of rounds on', and on remainders. -/
import Derived.Test.YtbjanbbjjnoecaaWMore
import Derived.Test.YtbjanbbjjnoecaaMA
namespace Go.Proofs.Ytbjanbbjjnoecaa.M
open Go.RowKit Go Go.Proofs.YtbjanbbjjnoecaaW.PrintWords Go.Proofs.YtbjanbbjjnoecaaW.PrintLast Go.Proofs.YtbjanbbjjnoecaaW.PrintMore

theorem Ev.pos {α : Type} {c : Prop} [Decidable c] {x y : Nat → Option α} {r : α} (h : c) (k : Ev x r) : Ev (fun n => if c then x n else y n) r := by
  simpa only [if_pos h] using k
theorem Ev.neg {α : Type} {c : Prop} [Decidable c] {x y : Nat → Option α} {r : α} (h : ¬ c) (k : Ev y r) : Ev (fun n => if c then x n else y n) r := by
  simpa only [if_neg h] using k
theorem Ev.ite {α : Type} {c : Prop} [Decidable c] {x y : Nat → Option α} {r : α} (h : c → Ev x r) (k : ¬ c → Ev y r) : Ev (fun n => if c then x n else y n) r := by
  by_cases hc : c
  · exact Ev.pos hc (h hc)
  · exact Ev.neg hc (k hc)
theorem Ev.bnd {α β : Type} {g : Option α} {f : Nat → α → Option β} {a : α} {r : β} (h : g = some a) (k : Ev (fun n => f n a) r) : Ev (fun n => g.bind (f n)) r := by
  subst h; exact k
theorem Ev.fix {α : Type} {g : Option α} {r : α} (h : g = some r) : Ev (fun _ => g) r := ⟨0, fun _ _ => h⟩
theorem Ev.cast {α : Type} {g : Nat → Option α} {r r' : α} (h : Ev g r) (e : r = r') : Ev g r' := e ▸ h

theorem emod_mul_l (a b p : Int) : (a % p * b) % p = a * b % p := by
  rw [Int.mul_emod, Int.emod_emod, ← Int.mul_emod]
theorem emod_mul_r (a b p : Int) : (a * (b % p)) % p = a * b % p := by
  rw [Int.mul_emod, Int.emod_emod, ← Int.mul_emod]
theorem emod_add_l (a b p : Int) : (a % p + b) % p = (a + b) % p := by
  rw [Int.add_emod, Int.emod_emod, ← Int.add_emod]
theorem emod_add_r (a b p : Int) : (a + b % p) % p = (a + b) % p := by
  rw [Int.add_emod, Int.emod_emod, ← Int.add_emod]
theorem emod_sub_l (a b p : Int) : (a % p - b) % p = (a - b) % p := by
  rw [Int.sub_emod, Int.emod_emod, ← Int.sub_emod]
theorem emod_sub_r (a b p : Int) : (a - b % p) % p = (a - b) % p := by
  rw [Int.sub_emod, Int.emod_emod, ← Int.sub_emod]
theorem emod_pow_l (a p : Int) : ∀ n : Nat, (a % p) ^ n % p = a ^ n % p
  | 0 => by simp
  | n + 1 => by rw [Int.pow_succ, Int.pow_succ, Int.mul_emod, emod_pow_l a p n, Int.emod_emod, ← Int.mul_emod]

end Go.Proofs.Ytbjanbbjjnoecaa.M
