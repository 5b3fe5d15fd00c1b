/- What the reference's functions of layer 1 answer. -/
import Derived.Test.YtbjanbbjjnoecaaMB
import Derived.Test.YtbjanbbjjnoecaaPPolyValuesx
namespace Go.Proofs.Ytbjanbbjjnoecaa.FPolyValues
open Go.RowKit Go Go.Proofs.YtbjanbbjjnoecaaW.PrintWords Go.Proofs.YtbjanbbjjnoecaaW.PrintLast Go.Proofs.YtbjanbbjjnoecaaW.PrintMore Go.Proofs.Ytbjanbbjjnoecaa.M Go.Proofs.Ytbjanbbjjnoecaa.PPolyValues

theorem rP (f : Int) : conclaveref01_P.f f = some (P f) := by
  unfold conclaveref01_P.f P; split <;> (try split) <;> rfl
theorem rSum {p a b : Int} (hp : 0 < p) (hp1 : p < 18446744073709551616) (ha : 0 ≤ a) (ha1 : a < p) (hb : 0 ≤ b) (hb1 : b < p) : conclaveref01_Sum.f p a b = some ((a + b) % p) := by
  have e : (a + b) % p = if a + b < p then a + b else a + b - p := by
    split
    · exact Int.emod_eq_of_lt (by omega) (by omega)
    · rw [← Int.sub_emod_right]; exact Int.emod_eq_of_lt (by omega) (by omega)
  unfold conclaveref01_Sum.f
  rw [e]
  simp only [u64w]
  (repeat' split) <;> first | (exfalso; omega) | (congr 1; omega)
theorem shr_eq (b : Int) (i : Nat) (hi : i < 64) : shr .u64 b (IntKind.u64.wrap (i : Int)) = b / 2 ^ i := by
  unfold shr
  rw [u64w_in _ (by omega) (by omega)]
  simp [IntKind.bits, Nat.min_eq_left (show i ≤ 64 by omega)]
theorem bit_split (b : Int) (i : Nat) : b % 2 ^ (i + 1) = (b / 2 ^ i % 2) * 2 ^ i + b % 2 ^ i := by
  have h : (2 : Int) ^ (i + 1) = 2 ^ i * 2 := Int.pow_succ _ _
  have hp : (0 : Int) < 2 ^ i := Int.pow_pos (by decide)
  have h1 := Int.emod_add_mul_ediv b (2 ^ i)
  have h2 := Int.emod_add_mul_ediv (b / 2 ^ i) 2
  have h3 := Int.emod_nonneg b (show (2 : Int) ^ i ≠ 0 by omega)
  have h4 := Int.emod_lt_of_pos b hp
  have h5 : (b / 2 ^ i % 2) * 2 ^ i + b % 2 ^ i < 2 ^ (i + 1) := by
    have : b / 2 ^ i % 2 = 0 ∨ b / 2 ^ i % 2 = 1 := by omega
    rcases this with e | e <;> rw [e, h] <;> omega
  have h6 : 0 ≤ (b / 2 ^ i % 2) * 2 ^ i + b % 2 ^ i := by
    have := Int.mul_nonneg (show 0 ≤ b / 2 ^ i % 2 by omega) (show (0 : Int) ≤ 2 ^ i by omega)
    omega
  have h7 : b = (b / 2 ^ i % 2) * 2 ^ i + b % 2 ^ i + 2 ^ (i + 1) * (b / 2 ^ i / 2) := by
    rw [h]
    generalize b / 2 ^ i = q at *
    generalize b % 2 ^ i = r at *
    generalize (2 : Int) ^ i = t at *
    generalize q % 2 = c at *
    generalize q / 2 = e at *
    subst h2
    rw [← h1]
    grind
  conv => lhs; rw [h7, Int.add_mul_emod_self_left]
  exact Int.emod_eq_of_lt h6 h5
theorem times_loop {p : Int} (hp : 0 < p) (hp1 : p < 18446744073709551616) {a b : Int} (ha : 0 ≤ a) (ha1 : a < p) (hb : 0 ≤ b) (hb1 : b < 18446744073709551616) : ∀ (d : Nat) (s : Int), d ≤ 64 → 0 ≤ s → s < p →
    Ev (fun k => conclaveref01_Times.l0 k p a b s ((d : Int) - 1)) ((s * 2 ^ d + (b % 2 ^ d) * a) % p) := by
  intro d
  induction d with
  | zero =>
    intro s _ hs hs1
    refine Ev.step (fun k => by rw [conclaveref01_Times.l0]) ?_
    refine Ev.neg (by omega) (Ev.fix ?_)
    simp [Int.emod_one, Int.emod_eq_of_lt hs hs1]
  | succ d ih =>
    intro s hd hs hs1
    have r1 : 0 ≤ (s + s) % p ∧ (s + s) % p < p := ⟨Int.emod_nonneg _ (by omega), Int.emod_lt_of_pos _ hp⟩
    have r2 : 0 ≤ ((s + s) % p + a) % p ∧ ((s + s) % p + a) % p < p := ⟨Int.emod_nonneg _ (by omega), Int.emod_lt_of_pos _ hp⟩
    have hi : wrap64 (((d + 1 : Nat) : Int) - 1 - 1) = (d : Int) - 1 := by rw [w64_in (by omega) (by omega)]; omega
    have hx : (((d + 1 : Nat) : Int) - 1) = ((d : Nat) : Int) := by omega
    refine Ev.step (fun k => by rw [conclaveref01_Times.l0]) ?_
    refine Ev.pos (by omega) (Ev.bnd (rSum hp hp1 hs hs1 hs hs1) ?_)
    rw [hi, hx, shr_eq b d (by omega)]
    have hbd : 0 ≤ b / 2 ^ d := Int.ediv_nonneg hb (Int.le_of_lt (Int.pow_pos (by decide)))
    have hbd1 : b / 2 ^ d ≤ b := Int.ediv_le_self _ hb
    rw [and1 _ hbd (by omega), bit_split b d]
    have h2 : (2 : Int) ^ (d + 1) = 2 ^ d * 2 := Int.pow_succ _ _
    refine Ev.pos (by rw [u64w]; omega) (Ev.ite (fun c => ?_) (fun c => ?_))
    · refine Ev.bnd (rSum hp hp1 r1.1 r1.2 ha ha1) (Ev.cast (ih _ (by omega) r2.1 r2.2) ?_)
      rw [c, ← emod_add_l ((((s + s) % p + a) % p) * 2 ^ d), emod_mul_l, ← emod_mul_l, emod_add_l (s + s) a p, emod_mul_l, emod_add_l, h2]
      congr 1; grind
    · have c0 : b / 2 ^ d % 2 = 0 := by omega
      refine Ev.cast (ih _ (by omega) r1.1 r1.2) ?_
      rw [c0, ← emod_add_l ((s + s) % p * 2 ^ d), emod_mul_l, emod_add_l, h2]
      congr 1; grind
theorem rTimes {p : Int} (hp : 0 < p) (hp1 : p < 18446744073709551616) {a b : Int} (ha : 0 ≤ a) (ha1 : a < p) (hb : 0 ≤ b) (hb1 : b < 18446744073709551616) : Ev (fun k => conclaveref01_Times.f k p a b) (a * b % p) := by
  have h := times_loop hp hp1 ha ha1 hb hb1 64 0 (by omega) (by omega) hp
  refine Ev.cast h ?_
  rw [Int.emod_eq_of_lt hb (by simpa using hb1)]
  congr 1; grind
theorem rIn_loop (p : Int) (l : List Int) (hl : l.length < 4611686018427387904) : ∀ (d i : Nat), i + d = l.length →
    Ev (fun k => conclaveref01_In.l0 k l p (i : Int)) (allIn p (l.drop i) && p != 0) := by
  intro d
  induction d with
  | zero =>
    intro i hi
    refine Ev.step (fun k => by rw [conclaveref01_In.l0]) ?_
    refine Ev.neg (by omega) (Ev.fix ?_)
    rw [List.drop_eq_nil_of_le (by omega), allIn_nil, Bool.true_and]
  | succ d ih =>
    intro i hi
    have hlt : i < l.length := by omega
    refine Ev.step (fun k => by rw [conclaveref01_In.l0]) ?_
    refine Ev.pos (by omega) (Ev.pos (by omega) ?_)
    rw [drop_rd hlt, allIn_cons]
    refine Ev.ite (fun c => ?_) (fun c => ?_)
    · refine Ev.fix ?_
      rw [decide_eq_false (by omega), Bool.false_and, Bool.false_and]
    · rw [decide_eq_true (by omega), Bool.true_and, w64_succ (by omega)]
      exact ih (i + 1) (by omega)
theorem rIn (f : Int) (l : List Int) (hl : l.length < 4611686018427387904) : Ev (fun k => conclaveref01_In.f k f l) (ok f l) := by
  unfold conclaveref01_In.f
  refine Ev.bnd (rP f) ?_
  have := rIn_loop (P f) l hl l.length 0 (by omega)
  refine Ev.cast this ?_
  unfold ok
  rw [List.drop_zero, Bool.and_comm]
  congr 1
  by_cases h : P f = 0 <;> simp [h]
theorem rSame_loop (a b : List Int) (hl : a.length < 4611686018427387904) (he : a.length = b.length) : ∀ (d i : Nat), i + d = a.length →
    Ev (fun k => conclaveref01_Same.l0 k a b (i : Int)) (decide (a.drop i = b.drop i)) := by
  intro d
  induction d with
  | zero =>
    intro i hi
    refine Ev.step (fun k => by rw [conclaveref01_Same.l0]) ?_
    refine Ev.neg (by omega) (Ev.fix ?_)
    rw [List.drop_eq_nil_of_le (by omega), List.drop_eq_nil_of_le (by omega)]; simp
  | succ d ih =>
    intro i hi
    refine Ev.step (fun k => by rw [conclaveref01_Same.l0]) ?_
    refine Ev.pos (by omega) (Ev.pos (by omega) ?_)
    rw [drop_rd (l := a) (by omega), drop_rd (l := b) (by omega), w64_succ (by omega)]
    have hb : (i : Int) < (b.length : Int) := by omega
    by_cases c : rd a (i : Int) = rd b (i : Int)
    · refine Ev.cast (r := decide (a.drop (i + 1) = b.drop (i + 1))) ?_ (by simp [c])
      simp only [hb, c, if_true]
      exact ih (i + 1) (by omega)
    · refine Ev.cast (r := false) ?_ (by simp [c])
      simp only [hb, c, if_true, if_false]
      exact Ev.fix rfl
theorem rSame (a b : List Int) (hl : a.length < 4611686018427387904) : Ev (fun k => conclaveref01_Same.f k a b) (decide (a = b)) := by
  unfold conclaveref01_Same.f
  by_cases he : a.length = b.length
  · have h := rSame_loop a b hl he a.length 0 (by omega)
    rw [List.drop_zero, List.drop_zero] at h
    have he' : (a.length : Int) = (b.length : Int) := by omega
    simp only [he', if_true]
    exact h
  · refine Ev.cast (r := false) ?_ (by rw [decide_eq_false]; rintro rfl; exact he rfl)
    have he' : ¬ (a.length : Int) = (b.length : Int) := by omega
    simp only [he', if_false]
    exact Ev.fix rfl

end Go.Proofs.Ytbjanbbjjnoecaa.FPolyValues
