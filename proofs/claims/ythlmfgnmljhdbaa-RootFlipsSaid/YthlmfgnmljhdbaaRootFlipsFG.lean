/- What the functions of layer 2 answer, the program's and the reference's. -/
import Derived.Test.YthlmfgnmljhdbaaMR
import Derived.Test.YthlmfgnmljhdbaaRootFlipsFB
import Derived.Test.YthlmfgnmljhdbaaRootFlipsFC
namespace Go.Proofs.Ythlmfgnmljhdbaa.FRootFlips
open Go.RowKit Go Go.Proofs.YthlmfgnmljhdbaaW.PrintWords Go.Proofs.YthlmfgnmljhdbaaW.PrintLast Go.Proofs.YthlmfgnmljhdbaaW.PrintMore Go.Proofs.Ythlmfgnmljhdbaa.M Go.Proofs.Ythlmfgnmljhdbaa.PRootFlips

theorem shr64 (x : Int) (n : Int) (h0 : 0 ≤ n) (h : n ≤ 64) : shr .u64 x n = x / 2 ^ n.toNat := by
  unfold shr
  rw [show IntKind.u64.bits = 64 from rfl, Nat.min_eq_left (by omega)]
theorem shl64 (n : Int) (h0 : 0 ≤ n) (h : n ≤ 62) : shl .i64 1 n = 2 ^ n.toNat := by
  unfold shl
  rw [show IntKind.i64.bits = 64 from rfl, Nat.min_eq_left (by omega), Int.one_mul]
  have h1 : (2 : Int) ^ n.toNat ≤ 2 ^ 62 := by
    have := Nat.pow_le_pow_right (n := 2) (by decide) (show n.toNat ≤ 62 by omega)
    have e : ∀ k : Nat, (2 : Int) ^ k = ((2 ^ k : Nat) : Int) := fun k => by simp
    rw [e, e]; exact Int.ofNat_le.2 this
  have h2 : (0 : Int) < 2 ^ n.toNat := Int.pow_pos (by decide)
  exact IntWalk.i64_in _ ⟨by omega, by omega⟩
theorem tonat_div {x : Int} (h : 0 ≤ x) (n : Nat) : (x / 2 ^ n).toNat = x.toNat / 2 ^ n := by
  obtain ⟨m, rfl⟩ := Int.eq_ofNat_of_zero_le h
  have e : (2 : Int) ^ n = ((2 ^ n : Nat) : Int) := by simp
  rw [e, ← Int.natCast_ediv]; rfl
theorem two_le {i j : Nat} (h : i ≤ j) : (2 : Int) ^ i ≤ 2 ^ j := by
  have e : ∀ k : Nat, (2 : Int) ^ k = ((2 ^ k : Nat) : Int) := fun k => by simp
  rw [e, e]; exact Int.ofNat_le.2 (Nat.pow_le_pow_right (by decide) h)
theorem ok_nil (f : Int) : ok f [] = decide (P f ≠ 0) := by unfold ok; simp [allIn_nil]
theorem f_cases {f : Int} (h : P f ≠ 0) : f = 1 ∨ f = 2 := by
  rcases P_cases f with ⟨e, _⟩ | ⟨e, _⟩ | ⟨_, _, e⟩
  · exact .inl e
  · exact .inr e
  · exact absurd e h

theorem Two_eq (f : Int) : Ev (fun k => root_Two.f k f) (twoE f) := by
  unfold root_Two.f twoE
  refine Ev.bind (In_eq f [] (by simp)) ?_
  rw [ok_nil]
  by_cases h : P f = 0
  · rw [if_pos h]
    exact Ev.neg (by simp [h]) (Ev.fix rfl)
  · rw [if_neg h]
    refine Ev.pos (by simp [h]) (Ev.bnd (a := (0, 27, 32)) rfl ?_)
    rcases f_cases h with rfl | rfl
    · exact Ev.fix (by decide)
    · exact Ev.fix (by decide)
theorem Root_eq (f n : Int) : Ev (fun k => root_Root.f k f n) (rootE f n) := by
  unfold root_Root.f
  refine Ev.bind (Two_eq f) ?_
  have no : Ev (fun k => root_Root.j0 k f n true) (0, 2) := Ev.step (fun k => by rw [root_Root.j0]) (Ev.pos rfl (Ev.fix rfl))
  by_cases h : P f = 0
  · have e1 : twoE f = (0, 2) := by unfold twoE; rw [if_pos h]
    have e2 : rootE f n = (0, 2) := by unfold rootE; rw [if_pos (.inl h)]
    rw [e1, e2]
    exact Ev.neg (by decide) no
  · have e1 : twoE f = (lg f, 0) := by unfold twoE; rw [if_neg h]
    rw [e1]
    refine Ev.pos rfl (Ev.ite (fun c => ?_) (fun c => ?_))
    · have e2 : rootE f n = (0, 2) := by unfold rootE; rw [if_pos (.inr (.inl c))]
      rw [e2]; exact no
    · refine Ev.step (fun k => by rw [root_Root.j0]) (Ev.ite (fun c1 => ?_) (fun c1 => ?_))
      · have c1 : n > lg f := by simpa using c1
        have e2 : rootE f n = (0, 2) := by unfold rootE; rw [if_pos (.inr (.inr c1))]
        rw [e2]; exact Ev.fix rfl
      · have c1 : ¬ n > lg f := by simpa using c1
        have e2 : rootE f n = (rt f n.toNat, 0) := by unfold rootE; rw [if_neg (by omega)]
        rw [e2]
        have hp := P_pr h
        have hlo := hp.lo; have hhi := hp.hi; have hlg := lg_rng f
        refine Ev.bind (Prime_eq f) ?_
        rw [if_neg h]
        refine Ev.pos rfl (Ev.bnd (a := (0, 31, 7)) rfl ?_)
        have hg := gen_rng h
        have hb : 0 ≤ (P f - 1) / 2 ^ n.toNat ∧ (P f - 1) / 2 ^ n.toNat ≤ P f - 1 := ⟨Int.ediv_nonneg (by omega) (Int.le_of_lt (Int.pow_pos (by decide))), Int.ediv_le_self _ (by omega)⟩
        have hP : Ev (fun k => field_Pow.f k f (gen f) ((P f - 1) / 2 ^ n.toNat)) (rt f n.toNat, 0) := by
          refine Ev.cast (Pow_eq f _ _ hg.1 hb.1 (by omega)) ?_
          rw [if_pos (by rw [ok_iff]; exact ⟨h, fun x hx => by simp at hx; subst hx; exact hg.2⟩), tonat_div (by omega)]
          rfl
        dsimp only
        rw [u64w_in _ (by omega) (by omega), shr64 _ _ (by omega) (by omega)]
        rcases f_cases h with rfl | rfl
        · refine Ev.neg (by decide) (Ev.pos rfl (Ev.pos (by omega) (Ev.bind hP (Ev.fix rfl))))
        · refine Ev.neg (by decide) (Ev.neg (by decide) (Ev.pos rfl (Ev.pos (by omega) (Ev.bind hP (Ev.fix rfl)))))
theorem or1 (x : Int) (h0 : 0 ≤ x) (h1 : x < 4611686018427387904) (b : Int) (hb : b = 0 ∨ b = 1) : Go.bits .or .i64 (x * 2) b = 2 * x + b := by
  have hk : ∀ n : Int, 0 ≤ n → n < 2 ^ 63 → IntKind.i64.wrap n = n := fun n a c => IntWalk.i64_in _ ⟨by omega, by simp at c; omega⟩
  rw [bits_join .i64 63 (by decide) hk 1 (x * 2) b (by omega) (by omega) (by simp; omega) (by omega) (by simp; omega) (by simp; omega)]
  omega
theorem and1i (x : Int) (h0 : 0 ≤ x) (h1 : x < 9223372036854775808) : Go.bits .and .i64 x 1 = x % 2 :=
  bits_mask .i64 63 (by decide) (fun n a c => IntWalk.i64_in _ ⟨by omega, by simp at c; omega⟩) 1 (by decide) x h0 (by simpa using h1)
theorem flip_loop (l : Nat) (hl : l ≤ 32) : ∀ (d i : Nat) (n out : Int), 0 ≤ n → n < 9223372036854775808 → 0 ≤ out → out < 2 ^ i → i + d = l →
    Ev (fun k => root_Flip.l0 k n out (l : Int) (i : Int)) (flp d n out, 0) := by
  intro d
  induction d with
  | zero =>
    intro i n out _ _ _ _ hd
    refine Ev.step (fun k => by rw [root_Flip.l0]) ?_
    exact Ev.neg (by omega) (Ev.fix rfl)
  | succ d ih =>
    intro i n out hn hn1 ho ho1 hd
    have h1 := two_le (show i ≤ 32 by omega)
    have h2 : (2 : Int) ^ (i + 1) = 2 ^ i * 2 := Int.pow_succ _ _
    refine Ev.step (fun k => by rw [root_Flip.l0]) (Ev.pos (by omega) ?_)
    rw [w64_succ (by omega), w64_in (by omega) (by omega), and1i n hn hn1, or1 out ho (by omega) _ (by omega), flp]
    exact ih (i + 1) _ _ (by omega) (by omega) (by omega) (by omega) (by omega)
theorem Flip_eq (n l : Int) (hn : n < 9223372036854775808) : Ev (fun k => root_Flip.f k n l) (flipE n l) := by
  unfold root_Flip.f flipE
  have no : Ev (fun k => root_Flip.j0 k n l true) (0, 2) := Ev.step (fun k => by rw [root_Flip.j0]) (Ev.pos rfl (Ev.fix rfl))
  refine Ev.ite (fun c => ?_) (fun c => Ev.ite (fun c1 => ?_) (fun c1 => Ev.ite (fun c2 => ?_) (fun c2 => Ev.pos (by omega) ?_)))
  · rw [if_pos (.inl c)]; exact no
  · rw [if_pos (.inr (.inl c1))]; exact no
  · rw [if_pos (.inr (.inr (.inl c2)))]; exact no
  · rw [shl64 l (by omega) (by omega)]
    by_cases c3 : n ≥ 2 ^ l.toNat
    · rw [if_pos (.inr (.inr (.inr c3))), decide_eq_true c3]; exact no
    · rw [if_neg (by omega), decide_eq_false c3]
      refine Ev.step (fun k => by rw [root_Flip.j0]) (Ev.neg (by decide) ?_)
      have := flip_loop l.toNat (by omega) l.toNat 0 n 0 (by omega) hn (by omega) (by decide) (by omega)
      rw [show ((l.toNat : Nat) : Int) = l by omega] at this
      exact this
theorem anchored2 : Ev (fun k => conclavelaw02_anchored.f k) true := by
  have h1 : Ev (fun k => root_Root.f k 2 1) (18446744069414584320, 0) := Ev.cast (Root_eq 2 1) (by
    have e : rt 2 1 = 18446744069414584320 := rt_one (f := 2) (by decide)
    unfold rootE
    rw [if_neg (by decide), show (1 : Int).toNat = 1 from rfl, e])
  have h2 : Ev (fun k => root_Root.f k 1 1) (2013265920, 0) := Ev.cast (Root_eq 1 1) (by
    have e : rt 1 1 = 2013265920 := rt_one (f := 1) (by decide)
    unfold rootE
    rw [if_neg (by decide), show (1 : Int).toNat = 1 from rfl, e])
  have h3 : Ev (fun k => root_Two.f k 0) (0, 2) := Ev.cast (Two_eq 0) (by decide)
  unfold conclavelaw02_anchored.f
  exact Ev.bind h1 (Ev.bind h2 (Ev.bind h3 (Ev.fix (by decide))))

end Go.Proofs.Ythlmfgnmljhdbaa.FRootFlips
