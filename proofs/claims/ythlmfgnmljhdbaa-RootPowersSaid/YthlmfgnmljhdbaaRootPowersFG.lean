/- What the functions of layer 2 answer, the program's and the reference's. -/
import Derived.Test.YthlmfgnmljhdbaaMR
import Derived.Test.YthlmfgnmljhdbaaRootPowersFB
import Derived.Test.YthlmfgnmljhdbaaRootPowersFC
namespace Go.Proofs.Ythlmfgnmljhdbaa.FRootPowers
open Go.RowKit Go Go.Proofs.YthlmfgnmljhdbaaW.PrintWords Go.Proofs.YthlmfgnmljhdbaaW.PrintLast Go.Proofs.YthlmfgnmljhdbaaW.PrintMore Go.Proofs.Ythlmfgnmljhdbaa.M Go.Proofs.Ythlmfgnmljhdbaa.PRootPowers

theorem shr64 (x : Int) (n : Int) (h0 : 0 ≤ n) (h : n ≤ 64) : shr .u64 x n = x / 2 ^ n.toNat := by
  unfold shr
  rw [show IntKind.u64.bits = 64 from rfl, Nat.min_eq_left (by omega)]
theorem shl64 (n : Int) (h0 : 0 ≤ n) (h : n ≤ 62) : shl .i64 1 n = 2 ^ n.toNat := by
  unfold shl
  rw [show IntKind.i64.bits = 64 from rfl, Nat.min_eq_left (by omega), Int.one_mul]
  have h1 : (2 : Int) ^ n.toNat ≤ 2 ^ 62 := by
    have := Nat.pow_le_pow_right (n := 2) (by decide) (show n.toNat ≤ 62 by omega)
    have e : ∀ k : Nat, (2 : Int) ^ k = ((2 ^ k : Nat) : Int) := fun k => by simp
    rw [e, e]; exact Int.ofNat_le.2 this
  have h2 : (0 : Int) < 2 ^ n.toNat := Int.pow_pos (by decide)
  exact IntWalk.i64_in _ ⟨by omega, by omega⟩
theorem tonat_div {x : Int} (h : 0 ≤ x) (n : Nat) : (x / 2 ^ n).toNat = x.toNat / 2 ^ n := by
  obtain ⟨m, rfl⟩ := Int.eq_ofNat_of_zero_le h
  have e : (2 : Int) ^ n = ((2 ^ n : Nat) : Int) := by simp
  rw [e, ← Int.natCast_ediv]; rfl
theorem two_le {i j : Nat} (h : i ≤ j) : (2 : Int) ^ i ≤ 2 ^ j := by
  have e : ∀ k : Nat, (2 : Int) ^ k = ((2 ^ k : Nat) : Int) := fun k => by simp
  rw [e, e]; exact Int.ofNat_le.2 (Nat.pow_le_pow_right (by decide) h)
theorem ok_nil (f : Int) : ok f [] = decide (P f ≠ 0) := by unfold ok; simp [allIn_nil]
theorem f_cases {f : Int} (h : P f ≠ 0) : f = 1 ∨ f = 2 := by
  rcases P_cases f with ⟨e, _⟩ | ⟨e, _⟩ | ⟨_, _, e⟩
  · exact .inl e
  · exact .inr e
  · exact absurd e h

theorem pows_loop {f : Int} (h : P f ≠ 0) {a : Int} (ha : 0 ≤ a) (ha1 : a < P f) (n : Nat) (hn : n ≤ 4096) : ∀ (d i : Nat) (A : List Int), i + d = n → A.length = n → (∀ j, j < i → rd A (j : Int) = a ^ j % P f) →
    Ev (fun k => root_Powers.l0 k f a A (a ^ i % P f) (n : Int) (i : Int)) (pows (P f) a n, 0) := by
  have hlo := (P_pr h).lo
  intro d
  induction d with
  | zero =>
    intro i A hi hA h1
    refine Ev.step (fun k => by rw [root_Powers.l0]) (Ev.neg (by omega) (Ev.fix ?_))
    congr 2
    refine ext_rd (by rw [hA, pows_len]) fun j hj => ?_
    rw [h1 j (by omega), rd_pows (by omega)]
  | succ d ih =>
    intro i A hi hA h1
    have r := emod_rng (p := P f) (a ^ i) (by omega)
    have hm : Ev (fun k => field_Mul.f k f (a ^ i % P f) a) (a ^ (i + 1) % P f, 0) := Ev.cast (Mul_eq f _ _ r.1 ha) (by
      rw [if_pos (by rw [ok_iff]; exact ⟨h, fun x hx => by simp at hx; rcases hx with rfl | rfl <;> omega⟩), emod_mul_l, Int.pow_succ])
    refine Ev.step (fun k => by rw [root_Powers.l0]) (Ev.pos (by omega) (Ev.pos (by omega) (Ev.pos (by omega) (Ev.bind hm ?_))))
    rw [w64_succ (by omega), Int.toNat_natCast]
    refine ih (i + 1) _ (by omega) (by simp [hA]) (fun j hj => ?_)
    rw [rd_set (by omega)]
    split
    · rename_i e; rw [e]
    · exact h1 j (by omega)
theorem Powers_eq (f a n : Int) (ha : 0 ≤ a) : Ev (fun k => root_Powers.f k f a n) (powsE f a n) := by
  unfold root_Powers.f powsE
  have no : Ev (fun k => root_Powers.j0 k f a n true) ([], 2) := Ev.step (fun k => by rw [root_Powers.j0]) (Ev.pos rfl (Ev.fix rfl))
  refine Ev.bind (In_eq f [a] (by simp)) (Ev.ite (fun c => ?_) (fun c => ?_))
  · have h0 := ok_iff.1 c
    by_cases c1 : n < 0
    · rw [if_neg (by omega), decide_eq_true c1]; exact no
    · rw [if_pos ⟨c, by omega⟩, decide_eq_false c1]
      refine Ev.step (fun k => by rw [root_Powers.j0]) (Ev.neg (by decide) (Ev.ite (fun c2 => Ev.fix (by rw [if_pos c2])) (fun c2 => ?_)))
      rw [if_neg c2]
      have := pows_loop h0.1 ha (h0.2 a (by simp)) n.toNat (by omega) n.toNat 0 (List.replicate n.toNat 0) (by omega) (by simp) (fun j hj => absurd hj (by omega))
      have e1 : a ^ 0 % P f = 1 := by rw [Int.pow_zero]; exact one_mod (P_pr h0.1)
      rw [e1] at this
      refine Ev.pos (by omega) (Ev.pos (by omega) (Ev.bnd rfl ?_))
      rw [List.length_replicate]
      exact this
  · rw [if_neg (fun h => c h.1)]; exact no
theorem rPows_loop {f : Int} (h : P f ≠ 0) {a : Int} (ha : 0 ≤ a) (ha1 : a < P f) (n : Nat) (hn : n ≤ 4096) : ∀ (d i : Nat), i + d = n →
    Ev (fun k => conclaveref02_Powers.l0 k f a (n : Int) (pows (P f) a i) (a ^ i % P f) (i : Int)) (pows (P f) a n, 0) := by
  have hlo := (P_pr h).lo; have hhi := (P_pr h).hi
  intro d
  induction d with
  | zero =>
    intro i hi
    refine Ev.step (fun k => by rw [conclaveref02_Powers.l0]) (Ev.neg (by omega) (Ev.fix ?_))
    rw [show i = n by omega]
  | succ d ih =>
    intro i hi
    have r : 0 ≤ a ^ i % P f ∧ a ^ i % P f < P f := ⟨Int.emod_nonneg _ (by omega), Int.emod_lt_of_pos _ (by omega)⟩
    refine Ev.step (fun k => by rw [conclaveref02_Powers.l0]) (Ev.pos (by omega) (Ev.pos (by rw [pows_len]; omega) (Ev.bnd (rP f) (Ev.bind (rTimes (by omega) (by omega) r.1 r.2 ha (by omega)) ?_))))
    have := ih (i + 1) (by omega)
    rw [pows_succ, Int.pow_succ] at this
    rw [w64_succ (by omega), emod_mul_l]
    exact this
theorem rPowers (f a n : Int) (ha : 0 ≤ a) : Ev (fun k => conclaveref02_Powers.f k f a n) (powsE f a n) := by
  unfold conclaveref02_Powers.f powsE
  have no : Ev (fun k => conclaveref02_Powers.j0 k f a n true) ([], 2) := Ev.step (fun k => by rw [conclaveref02_Powers.j0]) (Ev.pos rfl (Ev.fix rfl))
  refine Ev.bind (rIn f [a] (by simp)) (Ev.ite (fun c => ?_) (fun c => ?_))
  · have h0 := ok_iff.1 c
    by_cases c1 : n < 0
    · rw [if_neg (by omega), decide_eq_true c1]; exact no
    · rw [if_pos ⟨c, by omega⟩, decide_eq_false c1]
      refine Ev.step (fun k => by rw [conclaveref02_Powers.j0]) (Ev.neg (by decide) (Ev.ite (fun c2 => Ev.fix (by rw [if_pos c2])) (fun c2 => ?_)))
      rw [if_neg c2]
      have := rPows_loop h0.1 ha (h0.2 a (by simp)) n.toNat (by omega) n.toNat 0 (by omega)
      have e1 : a ^ 0 % P f = 1 := by rw [Int.pow_zero]; exact one_mod (P_pr h0.1)
      rw [e1, show ((n.toNat : Nat) : Int) = n by omega] at this
      exact this
  · rw [if_neg (fun h => c h.1)]; exact no
theorem or1 (x : Int) (h0 : 0 ≤ x) (h1 : x < 4611686018427387904) (b : Int) (hb : b = 0 ∨ b = 1) : Go.bits .or .i64 (x * 2) b = 2 * x + b := by
  have hk : ∀ n : Int, 0 ≤ n → n < 2 ^ 63 → IntKind.i64.wrap n = n := fun n a c => IntWalk.i64_in _ ⟨by omega, by simp at c; omega⟩
  rw [bits_join .i64 63 (by decide) hk 1 (x * 2) b (by omega) (by omega) (by simp; omega) (by omega) (by simp; omega) (by simp; omega)]
  omega
theorem and1i (x : Int) (h0 : 0 ≤ x) (h1 : x < 9223372036854775808) : Go.bits .and .i64 x 1 = x % 2 :=
  bits_mask .i64 63 (by decide) (fun n a c => IntWalk.i64_in _ ⟨by omega, by simp at c; omega⟩) 1 (by decide) x h0 (by simpa using h1)
theorem flip_loop (l : Nat) (hl : l ≤ 32) : ∀ (d i : Nat) (n out : Int), 0 ≤ n → n < 9223372036854775808 → 0 ≤ out → out < 2 ^ i → i + d = l →
    Ev (fun k => root_Flip.l0 k n out (l : Int) (i : Int)) (flp d n out, 0) := by
  intro d
  induction d with
  | zero =>
    intro i n out _ _ _ _ hd
    refine Ev.step (fun k => by rw [root_Flip.l0]) ?_
    exact Ev.neg (by omega) (Ev.fix rfl)
  | succ d ih =>
    intro i n out hn hn1 ho ho1 hd
    have h1 := two_le (show i ≤ 32 by omega)
    have h2 : (2 : Int) ^ (i + 1) = 2 ^ i * 2 := Int.pow_succ _ _
    refine Ev.step (fun k => by rw [root_Flip.l0]) (Ev.pos (by omega) ?_)
    rw [w64_succ (by omega), w64_in (by omega) (by omega), and1i n hn hn1, or1 out ho (by omega) _ (by omega), flp]
    exact ih (i + 1) _ _ (by omega) (by omega) (by omega) (by omega) (by omega)
theorem Flip_eq (n l : Int) (hn : n < 9223372036854775808) : Ev (fun k => root_Flip.f k n l) (flipE n l) := by
  unfold root_Flip.f flipE
  have no : Ev (fun k => root_Flip.j0 k n l true) (0, 2) := Ev.step (fun k => by rw [root_Flip.j0]) (Ev.pos rfl (Ev.fix rfl))
  refine Ev.ite (fun c => ?_) (fun c => Ev.ite (fun c1 => ?_) (fun c1 => Ev.ite (fun c2 => ?_) (fun c2 => Ev.pos (by omega) ?_)))
  · rw [if_pos (.inl c)]; exact no
  · rw [if_pos (.inr (.inl c1))]; exact no
  · rw [if_pos (.inr (.inr (.inl c2)))]; exact no
  · rw [shl64 l (by omega) (by omega)]
    by_cases c3 : n ≥ 2 ^ l.toNat
    · rw [if_pos (.inr (.inr (.inr c3))), decide_eq_true c3]; exact no
    · rw [if_neg (by omega), decide_eq_false c3]
      refine Ev.step (fun k => by rw [root_Flip.j0]) (Ev.neg (by decide) ?_)
      have := flip_loop l.toNat (by omega) l.toNat 0 n 0 (by omega) hn (by omega) (by decide) (by omega)
      rw [show ((l.toNat : Nat) : Int) = l by omega] at this
      exact this
theorem rFlip_loop (l : Nat) (hl : l ≤ 32) : ∀ (d i : Nat) (n out : Int), 0 ≤ n → n < 9223372036854775808 → 0 ≤ out → out < 2 ^ i → i + d = l →
    Ev (fun k => conclaveref02_Flip.l0 k n (l : Int) out (i : Int)) (flp d n out, 0) := by
  intro d
  induction d with
  | zero =>
    intro i n out _ _ _ _ hd
    refine Ev.step (fun k => by rw [conclaveref02_Flip.l0]) ?_
    exact Ev.neg (by omega) (Ev.fix rfl)
  | succ d ih =>
    intro i n out hn hn1 ho ho1 hd
    have h1 := two_le (show i ≤ 32 by omega)
    have h2 : (2 : Int) ^ (i + 1) = 2 ^ i * 2 := Int.pow_succ _ _
    refine Ev.step (fun k => by rw [conclaveref02_Flip.l0]) (Ev.pos (by omega) ?_)
    rw [w64_succ (by omega), Int.tdiv_eq_ediv_of_nonneg hn, Int.tmod_eq_emod_of_nonneg hn, w64_in (by omega) (by omega), w64_in (i := 2 * out) (by omega) (by omega), w64_in (by omega) (by omega), flp]
    exact ih (i + 1) _ _ (by omega) (by omega) (by omega) (by omega) (by omega)
theorem rFlip (n l : Int) (hn : n < 9223372036854775808) : Ev (fun k => conclaveref02_Flip.f k n l) (flipE n l) := by
  unfold conclaveref02_Flip.f flipE
  have no : Ev (fun k => conclaveref02_Flip.j0 k n l true) (0, 2) := Ev.step (fun k => by rw [conclaveref02_Flip.j0]) (Ev.pos rfl (Ev.fix rfl))
  refine Ev.ite (fun c => ?_) (fun c => Ev.ite (fun c1 => ?_) (fun c1 => Ev.ite (fun c2 => ?_) (fun c2 => Ev.pos (by rw [u64w]; omega) ?_)))
  · rw [if_pos (.inl c)]; exact no
  · rw [if_pos (.inr (.inl c1))]; exact no
  · rw [if_pos (.inr (.inr (.inl c2)))]; exact no
  · rw [u64w_in l (by omega) (by omega), shl64 l (by omega) (by omega)]
    by_cases c3 : n ≥ 2 ^ l.toNat
    · rw [if_pos (.inr (.inr (.inr c3))), decide_eq_true c3]; exact no
    · rw [if_neg (by omega), decide_eq_false c3]
      refine Ev.step (fun k => by rw [conclaveref02_Flip.j0]) (Ev.neg (by decide) ?_)
      have := rFlip_loop l.toNat (by omega) l.toNat 0 n 0 (by omega) hn (by omega) (by decide) (by omega)
      rw [show ((l.toNat : Nat) : Int) = l by omega] at this
      exact this

end Go.Proofs.Ythlmfgnmljhdbaa.FRootPowers
