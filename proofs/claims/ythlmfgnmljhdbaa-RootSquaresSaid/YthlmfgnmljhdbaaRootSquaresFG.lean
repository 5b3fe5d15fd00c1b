/- What the functions of layer 2 answer, the program's and the reference's. -/
import Derived.Test.YthlmfgnmljhdbaaMR
import Derived.Test.YthlmfgnmljhdbaaRootSquaresFB
import Derived.Test.YthlmfgnmljhdbaaRootSquaresFC
namespace Go.Proofs.Ythlmfgnmljhdbaa.FRootSquares
open Go.RowKit Go Go.Proofs.YthlmfgnmljhdbaaW.PrintWords Go.Proofs.YthlmfgnmljhdbaaW.PrintLast Go.Proofs.YthlmfgnmljhdbaaW.PrintMore Go.Proofs.Ythlmfgnmljhdbaa.M Go.Proofs.Ythlmfgnmljhdbaa.PRootSquares

theorem shr64 (x : Int) (n : Int) (h0 : 0 ≤ n) (h : n ≤ 64) : shr .u64 x n = x / 2 ^ n.toNat := by
  unfold shr
  rw [show IntKind.u64.bits = 64 from rfl, Nat.min_eq_left (by omega)]
theorem shl64 (n : Int) (h0 : 0 ≤ n) (h : n ≤ 62) : shl .i64 1 n = 2 ^ n.toNat := by
  unfold shl
  rw [show IntKind.i64.bits = 64 from rfl, Nat.min_eq_left (by omega), Int.one_mul]
  have h1 : (2 : Int) ^ n.toNat ≤ 2 ^ 62 := by
    have := Nat.pow_le_pow_right (n := 2) (by decide) (show n.toNat ≤ 62 by omega)
    have e : ∀ k : Nat, (2 : Int) ^ k = ((2 ^ k : Nat) : Int) := fun k => by simp
    rw [e, e]; exact Int.ofNat_le.2 this
  have h2 : (0 : Int) < 2 ^ n.toNat := Int.pow_pos (by decide)
  exact IntWalk.i64_in _ ⟨by omega, by omega⟩
theorem tonat_div {x : Int} (h : 0 ≤ x) (n : Nat) : (x / 2 ^ n).toNat = x.toNat / 2 ^ n := by
  obtain ⟨m, rfl⟩ := Int.eq_ofNat_of_zero_le h
  have e : (2 : Int) ^ n = ((2 ^ n : Nat) : Int) := by simp
  rw [e, ← Int.natCast_ediv]; rfl
theorem two_le {i j : Nat} (h : i ≤ j) : (2 : Int) ^ i ≤ 2 ^ j := by
  have e : ∀ k : Nat, (2 : Int) ^ k = ((2 ^ k : Nat) : Int) := fun k => by simp
  rw [e, e]; exact Int.ofNat_le.2 (Nat.pow_le_pow_right (by decide) h)
theorem ok_nil (f : Int) : ok f [] = decide (P f ≠ 0) := by unfold ok; simp [allIn_nil]
theorem f_cases {f : Int} (h : P f ≠ 0) : f = 1 ∨ f = 2 := by
  rcases P_cases f with ⟨e, _⟩ | ⟨e, _⟩ | ⟨_, _, e⟩
  · exact .inl e
  · exact .inr e
  · exact absurd e h

theorem Two_eq (f : Int) : Ev (fun k => root_Two.f k f) (twoE f) := by
  unfold root_Two.f twoE
  refine Ev.bind (In_eq f [] (by simp)) ?_
  rw [ok_nil]
  by_cases h : P f = 0
  · rw [if_pos h]
    exact Ev.neg (by simp [h]) (Ev.fix rfl)
  · rw [if_neg h]
    refine Ev.pos (by simp [h]) (Ev.bnd (a := (0, 27, 32)) rfl ?_)
    rcases f_cases h with rfl | rfl
    · exact Ev.fix (by decide)
    · exact Ev.fix (by decide)
theorem Root_eq (f n : Int) : Ev (fun k => root_Root.f k f n) (rootE f n) := by
  unfold root_Root.f
  refine Ev.bind (Two_eq f) ?_
  have no : Ev (fun k => root_Root.j0 k f n true) (0, 2) := Ev.step (fun k => by rw [root_Root.j0]) (Ev.pos rfl (Ev.fix rfl))
  by_cases h : P f = 0
  · have e1 : twoE f = (0, 2) := by unfold twoE; rw [if_pos h]
    have e2 : rootE f n = (0, 2) := by unfold rootE; rw [if_pos (.inl h)]
    rw [e1, e2]
    exact Ev.neg (by decide) no
  · have e1 : twoE f = (lg f, 0) := by unfold twoE; rw [if_neg h]
    rw [e1]
    refine Ev.pos rfl (Ev.ite (fun c => ?_) (fun c => ?_))
    · have e2 : rootE f n = (0, 2) := by unfold rootE; rw [if_pos (.inr (.inl c))]
      rw [e2]; exact no
    · refine Ev.step (fun k => by rw [root_Root.j0]) (Ev.ite (fun c1 => ?_) (fun c1 => ?_))
      · have c1 : n > lg f := by simpa using c1
        have e2 : rootE f n = (0, 2) := by unfold rootE; rw [if_pos (.inr (.inr c1))]
        rw [e2]; exact Ev.fix rfl
      · have c1 : ¬ n > lg f := by simpa using c1
        have e2 : rootE f n = (rt f n.toNat, 0) := by unfold rootE; rw [if_neg (by omega)]
        rw [e2]
        have hp := P_pr h
        have hlo := hp.lo; have hhi := hp.hi; have hlg := lg_rng f
        refine Ev.bind (Prime_eq f) ?_
        rw [if_neg h]
        refine Ev.pos rfl (Ev.bnd (a := (0, 31, 7)) rfl ?_)
        have hg := gen_rng h
        have hb : 0 ≤ (P f - 1) / 2 ^ n.toNat ∧ (P f - 1) / 2 ^ n.toNat ≤ P f - 1 := ⟨Int.ediv_nonneg (by omega) (Int.le_of_lt (Int.pow_pos (by decide))), Int.ediv_le_self _ (by omega)⟩
        have hP : Ev (fun k => field_Pow.f k f (gen f) ((P f - 1) / 2 ^ n.toNat)) (rt f n.toNat, 0) := by
          refine Ev.cast (Pow_eq f _ _ hg.1 hb.1 (by omega)) ?_
          rw [if_pos (by rw [ok_iff]; exact ⟨h, fun x hx => by simp at hx; subst hx; exact hg.2⟩), tonat_div (by omega)]
          rfl
        dsimp only
        rw [u64w_in _ (by omega) (by omega), shr64 _ _ (by omega) (by omega)]
        rcases f_cases h with rfl | rfl
        · refine Ev.neg (by decide) (Ev.pos rfl (Ev.pos (by omega) (Ev.bind hP (Ev.fix rfl))))
        · refine Ev.neg (by decide) (Ev.neg (by decide) (Ev.pos rfl (Ev.pos (by omega) (Ev.bind hP (Ev.fix rfl)))))
theorem log_loop {f : Int} (h : P f ≠ 0) : ∀ (d : Nat) (a i : Int), 0 ≤ a → a < P f → 0 ≤ i → i + d = lg f →
    Ev (fun k => root_Log.l0 k f a i false (lg f)) ((lgr (P f) d a i).1, (lgr (P f) d a i).2, 0) := by
  have hlg := lg_rng f
  have hlo := (P_pr h).lo
  intro d
  induction d with
  | zero =>
    intro a i ha ha1 hi hd
    refine Ev.step (fun k => by rw [root_Log.l0]) ?_
    rw [lgr]
    refine Ev.ite (fun c => Ev.fix (by rw [if_pos c])) (fun c => Ev.pos (by omega) (Ev.fix (by rw [if_neg c])))
  | succ d ih =>
    intro a i ha ha1 hi hd
    refine Ev.step (fun k => by rw [root_Log.l0]) ?_
    rw [lgr]
    refine Ev.ite (fun c => Ev.fix (by rw [if_pos c])) (fun c => Ev.neg (by omega) ?_)
    rw [if_neg c]
    have hm : Ev (fun k => field_Mul.f k f a a) (a * a % P f, 0) := Ev.cast (Mul_eq f a a ha ha) (by
      rw [if_pos (by rw [ok_iff]; exact ⟨h, fun x hx => by simp at hx; subst hx; exact ha1⟩)])
    have r := emod_rng (p := P f) (a * a) (by omega)
    refine Ev.bind hm ?_
    rw [w64_in (by omega) (by omega)]
    exact ih _ _ r.1 r.2 (by omega) (by omega)
theorem Log_eq (f a : Int) (ha : 0 ≤ a) : Ev (fun k => root_Log.f k f a) (logE f a) := by
  unfold root_Log.f logE
  refine Ev.bind (In_eq f [a] (by simp)) (Ev.ite (fun c => ?_) (fun c => ?_))
  · rw [if_pos c]
    have h0 := ok_iff.1 c
    have hlg := lg_rng f
    refine Ev.ite (fun c1 => Ev.fix (by rw [if_pos c1])) (fun c1 => ?_)
    rw [if_neg c1]
    have hl := log_loop h0.1 (lg f).toNat a 0 ha (h0.2 a (by simp)) (by omega) (by omega)
    refine Ev.bnd (a := (0, 27, 32)) rfl ?_
    rcases f_cases h0.1 with rfl | rfl
    · exact Ev.neg (by decide) (Ev.pos rfl hl)
    · exact Ev.neg (by decide) (Ev.neg (by decide) (Ev.pos rfl hl))
  · rw [if_neg c]; exact Ev.fix rfl
theorem pows_loop {f : Int} (h : P f ≠ 0) {a : Int} (ha : 0 ≤ a) (ha1 : a < P f) (n : Nat) (hn : n ≤ 4096) : ∀ (d i : Nat) (A : List Int), i + d = n → A.length = n → (∀ j, j < i → rd A (j : Int) = a ^ j % P f) →
    Ev (fun k => root_Powers.l0 k f a A (a ^ i % P f) (n : Int) (i : Int)) (pows (P f) a n, 0) := by
  have hlo := (P_pr h).lo
  intro d
  induction d with
  | zero =>
    intro i A hi hA h1
    refine Ev.step (fun k => by rw [root_Powers.l0]) (Ev.neg (by omega) (Ev.fix ?_))
    congr 2
    refine ext_rd (by rw [hA, pows_len]) fun j hj => ?_
    rw [h1 j (by omega), rd_pows (by omega)]
  | succ d ih =>
    intro i A hi hA h1
    have r := emod_rng (p := P f) (a ^ i) (by omega)
    have hm : Ev (fun k => field_Mul.f k f (a ^ i % P f) a) (a ^ (i + 1) % P f, 0) := Ev.cast (Mul_eq f _ _ r.1 ha) (by
      rw [if_pos (by rw [ok_iff]; exact ⟨h, fun x hx => by simp at hx; rcases hx with rfl | rfl <;> omega⟩), emod_mul_l, Int.pow_succ])
    refine Ev.step (fun k => by rw [root_Powers.l0]) (Ev.pos (by omega) (Ev.pos (by omega) (Ev.pos (by omega) (Ev.bind hm ?_))))
    rw [w64_succ (by omega), Int.toNat_natCast]
    refine ih (i + 1) _ (by omega) (by simp [hA]) (fun j hj => ?_)
    rw [rd_set (by omega)]
    split
    · rename_i e; rw [e]
    · exact h1 j (by omega)
theorem Powers_eq (f a n : Int) (ha : 0 ≤ a) : Ev (fun k => root_Powers.f k f a n) (powsE f a n) := by
  unfold root_Powers.f powsE
  have no : Ev (fun k => root_Powers.j0 k f a n true) ([], 2) := Ev.step (fun k => by rw [root_Powers.j0]) (Ev.pos rfl (Ev.fix rfl))
  refine Ev.bind (In_eq f [a] (by simp)) (Ev.ite (fun c => ?_) (fun c => ?_))
  · have h0 := ok_iff.1 c
    by_cases c1 : n < 0
    · rw [if_neg (by omega), decide_eq_true c1]; exact no
    · rw [if_pos ⟨c, by omega⟩, decide_eq_false c1]
      refine Ev.step (fun k => by rw [root_Powers.j0]) (Ev.neg (by decide) (Ev.ite (fun c2 => Ev.fix (by rw [if_pos c2])) (fun c2 => ?_)))
      rw [if_neg c2]
      have := pows_loop h0.1 ha (h0.2 a (by simp)) n.toNat (by omega) n.toNat 0 (List.replicate n.toNat 0) (by omega) (by simp) (fun j hj => absurd hj (by omega))
      have e1 : a ^ 0 % P f = 1 := by rw [Int.pow_zero]; exact one_mod (P_pr h0.1)
      rw [e1] at this
      refine Ev.pos (by omega) (Ev.pos (by omega) (Ev.bnd rfl ?_))
      rw [List.length_replicate]
      exact this
  · rw [if_neg (fun h => c h.1)]; exact no
theorem anchored2 : Ev (fun k => conclavelaw02_anchored.f k) true := by
  have h1 : Ev (fun k => root_Root.f k 2 1) (18446744069414584320, 0) := Ev.cast (Root_eq 2 1) (by
    have e : rt 2 1 = 18446744069414584320 := rt_one (f := 2) (by decide)
    unfold rootE
    rw [if_neg (by decide), show (1 : Int).toNat = 1 from rfl, e])
  have h2 : Ev (fun k => root_Root.f k 1 1) (2013265920, 0) := Ev.cast (Root_eq 1 1) (by
    have e : rt 1 1 = 2013265920 := rt_one (f := 1) (by decide)
    unfold rootE
    rw [if_neg (by decide), show (1 : Int).toNat = 1 from rfl, e])
  have h3 : Ev (fun k => root_Two.f k 0) (0, 2) := Ev.cast (Two_eq 0) (by decide)
  unfold conclavelaw02_anchored.f
  exact Ev.bind h1 (Ev.bind h2 (Ev.bind h3 (Ev.fix (by decide))))

end Go.Proofs.Ythlmfgnmljhdbaa.FRootSquares
