/- RootSquares: squared, a root is the one of the log below; its log is told; its powers sum up to 0. For every two bytes. -/
import Derived.Test.YthlmfgnmljhdbaaRootSquaresFG
namespace Go.Proofs.Ythlmfgnmljhdbaa.Pure
open Go.RowKit Go.Proofs.Ythlmfgnmljhdbaa.PRootSquares Go.Proofs.YthlmfgnmljhdbaaW.PrintWords Go.Proofs.YthlmfgnmljhdbaaW.PrintLast Go.Proofs.Ythlmfgnmljhdbaa.M Go.Proofs.Ythlmfgnmljhdbaa.FRootSquares

/-- The sum of a list. -/
def tot : List Int → Int
  | [] => 0
  | x :: l => x + tot l
theorem tot_snoc (l : List Int) (x : Int) : tot (l ++ [x]) = tot l + x := by
  induction l with
  | nil => simp [tot]
  | cons y l ih => simp [tot, ih]; omega
theorem geo (p w : Int) : ∀ n : Nat, (w - 1) * tot (pows p w n) % p = (w ^ n - 1) % p
  | 0 => by simp [pows, tot]
  | n + 1 => by
    have ih := geo p w n
    rw [pows_succ, tot_snoc, Int.mul_add, Int.add_emod, ih, emod_mul_r, ← Int.add_emod]
    congr 1
    rw [Int.pow_succ]; grind
theorem rt_pow {f : Int} (h : P f ≠ 0) : ∀ (n : Nat), (n : Int) ≤ lg f → rt f n ^ 2 ^ n % P f = 1
  | 0, _ => by
    rw [rt_zero h]; simpa using one_mod (P_pr h)
  | n + 1, hn => by
    have ih := rt_pow h n (by omega)
    rw [Nat.pow_succ, Nat.mul_comm, Int.pow_mul, ← emod_pow_l, show rt f (n + 1) ^ 2 = rt f (n + 1) * rt f (n + 1) by rw [Int.pow_succ, Int.pow_succ]; simp, rt_sq h n hn]
    exact ih
theorem sum_zero {f : Int} (h : P f ≠ 0) (n : Nat) (h0 : n ≠ 0) (hn : (n : Int) ≤ lg f) : tot (pows (P f) (rt f n) (2 ^ n)) % P f = 0 := by
  have hp := P_pr h
  have hlo := hp.lo
  have r := rt_rng h n
  have h1 := geo (P f) (rt f n) (2 ^ n)
  rw [← emod_sub_l, rt_pow h n hn] at h1
  have h2 := rt_ne h n h0 hn
  refine Classical.byContradiction fun c => no_zero hp ?_ c (h1.trans (by simp))
  by_cases c0 : rt f n = 0
  · rw [c0, show (0 : Int) - 1 = -1 from rfl, ← Int.add_emod_right, Int.emod_eq_of_lt (by omega) (by omega)]; omega
  · rw [Int.emod_eq_of_lt (by omega) (by omega)]; omega
theorem sum_loop {f : Int} (h : P f ≠ 0) (n : Nat) (x : List Int) (he : El (P f) x) (hl : x.length = 2 ^ n) (hn : n ≤ 8) (hz : tot x % P f = 0) : ∀ (d i : Nat), i + d = x.length →
    Ev (fun k => conclavelaw02_RootSquares.l0 k (n : Int) (P f) x 0 (tot (x.take i) % P f) (i : Int)) true := by
  have hlo := (P_pr h).lo; have hhi := (P_pr h).hi
  have h256 : 2 ^ n ≤ 2 ^ 8 := Nat.pow_le_pow_right (by decide) hn
  intro d
  induction d with
  | zero =>
    intro i hi
    refine Ev.step (fun k => by rw [conclavelaw02_RootSquares.l0]) ?_
    refine Ev.neg (by omega) (Ev.bind anchored2 (Ev.pos rfl (Ev.pos rfl (Ev.pos ?_ (Ev.pos (by rw [u64w]; omega) (Ev.fix ?_))))))
    · rw [List.take_of_length_le (by omega)]; exact hz
    · rw [u64w_in _ (by omega) (by omega), shl64 _ (by omega) (by omega), hl]; simp
  | succ d ih =>
    intro i hi
    have r1 := he.rd (i := i) (by omega)
    have r2 := emod_rng (p := P f) (tot (x.take i)) (by omega)
    refine Ev.step (fun k => by rw [conclavelaw02_RootSquares.l0]) ?_
    refine Ev.pos (by omega) (Ev.pos (by omega) (Ev.bnd (rSum (by omega) (by omega) r2.1 r2.2 r1.1 r1.2) ?_))
    have := ih (i + 1) (by omega)
    rw [take_rd (by omega), tot_snoc] at this
    rw [w64_succ (by omega), emod_add_l]
    exact this
theorem RootSquares : conclavelaw02_RootSquares.Pure := by
  intro a b ha hb
  have ha := wf_u8 ha
  have hb := wf_u8 hb
  refine Ev.rounds (g := fun k => conclavelaw02_RootSquares.f k a b) ?_
  unfold conclavelaw02_RootSquares.f
  rw [Int.tmod_eq_emod_of_nonneg ha.1]
  have hf : (a % 2 + 1) % 256 = 1 ∨ (a % 2 + 1) % 256 = 2 := by omega
  generalize (a % 2 + 1) % 256 = f at *
  have h : P f ≠ 0 := by rcases hf with rfl | rfl <;> decide
  have hlg := lg_rng f
  have hp := P_pr h
  have hlo := hp.lo; have hhi := hp.hi
  have e1 : twoE f = (lg f, 0) := by unfold twoE; rw [if_neg h]
  refine Ev.bind (Two_eq f) ?_
  rw [e1]
  dsimp only
  rw [w64_in (i := b) (by omega) (by omega), w64_in (i := lg f + 1) (by omega) (by omega), Int.tmod_eq_emod_of_nonneg hb.1]
  obtain ⟨n, hn⟩ := Int.eq_ofNat_of_zero_le (show 0 ≤ b % (lg f + 1) from Int.emod_nonneg _ (by omega))
  have hn1 : b % (lg f + 1) < lg f + 1 := Int.emod_lt_of_pos _ (by omega)
  rw [hn] at hn1 ⊢
  have hnl : (n : Int) ≤ lg f := by omega
  have e2 : rootE f (n : Int) = (rt f n, 0) := by unfold rootE; rw [if_neg (by omega)]; rfl
  have rr := rt_rng h n
  have e3 : logE f (rt f n) = ((n : Int), true, 0) := by
    have z : rt f n ≠ 0 := by
      intro c
      have := rt_pow h n hnl
      rw [c, Int.zero_pow (Nat.ne_of_gt (Nat.two_pow_pos n))] at this
      simp at this
    unfold logE
    rw [if_pos (by rw [ok_iff]; exact ⟨h, fun x hx => by simp at hx; omega⟩), if_neg z, lgr_rt h n (lg f).toNat 0 (by omega) hnl]
    simp
  refine Ev.neg (by omega) (Ev.bind (Root_eq f n) ?_)
  rw [e2]
  refine Ev.bind (Log_eq f _ rr.1) ?_
  rw [e3]
  refine Ev.pos rfl (Ev.pos rfl (Ev.pos rfl ?_))
  have j0 : Ev (fun k => conclavelaw02_RootSquares.j0 k f (n : Int) (rt f n) false) true := by
    refine Ev.step (fun k => by rw [conclavelaw02_RootSquares.j0]) (Ev.neg (by decide) (Ev.ite (fun c => ?_) (fun c => ?_)))
    · obtain rfl : n = 0 := by omega
      exact Ev.bind anchored2 (Ev.pos rfl (Ev.fix (by rw [rt_zero h]; rfl)))
    · obtain ⟨m, rfl⟩ : ∃ m, n = m + 1 := ⟨n - 1, by omega⟩
      have e4 : rootE f (m : Int) = (rt f m, 0) := by unfold rootE; rw [if_neg (by omega)]; rfl
      rw [w64_in (by omega) (by omega), show ((m + 1 : Nat) : Int) - 1 = (m : Int) by omega]
      refine Ev.bind (Root_eq f m) ?_
      rw [e4]
      refine Ev.bnd (rP f) (Ev.pos rfl (Ev.bind (rTimes (by omega) (by omega) rr.1 rr.2 rr.1 (by omega)) ?_))
      rw [rt_sq h m hnl]
      have j1 : Ev (fun k => conclavelaw02_RootSquares.j1 k f ((m + 1 : Nat) : Int) (rt f (m + 1)) (P f) false) true := by
        refine Ev.step (fun k => by rw [conclavelaw02_RootSquares.j1]) (Ev.neg (by decide) (Ev.ite (fun c1 => Ev.bind anchored2 (Ev.fix rfl)) (fun c1 => ?_)))
        refine Ev.pos (by rw [u64w]; omega) ?_
        rw [u64w_in _ (by omega) (by omega), shl64 _ (by omega) (by omega)]
        have hle : (2 : Int) ^ (((m + 1 : Nat) : Int).toNat) ≤ 2 ^ 8 := two_le (by omega)
        have hpos : (0 : Int) < 2 ^ (((m + 1 : Nat) : Int).toNat) := Int.pow_pos (by decide)
        have ett : ((2 : Int) ^ (((m + 1 : Nat) : Int).toNat)).toNat = 2 ^ (m + 1) := by
          rw [Int.toNat_natCast]
          have : (2 : Int) ^ (m + 1) = ((2 ^ (m + 1) : Nat) : Int) := by simp
          rw [this]; rfl
        have e5 : powsE f (rt f (m + 1)) (2 ^ (((m + 1 : Nat) : Int).toNat)) = (pows (P f) (rt f (m + 1)) (2 ^ (m + 1)), 0) := by
          unfold powsE
          rw [if_pos ⟨by rw [ok_iff]; exact ⟨h, fun x hx => by simp at hx; omega⟩, by omega⟩, if_neg (by omega), ett]
        refine Ev.bind (Powers_eq f _ _ rr.1) ?_
        rw [e5]
        have hel : El (P f) (pows (P f) (rt f (m + 1)) (2 ^ (m + 1))) := by
          intro x hx
          obtain ⟨i, _, rfl⟩ := List.mem_map.1 hx
          exact ⟨Int.emod_nonneg _ (by omega), Int.emod_lt_of_pos _ (by omega)⟩
        have := sum_loop h (m + 1) _ hel (pows_len _ _ _) (by omega) (sum_zero h (m + 1) (by omega) hnl) _ 0 (Nat.zero_add _)
        simpa [tot] using this
      simpa using j1
  simpa using j0

end Go.Proofs.Ythlmfgnmljhdbaa.Pure
