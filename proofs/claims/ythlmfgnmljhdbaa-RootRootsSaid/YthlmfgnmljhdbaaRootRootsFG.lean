/- What the functions of layer 2 answer, the program's and the reference's. -/
import Derived.Test.YthlmfgnmljhdbaaMR
import Derived.Test.YthlmfgnmljhdbaaRootRootsFB
import Derived.Test.YthlmfgnmljhdbaaRootRootsFC
namespace Go.Proofs.Ythlmfgnmljhdbaa.FRootRoots
open Go.RowKit Go Go.Proofs.YthlmfgnmljhdbaaW.PrintWords Go.Proofs.YthlmfgnmljhdbaaW.PrintLast Go.Proofs.YthlmfgnmljhdbaaW.PrintMore Go.Proofs.Ythlmfgnmljhdbaa.M Go.Proofs.Ythlmfgnmljhdbaa.PRootRoots

theorem shr64 (x : Int) (n : Int) (h0 : 0 ≤ n) (h : n ≤ 64) : shr .u64 x n = x / 2 ^ n.toNat := by
  unfold shr
  rw [show IntKind.u64.bits = 64 from rfl, Nat.min_eq_left (by omega)]
theorem shl64 (n : Int) (h0 : 0 ≤ n) (h : n ≤ 62) : shl .i64 1 n = 2 ^ n.toNat := by
  unfold shl
  rw [show IntKind.i64.bits = 64 from rfl, Nat.min_eq_left (by omega), Int.one_mul]
  have h1 : (2 : Int) ^ n.toNat ≤ 2 ^ 62 := by
    have := Nat.pow_le_pow_right (n := 2) (by decide) (show n.toNat ≤ 62 by omega)
    have e : ∀ k : Nat, (2 : Int) ^ k = ((2 ^ k : Nat) : Int) := fun k => by simp
    rw [e, e]; exact Int.ofNat_le.2 this
  have h2 : (0 : Int) < 2 ^ n.toNat := Int.pow_pos (by decide)
  exact IntWalk.i64_in _ ⟨by omega, by omega⟩
theorem tonat_div {x : Int} (h : 0 ≤ x) (n : Nat) : (x / 2 ^ n).toNat = x.toNat / 2 ^ n := by
  obtain ⟨m, rfl⟩ := Int.eq_ofNat_of_zero_le h
  have e : (2 : Int) ^ n = ((2 ^ n : Nat) : Int) := by simp
  rw [e, ← Int.natCast_ediv]; rfl
theorem two_le {i j : Nat} (h : i ≤ j) : (2 : Int) ^ i ≤ 2 ^ j := by
  have e : ∀ k : Nat, (2 : Int) ^ k = ((2 ^ k : Nat) : Int) := fun k => by simp
  rw [e, e]; exact Int.ofNat_le.2 (Nat.pow_le_pow_right (by decide) h)
theorem ok_nil (f : Int) : ok f [] = decide (P f ≠ 0) := by unfold ok; simp [allIn_nil]
theorem f_cases {f : Int} (h : P f ≠ 0) : f = 1 ∨ f = 2 := by
  rcases P_cases f with ⟨e, _⟩ | ⟨e, _⟩ | ⟨_, _, e⟩
  · exact .inl e
  · exact .inr e
  · exact absurd e h

theorem Two_eq (f : Int) : Ev (fun k => root_Two.f k f) (twoE f) := by
  unfold root_Two.f twoE
  refine Ev.bind (In_eq f [] (by simp)) ?_
  rw [ok_nil]
  by_cases h : P f = 0
  · rw [if_pos h]
    exact Ev.neg (by simp [h]) (Ev.fix rfl)
  · rw [if_neg h]
    refine Ev.pos (by simp [h]) (Ev.bnd (a := (0, 27, 32)) rfl ?_)
    rcases f_cases h with rfl | rfl
    · exact Ev.fix (by decide)
    · exact Ev.fix (by decide)
theorem rTwo (f : Int) : conclaveref02_Two.f f = some (if P f = 0 then -1 else lg f) := by
  unfold conclaveref02_Two.f
  rcases P_cases f with ⟨rfl, e⟩ | ⟨rfl, e⟩ | ⟨h1, h2, e⟩
  · rw [e]; rfl
  · rw [e]; rfl
  · rw [if_neg h1, if_neg h2, if_pos e]
theorem Root_eq (f n : Int) : Ev (fun k => root_Root.f k f n) (rootE f n) := by
  unfold root_Root.f
  refine Ev.bind (Two_eq f) ?_
  have no : Ev (fun k => root_Root.j0 k f n true) (0, 2) := Ev.step (fun k => by rw [root_Root.j0]) (Ev.pos rfl (Ev.fix rfl))
  by_cases h : P f = 0
  · have e1 : twoE f = (0, 2) := by unfold twoE; rw [if_pos h]
    have e2 : rootE f n = (0, 2) := by unfold rootE; rw [if_pos (.inl h)]
    rw [e1, e2]
    exact Ev.neg (by decide) no
  · have e1 : twoE f = (lg f, 0) := by unfold twoE; rw [if_neg h]
    rw [e1]
    refine Ev.pos rfl (Ev.ite (fun c => ?_) (fun c => ?_))
    · have e2 : rootE f n = (0, 2) := by unfold rootE; rw [if_pos (.inr (.inl c))]
      rw [e2]; exact no
    · refine Ev.step (fun k => by rw [root_Root.j0]) (Ev.ite (fun c1 => ?_) (fun c1 => ?_))
      · have c1 : n > lg f := by simpa using c1
        have e2 : rootE f n = (0, 2) := by unfold rootE; rw [if_pos (.inr (.inr c1))]
        rw [e2]; exact Ev.fix rfl
      · have c1 : ¬ n > lg f := by simpa using c1
        have e2 : rootE f n = (rt f n.toNat, 0) := by unfold rootE; rw [if_neg (by omega)]
        rw [e2]
        have hp := P_pr h
        have hlo := hp.lo; have hhi := hp.hi; have hlg := lg_rng f
        refine Ev.bind (Prime_eq f) ?_
        rw [if_neg h]
        refine Ev.pos rfl (Ev.bnd (a := (0, 31, 7)) rfl ?_)
        have hg := gen_rng h
        have hb : 0 ≤ (P f - 1) / 2 ^ n.toNat ∧ (P f - 1) / 2 ^ n.toNat ≤ P f - 1 := ⟨Int.ediv_nonneg (by omega) (Int.le_of_lt (Int.pow_pos (by decide))), Int.ediv_le_self _ (by omega)⟩
        have hP : Ev (fun k => field_Pow.f k f (gen f) ((P f - 1) / 2 ^ n.toNat)) (rt f n.toNat, 0) := by
          refine Ev.cast (Pow_eq f _ _ hg.1 hb.1 (by omega)) ?_
          rw [if_pos (by rw [ok_iff]; exact ⟨h, fun x hx => by simp at hx; subst hx; exact hg.2⟩), tonat_div (by omega)]
          rfl
        dsimp only
        rw [u64w_in _ (by omega) (by omega), shr64 _ _ (by omega) (by omega)]
        rcases f_cases h with rfl | rfl
        · refine Ev.neg (by decide) (Ev.pos rfl (Ev.pos (by omega) (Ev.bind hP (Ev.fix rfl))))
        · refine Ev.neg (by decide) (Ev.neg (by decide) (Ev.pos rfl (Ev.pos (by omega) (Ev.bind hP (Ev.fix rfl)))))
theorem rRoot (f n : Int) (hn : n < 9223372036854775808) : Ev (fun k => conclaveref02_Root.f k f n) (rootE f n) := by
  unfold conclaveref02_Root.f
  have no : Ev (fun k => conclaveref02_Root.j0 k f n true) (0, 2) := Ev.step (fun k => by rw [conclaveref02_Root.j0]) (Ev.pos rfl (Ev.fix rfl))
  refine Ev.ite (fun c => ?_) (fun c => ?_)
  · have e2 : rootE f n = (0, 2) := by unfold rootE; rw [if_pos (.inr (.inl c))]
    rw [e2]; exact no
  · refine Ev.bnd (rTwo f) ?_
    by_cases h : P f = 0
    · have e2 : rootE f n = (0, 2) := by unfold rootE; rw [if_pos (.inl h)]
      rw [e2, if_pos h, decide_eq_true (show n > -1 by omega)]
      exact no
    · rw [if_neg h]
      refine Ev.step (fun k => by rw [conclaveref02_Root.j0]) (Ev.ite (fun c1 => ?_) (fun c1 => ?_))
      · have c1 : n > lg f := by simpa using c1
        have e2 : rootE f n = (0, 2) := by unfold rootE; rw [if_pos (.inr (.inr c1))]
        rw [e2]; exact Ev.fix rfl
      · have c1 : ¬ n > lg f := by simpa using c1
        have e2 : rootE f n = (rt f n.toNat, 0) := by unfold rootE; rw [if_neg (by omega)]
        rw [e2]
        have hp := P_pr h
        have hlo := hp.lo; have hhi := hp.hi; have hlg := lg_rng f
        have hg := gen_rng h
        have hb : 0 ≤ (P f - 1) / 2 ^ n.toNat ∧ (P f - 1) / 2 ^ n.toNat ≤ P f - 1 := ⟨Int.ediv_nonneg (by omega) (Int.le_of_lt (Int.pow_pos (by decide))), Int.ediv_le_self _ (by omega)⟩
        have hP : Ev (fun k => conclaveref01_Power.f k (P f) (gen f) ((P f - 1) / 2 ^ n.toNat)) (rt f n.toNat) := by
          refine Ev.cast (rPower (by omega) (by omega) hg.1 hg.2 hb.1 (by omega)) ?_
          rw [tonat_div (by omega)]; rfl
        refine Ev.bnd (rP f) ?_
        rw [u64w_in (P f - 1) (by omega) (by omega), u64w_in n (by omega) (by omega), shr64 _ _ (by omega) (by omega)]
        rcases f_cases h with rfl | rfl
        · exact Ev.neg (by decide) (Ev.pos (by omega) (Ev.bind hP (Ev.fix rfl)))
        · exact Ev.pos rfl (Ev.pos (by omega) (Ev.bind hP (Ev.fix rfl)))
theorem log_loop {f : Int} (h : P f ≠ 0) : ∀ (d : Nat) (a i : Int), 0 ≤ a → a < P f → 0 ≤ i → i + d = lg f →
    Ev (fun k => root_Log.l0 k f a i false (lg f)) ((lgr (P f) d a i).1, (lgr (P f) d a i).2, 0) := by
  have hlg := lg_rng f
  have hlo := (P_pr h).lo
  intro d
  induction d with
  | zero =>
    intro a i ha ha1 hi hd
    refine Ev.step (fun k => by rw [root_Log.l0]) ?_
    rw [lgr]
    refine Ev.ite (fun c => Ev.fix (by rw [if_pos c])) (fun c => Ev.pos (by omega) (Ev.fix (by rw [if_neg c])))
  | succ d ih =>
    intro a i ha ha1 hi hd
    refine Ev.step (fun k => by rw [root_Log.l0]) ?_
    rw [lgr]
    refine Ev.ite (fun c => Ev.fix (by rw [if_pos c])) (fun c => Ev.neg (by omega) ?_)
    rw [if_neg c]
    have hm : Ev (fun k => field_Mul.f k f a a) (a * a % P f, 0) := Ev.cast (Mul_eq f a a ha ha) (by
      rw [if_pos (by rw [ok_iff]; exact ⟨h, fun x hx => by simp at hx; subst hx; exact ha1⟩)])
    have r := emod_rng (p := P f) (a * a) (by omega)
    refine Ev.bind hm ?_
    rw [w64_in (by omega) (by omega)]
    exact ih _ _ r.1 r.2 (by omega) (by omega)
theorem Log_eq (f a : Int) (ha : 0 ≤ a) : Ev (fun k => root_Log.f k f a) (logE f a) := by
  unfold root_Log.f logE
  refine Ev.bind (In_eq f [a] (by simp)) (Ev.ite (fun c => ?_) (fun c => ?_))
  · rw [if_pos c]
    have h0 := ok_iff.1 c
    have hlg := lg_rng f
    refine Ev.ite (fun c1 => Ev.fix (by rw [if_pos c1])) (fun c1 => ?_)
    rw [if_neg c1]
    have hl := log_loop h0.1 (lg f).toNat a 0 ha (h0.2 a (by simp)) (by omega) (by omega)
    refine Ev.bnd (a := (0, 27, 32)) rfl ?_
    rcases f_cases h0.1 with rfl | rfl
    · exact Ev.neg (by decide) (Ev.pos rfl hl)
    · exact Ev.neg (by decide) (Ev.neg (by decide) (Ev.pos rfl hl))
  · rw [if_neg c]; exact Ev.fix rfl
theorem rLog_loop {f : Int} (h : P f ≠ 0) : ∀ (d : Nat) (a i : Int), 0 ≤ a → a < P f → 0 ≤ i → i + d = lg f →
    Ev (fun k => conclaveref02_Log.l0 k f a i) ((lgr (P f) d a i).1, (lgr (P f) d a i).2, 0) := by
  have hlg := lg_rng f
  have hlo := (P_pr h).lo; have hhi := (P_pr h).hi
  have e2 := rTwo f
  rw [if_neg h] at e2
  have step : ∀ a i : Int, 0 ≤ a → a < P f → i ≤ lg f → ∀ r, (a ≠ 1 → Ev (fun k => conclaveref02_Log.l0 k f (a * a % P f) (wrap64 (i + 1))) r) → (a = 1 → r = (i, true, 0)) → Ev (fun k => conclaveref02_Log.l0 k f a i) r := by
    intro a i ha ha1 hi r h1 h2
    refine Ev.step (fun k => by rw [conclaveref02_Log.l0]) (Ev.bnd e2 (Ev.pos hi (Ev.ite (fun c => Ev.cast (Ev.fix rfl) (h2 c).symm) (fun c => ?_))))
    exact Ev.bnd (rP f) (Ev.bind (rTimes (by omega) (by omega) ha ha1 ha (by omega)) (h1 c))
  intro d
  induction d with
  | zero =>
    intro a i ha ha1 hi hd
    refine step a i ha ha1 (by omega) _ (fun c => ?_) (fun c => by rw [lgr, if_pos c])
    rw [lgr, if_neg c, w64_in (by omega) (by omega)]
    refine Ev.step (fun k => by rw [conclaveref02_Log.l0]) (Ev.bnd e2 ?_)
    exact Ev.neg (by omega) (Ev.fix rfl)
  | succ d ih =>
    intro a i ha ha1 hi hd
    refine step a i ha ha1 (by omega) _ (fun c => ?_) (fun c => by rw [lgr, if_pos c])
    have r : 0 ≤ a * a % P f ∧ a * a % P f < P f := ⟨Int.emod_nonneg _ (by omega), Int.emod_lt_of_pos _ (by omega)⟩
    rw [lgr, if_neg c, w64_in (by omega) (by omega)]
    exact ih _ _ r.1 r.2 (by omega) (by omega)
theorem rLog (f a : Int) (ha : 0 ≤ a) : Ev (fun k => conclaveref02_Log.f k f a) (logE f a) := by
  unfold conclaveref02_Log.f logE
  refine Ev.bind (rIn f [a] (by simp)) (Ev.ite (fun c => ?_) (fun c => ?_))
  · rw [if_pos c]
    have h0 := ok_iff.1 c
    have hlg := lg_rng f
    refine Ev.ite (fun c1 => Ev.fix (by rw [if_pos c1])) (fun c1 => ?_)
    rw [if_neg c1]
    exact rLog_loop h0.1 (lg f).toNat a 0 ha (h0.2 a (by simp)) (by omega) (by omega)
  · rw [if_neg c]; exact Ev.fix rfl
theorem anchored2 : Ev (fun k => conclavelaw02_anchored.f k) true := by
  have h1 : Ev (fun k => root_Root.f k 2 1) (18446744069414584320, 0) := Ev.cast (Root_eq 2 1) (by
    have e : rt 2 1 = 18446744069414584320 := rt_one (f := 2) (by decide)
    unfold rootE
    rw [if_neg (by decide), show (1 : Int).toNat = 1 from rfl, e])
  have h2 : Ev (fun k => root_Root.f k 1 1) (2013265920, 0) := Ev.cast (Root_eq 1 1) (by
    have e : rt 1 1 = 2013265920 := rt_one (f := 1) (by decide)
    unfold rootE
    rw [if_neg (by decide), show (1 : Int).toNat = 1 from rfl, e])
  have h3 : Ev (fun k => root_Two.f k 0) (0, 2) := Ev.cast (Two_eq 0) (by decide)
  unfold conclavelaw02_anchored.f
  exact Ev.bind h1 (Ev.bind h2 (Ev.bind h3 (Ev.fix (by decide))))

end Go.Proofs.Ythlmfgnmljhdbaa.FRootRoots
