/- Division with remainder: the package's, the reference's. -/
import Derived.Test.YtbjanbbjjnoecaaMX
import Derived.Test.YtbjanbbjjnoecaaPolyBackFR
namespace Go.Proofs.Ytbjanbbjjnoecaa.FPolyBack
open Go.RowKit Go Go.Proofs.YtbjanbbjjnoecaaW.PrintWords Go.Proofs.YtbjanbbjjnoecaaW.PrintLast Go.Proofs.YtbjanbbjjnoecaaW.PrintMore Go.Proofs.Ytbjanbbjjnoecaa.M Go.Proofs.Ytbjanbbjjnoecaa.PPolyBack

/-- What is left where j products have been taken off. -/
def rowR (p c : Int) (d : Nat) (q r : List Int) (j i : Nat) : Int := if d ≤ i ∧ i < d + j then (cf r i - c * cf q (i - d)) % p else cf r i
theorem rowR_zero (p c : Int) (d : Nat) (q r : List Int) : pol r.length (rowR p c d q r 0) = r :=
  (pol_ext rfl fun i _ => by unfold rowR; rw [if_neg (by omega)]).symm
theorem rowR_last (p c : Int) (d : Nat) (q r : List Int) (h : r.length = d + q.length) : trim (pol r.length (rowR p c d q r q.length)) = stepR p c d q r := by
  unfold stepR
  congr 1
  refine pol_congr fun i hi => ?_
  unfold rowR
  by_cases c : d ≤ i
  · rw [if_pos ⟨c, by omega⟩, if_pos c]
  · rw [if_neg (fun z => c z.1), if_neg c]
theorem rowR_set {p c : Int} {d : Nat} {q r : List Int} {j : Nat} (h : d + j < r.length) : (pol r.length (rowR p c d q r j)).set (d + j) ((rowR p c d q r j (d + j) - c * cf q j % p) % p) = pol r.length (rowR p c d q r (j + 1)) := by
  rw [pol_set h]
  refine pol_congr fun i _ => ?_
  by_cases e : i = d + j
  · subst e
    unfold rowR
    rw [if_pos rfl, if_neg (by omega), if_pos (by omega), show d + j - d = j by omega, emod_sub_r]
  · rw [if_neg e]
    unfold rowR
    by_cases q : d ≤ i ∧ i < d + j
    · rw [if_pos q, if_pos ⟨q.1, by omega⟩]
    · rw [if_neg q, if_neg (by omega)]
theorem rowR_rng {p c : Int} (hp : 0 < p) {d : Nat} {q r : List Int} (hr : El p r) (j i : Nat) : 0 ≤ rowR p c d q r j i ∧ rowR p c d q r j i < p := by
  unfold rowR; split
  · exact ⟨Int.emod_nonneg _ (by omega), Int.emod_lt_of_pos _ hp⟩
  · exact cf_el hr hp i
theorem dm_stop {p top : Int} {q : List Int} {n : Nat} {g : Nat → Int} {r : List Int} (h : r.length < q.length) : dm p top q n g r = (g, r) := by
  cases n with
  | zero => rfl
  | succ n => rw [dm, if_pos h]
theorem quot_inv {f b : Int} (hp : P f ≠ 0) (hb : 0 ≤ b ∧ b < P f) (h0 : b ≠ 0) : quot f 1 b = (inv (P f) b, 0) := by
  have h := P_pr hp
  have hlo := h.lo
  unfold quot
  rw [if_pos (ok_two hp (by omega) hb.2), if_neg h0, Int.one_mul, Int.emod_emod]; rfl
theorem bad_el {f : Int} {a b : List Int} (wa : Wd a) (wb : Wd b) (h : bad f a b = 0) : Pr (P f) ∧ P f ≠ 0 ∧ El (P f) a ∧ El (P f) b ∧ a.length ≤ 4096 ∧ b.length ≤ 4096 := by
  obtain ⟨ka, kb, la, lb⟩ := bad_zero h
  exact ⟨ok_pr ka, (ok_iff.1 ka).1, wa.el (ok_all ka), wb.el (ok_all kb), la, lb⟩

theorem divm_inner {f : Int} (hp0 : P f ≠ 0) {c top : Int} (hc : 0 ≤ c ∧ c < P f) {d : Nat} {q r quo : List Int} (hq : El (P f) q) (hr : El (P f) r) (hl : r.length = d + q.length) (hs : r.length < 17592186044416) {R : List Int × List Int × Int}
    (hk : Ev (fun k => poly_DivMod.l0 k q quo (pol r.length (rowR (P f) c d q r q.length)) top f) R) : ∀ (n j : Nat), j + n = q.length →
    Ev (fun k => poly_DivMod.l1 k q quo (pol r.length (rowR (P f) c d q r j)) top (d : Int) c q (q.length : Int) (j : Int) f) R := by
  have hp := P_pr hp0
  have hlo := hp.lo; have hhi := hp.hi
  intro n
  induction n with
  | zero =>
    intro j h
    refine Ev.step (fun k => by rw [poly_DivMod.l1]) ?_
    have e : j = q.length := by omega
    subst e
    exact Ev.neg (by omega) hk
  | succ n ih =>
    intro j h
    refine Ev.step (fun k => by rw [poly_DivMod.l1]) ?_
    rw [show wrap64 ((j : Int) + 1) = ((j + 1 : Nat) : Int) from w64_succ (by omega), show wrap64 ((d : Int) + (j : Int)) = ((d + j : Nat) : Int) by rw [w64_in (by omega) (by omega)]; omega, rd_pol (by omega), show rd q (j : Int) = cf q j from rfl]
    have rb := cf_el hq (by omega) j
    refine Ev.pos (by omega) (Ev.pos (by omega) (Ev.pos (by omega) (Ev.pos (by omega) (Ev.pos (by rw [pol_len]; omega) (Ev.bind (kmul_eq hp0 hc rb) (Ev.bind (ksub_eq hp0 (rowR_rng (by omega) hr j (d + j)) (emod_rng _ (by omega))) ?_))))))
    rw [Int.toNat_natCast, rowR_set (by omega)]
    exact ih (j + 1) (by omega)
theorem divm_loop {f : Int} (hp0 : P f ≠ 0) {top : Int} (ht0 : 0 ≤ top ∧ top < P f) {q : List Int} (hq : Cn (P f) q) (hq0 : q ≠ []) (ht : cf q (q.length - 1) * top % P f = 1) (hql : q.length < 17592186044416) (N : Nat) (hN : N < 17592186044416) : ∀ (n : Nat) (g : Nat → Int) (x r : List Int), trim x = r → El (P f) x → x.length < 17592186044416 → r.length ≤ n → r.length < N + q.length →
    Ev (fun k => poly_DivMod.l0 k q (pol N g) x top f) (trim (pol N (dm (P f) top q n g r).1), (dm (P f) top q n g r).2, 0) := by
  have hp := P_pr hp0
  have hlo := hp.lo
  have q0 : q.length ≠ 0 := fun e => hq0 (List.length_eq_zero_iff.1 e)
  have stop : ∀ (n : Nat) (g : Nat → Int) (x r : List Int), trim x = r → x.length < 17592186044416 → r.length < N + q.length → r.length < q.length →
      Ev (fun k => poly_DivMod.l0 k q (pol N g) x top f) (trim (pol N (dm (P f) top q n g r).1), (dm (P f) top q n g r).2, 0) := by
    intro n g x r e hx hr hc
    refine Ev.step (fun k => by rw [poly_DivMod.l0]) ?_
    refine Ev.bind (trimmed_own_eq x (by omega)) ?_
    rw [e, dm_stop hc]
    have : q.length < N + q.length ∨ N = 0 := by omega
    refine Ev.pos ?_ (Ev.bind (trimmed_own_eq _ (by rw [pol_len]; omega)) (Ev.fix rfl))
    unfold wrap64; have := trim_le x; rw [e] at this; omega
  intro n
  induction n with
  | zero =>
    intro g x r e ex hx hn hN
    exact stop 0 g x r e hx hN (by omega)
  | succ n ih =>
    intro g x r e ex hx hn hN
    by_cases hc : r.length < q.length
    · exact stop (n + 1) g x r e hx hN hc
    · have hr : Cn (P f) r := by rw [← e]; exact Cn.trim ex
      have hl := trim_le x
      rw [e] at hl
      refine Ev.step (fun k => by rw [poly_DivMod.l0]) ?_
      refine Ev.bind (trimmed_own_eq x (by omega)) ?_
      rw [e, dm, if_neg hc]
      rw [show wrap64 ((r.length : Int) - (q.length : Int)) = ((r.length - q.length : Nat) : Int) by rw [w64_in (by omega) (by omega)]; omega, show wrap64 ((r.length : Int) - 1) = ((r.length - 1 : Nat) : Int) by rw [w64_in (by omega) (by omega)]; omega, show rd r ((r.length - 1 : Nat) : Int) = cf r (r.length - 1) from rfl]
      have hc2 := emod_rng (p := P f) (cf r (r.length - 1) * top) (by omega)
      refine Ev.neg (by omega) (Ev.pos (by omega) (Ev.pos (by omega) (Ev.bind (kmul_eq hp0 (cf_el hr.el (by omega) _) ht0) (Ev.pos (by omega) (Ev.pos (by rw [pol_len]; omega) ?_)))))
      rw [Int.toNat_natCast, pol_set (by omega)]
      have e2 := rowR_zero (P f) (cf r (r.length - 1) * top % P f) (r.length - q.length) q r
      have k2 := rowR_last (P f) (cf r (r.length - 1) * top % P f) (r.length - q.length) q r (by omega)
      have hlt := stepR_len hp hq0 hr (by omega) ht
      have h := divm_inner hp0 (top := top) (quo := pol N fun i => if i = r.length - q.length then cf r (r.length - 1) * top % P f else g i) hc2 (d := r.length - q.length) hq.el hr.el (by omega) (by omega)
        (ih _ _ _ k2 (pol_el fun i _ => rowR_rng (by omega) hr.el _ i) (by rw [pol_len]; omega) (by omega) (by omega)) q.length 0 (Nat.zero_add _)
      rw [e2] at h
      exact h
theorem PDivMod_eq (f : Int) (a b : List Int) (wa : Wd a) (wb : Wd b) (ha : a.length < 17592186044416) (hb : b.length < 17592186044416) : Ev (fun k => poly_DivMod.f k f a b) (Pdm f a b) := by
  unfold poly_DivMod.f Pdm
  refine Ev.bind (may2_eq f a b (by omega) (by omega)) (Ev.ite (fun c => ?_) (fun c => ?_))
  · rw [if_pos c]
    obtain ⟨hp, hp0, ea, eb, la, lb⟩ := bad_el wa wb c
    have hlo := hp.lo
    have ta := trim_le a; have tb := trim_le b
    refine Ev.bind (trimmed_eq b (by omega)) (Ev.ite (fun z => ?_) (fun z => ?_))
    · rw [if_pos (List.length_eq_zero_iff.1 (by omega))]; exact Ev.fix rfl
    · have hb0 : trim b ≠ [] := fun e => z (by rw [e]; rfl)
      have cb := Cn.trim (p := P f) eb
      have ca := Cn.trim (p := P f) ea
      rw [if_neg hb0, show wrap64 (((trim b).length : Int) - 1) = (((trim b).length - 1 : Nat) : Int) by rw [w64_in (by omega) (by omega)]; omega, show rd (trim b) (((trim b).length - 1 : Nat) : Int) = cf (trim b) ((trim b).length - 1) from rfl]
      have rb := cf_el cb.el (p := P f) (by omega) ((trim b).length - 1)
      have hi := Inv_eq f (cf (trim b) ((trim b).length - 1)) rb.1
      rw [quot_inv hp0 rb (cb.top hb0)] at hi
      have rg := inv_rng hp (cf (trim b) ((trim b).length - 1))
      refine Ev.pos (by omega) (Ev.pos (by omega) (Ev.bind hi (Ev.pos rfl (Ev.bind (Trim_eq a ha) ?_))))
      obtain ⟨N, hN⟩ : ∃ N : Nat, N = max 0 ((trim a).length + 1 - (trim b).length) := ⟨_, rfl⟩
      have e : mx 0 (wrap64 (wrap64 (((trim a).length : Int) - ((trim b).length : Int)) + 1)) = (N : Int) := by
        rw [w64_in (i := ((trim a).length : Int) - ((trim b).length : Int)) (by omega) (by omega), w64_in (by omega) (by omega)]
        unfold mx; split <;> omega
      rw [e, Int.toNat_natCast, pol_zero]
      refine Ev.pos (by omega) (Ev.pos (by omega) ?_)
      refine Ev.cast (divm_loop hp0 rg cb hb0 (top_inv hp cb hb0) (by omega) N (by omega) (trim a).length (fun _ => 0) (trim a) (trim a) (trim_trim a) ca.el (by omega) (Nat.le_refl _) (by omega)) ?_
      obtain ⟨_, _, a3, _, _⟩ := dmP_inv hp ca cb hb0
      unfold dmP
      refine Prod.ext ?_ rfl
      refine trim_ext fun i => ?_
      rw [cf_pol, cf_pol]
      by_cases q : i < N
      · rw [if_pos q, if_pos (by omega)]
      · rw [if_neg q]; split
        · exact (a3 i (by omega)).symm
        · rfl
  · rw [if_neg c]; exact Ev.fix rfl

end Go.Proofs.Ytbjanbbjjnoecaa.FPolyBack
