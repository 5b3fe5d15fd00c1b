/- Sums, differences and products of polynomials: the package's, the reference's. -/
import Derived.Test.YtbjanbbjjnoecaaMQ
import Derived.Test.YtbjanbbjjnoecaaPolyBackFP
import Derived.Test.YtbjanbbjjnoecaaPolyBackFB
import Derived.Test.YtbjanbbjjnoecaaPolyBackFC
namespace Go.Proofs.Ytbjanbbjjnoecaa.FPolyBack
open Go.RowKit Go Go.Proofs.YtbjanbbjjnoecaaW.PrintWords Go.Proofs.YtbjanbbjjnoecaaW.PrintLast Go.Proofs.YtbjanbbjjnoecaaW.PrintMore Go.Proofs.Ytbjanbbjjnoecaa.M Go.Proofs.Ytbjanbbjjnoecaa.PPolyBack

theorem ok_two {f a b : Int} (hp : P f ≠ 0) (ha : a < P f) (hb : b < P f) : ok f [a, b] = true := ok_iff.2 ⟨hp, by simp [ha, hb]⟩
theorem ok_nil {f : Int} : ok f [] = true ↔ P f ≠ 0 := by rw [ok_iff]; simp
theorem mx_nat (a b : Nat) : mx (a : Int) (b : Int) = ((max a b : Nat) : Int) := by unfold mx; split <;> omega
theorem pol_succ (n : Nat) (g : Nat → Int) : pol (n + 1) g = pol n g ++ [g n] := by simp [pol, List.range_succ]

theorem kadd_eq {f a b : Int} (hp : P f ≠ 0) (ha : 0 ≤ a ∧ a < P f) (hb : 0 ≤ b ∧ b < P f) : Ev (fun k => poly_reckoner_add.f k f a b) ((a + b) % P f) := by
  unfold poly_reckoner_add.f
  refine Ev.bind (Add_eq f a b ha.1 hb.1) ?_
  rw [if_pos (ok_two hp ha.2 hb.2)]
  exact Ev.fix rfl
theorem ksub_eq {f a b : Int} (hp : P f ≠ 0) (ha : 0 ≤ a ∧ a < P f) (hb : 0 ≤ b ∧ b < P f) : Ev (fun k => poly_reckoner_sub.f k f a b) ((a - b) % P f) := by
  unfold poly_reckoner_sub.f
  refine Ev.bind (Sub_eq f a b ha.1 hb.1) ?_
  rw [if_pos (ok_two hp ha.2 hb.2)]
  exact Ev.fix rfl
theorem kmul_eq {f a b : Int} (hp : P f ≠ 0) (ha : 0 ≤ a ∧ a < P f) (hb : 0 ≤ b ∧ b < P f) : Ev (fun k => poly_reckoner_mul.f k f a b) (a * b % P f) := by
  unfold poly_reckoner_mul.f
  refine Ev.bind (Mul_eq f a b ha.1 hb.1) ?_
  rw [if_pos (ok_two hp ha.2 hb.2)]
  exact Ev.fix rfl
theorem trimmed_own_loop (l : List Int) (hl : l.length < 4611686018427387904) : ∀ n : Nat, n ≤ l.length → Ev (fun k => poly_trimmed_own.l0 k l (n : Int)) (l.take (tl l n)) := by
  intro n
  induction n with
  | zero =>
    intro _
    refine Ev.step (fun k => by rw [poly_trimmed_own.l0]) ?_
    exact Ev.neg (by omega) (Ev.pos (by omega) (Ev.pos (by omega) (Ev.fix rfl)))
  | succ n ih =>
    intro hn
    have e : wrap64 (((n + 1 : Nat) : Int) - 1) = (n : Int) := by rw [w64_in (by omega) (by omega)]; omega
    refine Ev.step (fun k => by rw [poly_trimmed_own.l0]) ?_
    rw [e]
    refine Ev.pos (by omega) (Ev.pos (by omega) (Ev.pos (by omega) (Ev.ite (fun c => ?_) (fun c => ?_))))
    · rw [tl, if_pos c]; exact ih (by omega)
    · rw [tl, if_neg c]; exact Ev.pos (by omega) (Ev.pos (by omega) (Ev.fix rfl))
theorem trimmed_own_eq (l : List Int) (hl : l.length < 4611686018427387904) : Ev (fun k => poly_trimmed_own.f k l) (trim l) := by
  unfold poly_trimmed_own.f
  exact trimmed_own_loop l hl l.length (Nat.le_refl _)
def bads (f : Int) : List (List Int) → Int → Int
  | [], e => e
  | l :: r, e => if ok f l = true then bads f r (if l.length > 4096 then 4 else e) else 2
theorem rd_L1_lt {L : List (List Int)} {i : Nat} (h : i < L.length) : rd_L1 L (i : Int) = L[i] := by
  unfold rd_L1; rw [Int.toNat_natCast, List.getD_eq_getElem?_getD, List.getElem?_eq_getElem h]; rfl
theorem may_loop (f : Int) (L : List (List Int)) (hL : ∀ l ∈ L, l.length < 4611686018427387904) (hn : L.length < 4611686018427387904) : ∀ (d i : Nat) (e : Int), i + d = L.length →
    Ev (fun k => poly_may.l0 k f e L (L.length : Int) (i : Int)) (bads f (L.drop i) e) := by
  intro d
  induction d with
  | zero =>
    intro i e h
    refine Ev.step (fun k => by rw [poly_may.l0]) ?_
    rw [List.drop_of_length_le (by omega)]
    exact Ev.neg (by omega) (Ev.fix rfl)
  | succ d ih =>
    intro i e h
    have hi : i < L.length := by omega
    refine Ev.step (fun k => by rw [poly_may.l0]) ?_
    rw [rd_L1_lt hi, w64_succ (by omega), List.drop_eq_getElem_cons hi, bads]
    refine Ev.pos (by omega) (Ev.pos (by omega) (Ev.pos (by omega) (Ev.bind (In_eq f _ (hL _ (List.getElem_mem hi))) (Ev.ite (fun c => ?_) (fun c => ?_)))))
    · rw [if_pos c]
      refine Ev.ite (fun q => ?_) (fun q => ?_)
      · rw [if_pos (by omega)]; exact ih (i + 1) 4 (by omega)
      · rw [if_neg (by omega)]; exact ih (i + 1) e (by omega)
    · rw [if_neg c]; exact Ev.fix rfl
theorem may_eq (f : Int) (L : List (List Int)) (hL : ∀ l ∈ L, l.length < 4611686018427387904) (hn : L.length < 4611686018427387904) : Ev (fun k => poly_may.f k f L) (if P f = 0 then 2 else bads f L 0) := by
  unfold poly_may.f
  refine Ev.bind (In_eq f [] (by simp)) (Ev.ite (fun c => ?_) (fun c => ?_))
  · rw [if_neg (ok_nil.1 c)]
    exact may_loop f L hL hn L.length 0 0 (by omega)
  · rw [if_pos (Classical.not_not.1 fun z => c (ok_nil.2 z))]; exact Ev.fix rfl
theorem may2_eq (f : Int) (a b : List Int) (ha : a.length < 4611686018427387904) (hb : b.length < 4611686018427387904) : Ev (fun k => poly_may.f k f [a, b]) (bad f a b) := by
  refine Ev.cast (may_eq f [a, b] (by simp [ha, hb]) (by simp)) ?_
  unfold bad
  by_cases z : P f = 0
  · rw [if_pos z, if_neg (fun c => (ok_iff.1 c.1).1 z)]
  · rw [if_neg z]
    by_cases ca : ok f a = true
    · by_cases cb : ok f b = true
      · simp only [bads, if_pos ca, if_pos cb, if_pos (And.intro ca cb)]
        by_cases la : a.length ≤ 4096
        · by_cases lb : b.length ≤ 4096
          · rw [if_neg (by omega), if_neg (by omega), if_pos ⟨la, lb⟩]
          · rw [if_pos (by omega), if_neg (fun q => lb q.2)]
        · rw [if_neg (show ¬ (a.length ≤ 4096 ∧ b.length ≤ 4096) from fun q => la q.1), if_pos (show a.length > 4096 by omega)]
          split <;> rfl
      · rw [if_neg (fun c => cb c.2)]; simp only [bads, if_pos ca, if_neg cb]
    · rw [if_neg (fun c => ca c.1)]; simp only [bads, if_neg ca]
theorem padded (a b : List Int) : a.take (List.replicate (max a.length b.length) (0 : Int)).length ++ (List.replicate (max a.length b.length) (0 : Int)).drop a.length = pol (max a.length b.length) (cf a) := by
  refine pol_ext (by simp; omega) fun i hi => ?_
  rw [List.take_of_length_le (by simp; omega)]
  unfold cf rd
  rw [Int.toNat_natCast, List.getD_eq_getElem?_getD, List.getD_eq_getElem?_getD]
  by_cases c : i < a.length
  · rw [List.getElem?_append_left c]
  · rw [List.getElem?_append_right (by omega), List.getElem?_eq_none (l := a) (by omega), List.getElem?_drop, List.getElem?_replicate]
    split <;> rfl
theorem put_loop_add {f : Int} (hp : Pr (P f)) (hp0 : P f ≠ 0) (a b : List Int) (ea : El (P f) a) (eb : El (P f) b) (N : Nat) (hN : N < 17592186044416) : ∀ (d m : Nat), m + d = N →
    Ev (fun k => poly_placed_add.l0 k b f (pol N fun i => if i < m then (cf a i + cf b i) % P f else cf a i) (N : Int) (m : Int)) (trim (pol N fun i => (cf a i + cf b i) % P f), 0) := by
  have hlo := hp.lo
  intro d
  induction d with
  | zero =>
    intro m h
    refine Ev.step (fun k => by rw [poly_placed_add.l0]) ?_
    have e : (pol N fun i => if i < m then (cf a i + cf b i) % P f else cf a i) = pol N fun i => (cf a i + cf b i) % P f := pol_congr fun i hi => by rw [if_pos (by omega)]
    rw [e]
    exact Ev.neg (by omega) (Ev.bind (trimmed_own_eq _ (by rw [pol_len]; omega)) (Ev.fix rfl))
  | succ d ih =>
    intro m h
    have hm : m < N := by omega
    have e : (pol N fun i => if i < m then (cf a i + cf b i) % P f else cf a i).set m ((cf a m + cf b m) % P f) = pol N fun i => if i < m + 1 then (cf a i + cf b i) % P f else cf a i := by
      rw [pol_set hm]
      refine pol_congr fun i _ => ?_
      by_cases c : i = m
      · rw [if_pos c, if_pos (by omega), c]
      · rw [if_neg c]
        by_cases q : i < m
        · rw [if_pos q, if_pos (by omega)]
        · rw [if_neg q, if_neg (by omega)]
    have r : rd (pol N fun i => if i < m then (cf a i + cf b i) % P f else cf a i) (m : Int) = cf a m := by
      have := cf_pol (n := N) (g := fun i => if i < m then (cf a i + cf b i) % P f else cf a i) (i := m)
      rw [if_pos hm] at this; unfold cf at this ⊢
      rw [this]; simp
    have go : Ev (fun k => (poly_reckoner_add.f k f (cf a m) (cf b m)).bind fun t => poly_placed_add.l0 k b f ((pol N fun i => if i < m then (cf a i + cf b i) % P f else cf a i).set m t) (N : Int) (wrap64 ((m : Int) + 1))) (trim (pol N fun i => (cf a i + cf b i) % P f), 0) := by
      refine Ev.bind (kadd_eq hp0 (cf_el ea (by omega) m) (cf_el eb (by omega) m)) ?_
      rw [e, w64_succ (by omega)]
      exact ih (m + 1) (by omega)
    refine Ev.step (fun k => by rw [poly_placed_add.l0]) ?_
    simp only [r, pol_len, Int.toNat_natCast]
    refine Ev.pos (by omega) (Ev.ite (fun c => ?_) (fun c => ?_))
    · exact Ev.pos (by omega) (Ev.pos (by omega) go)
    · have z : cf b m = 0 := cf_ge (by omega)
      rw [z] at go
      exact Ev.pos (by omega) (Ev.pos (by omega) go)
theorem PAdd_eq (f : Int) (a b : List Int) (wa : Wd a) (wb : Wd b) (ha : a.length < 17592186044416) (hb : b.length < 17592186044416) : Ev (fun k => poly_Add.f k f a b) (Padd f a b) := by
  unfold poly_Add.f poly_placed_add.f
  refine Ev.bind (a := Padd f a b) (Ev.bind (may2_eq f a b (by omega) (by omega)) ?_) (Ev.fix rfl)
  unfold Padd
  refine Ev.ite (fun c => ?_) (fun c => ?_)
  · rw [if_pos c]
    obtain ⟨ka, kb, la, lb⟩ := bad_zero c
    rw [mx_nat]
    simp only [Int.toNat_natCast]
    refine Ev.pos (by omega) (Ev.pos (by omega) (Ev.bnd rfl (Ev.bnd rfl ?_)))
    rw [padded a b, pol_len]
    have h := put_loop_add (ok_pr ka) (ok_iff.1 ka).1 a b (wa.el (by unfold ok at ka; simp at ka; exact ka.2)) (wb.el (by unfold ok at kb; simp at kb; exact kb.2)) (max a.length b.length) (by omega) (max a.length b.length) 0 (by omega)
    unfold sumP
    simpa using h
  · rw [if_neg c]; exact Ev.fix rfl

end Go.Proofs.Ytbjanbbjjnoecaa.FPolyBack
