/- FieldRing: orders and groupings of products, products of sums, differences. For every byte that chooses the field and every three words. -/
import Derived.Test.YthlmfgnmljhdbaaFieldRingFD
namespace Go.Proofs.Ythlmfgnmljhdbaa.Pure
open Go.RowKit Go.Proofs.Ythlmfgnmljhdbaa.PFieldRing Go.Proofs.YthlmfgnmljhdbaaW.PrintWords Go.Proofs.YthlmfgnmljhdbaaW.PrintLast Go.Proofs.Ythlmfgnmljhdbaa.M Go.Proofs.Ythlmfgnmljhdbaa.FFieldRing

theorem FieldRing : conclavelaw01_FieldRing.Pure := by
  intro f a b c hf ha hb hc
  have hf := wf_u8 hf
  have ha := wf_u64 ha
  have hb := wf_u64 hb
  have hc := wf_u64 hc
  have hp := fd_pr f
  have hlo := hp.lo; have hhi := hp.hi
  have hP : P (fd f) ≠ 0 := by omega
  refine Ev.rounds (g := fun k => conclavelaw01_FieldRing.f k f a b c) ?_
  unfold conclavelaw01_FieldRing.f
  refine Ev.bind (elements_eq f hf.1 [a, b, c] (Wd.cons ha (Wd.cons hb (Wd.cons hc Wd.nil))) (by simp)) ?_
  have hx : els (fd f) [a, b, c] = [a % P (fd f), b % P (fd f), c % P (fd f)] := rfl
  have ra := emod_rng (p := P (fd f)) a (by omega)
  have rb := emod_rng (p := P (fd f)) b (by omega)
  have rc := emod_rng (p := P (fd f)) c (by omega)
  rw [hx]
  dsimp only
  have h0 : ∀ x y z : Int, rd [x, y, z] 0 = x ∧ rd [x, y, z] 1 = y ∧ rd [x, y, z] 2 = z := fun x y z => ⟨rfl, rfl, rfl⟩
  rw [(h0 _ _ _).1, (h0 _ _ _).2.1, (h0 _ _ _).2.2]
  generalize a % P (fd f) = x at *
  generalize b % P (fd f) = y at *
  generalize c % P (fd f) = z at *
  generalize fd f = g at *
  have okk : ∀ u v : Int, u < P g → v < P g → ok g [u, v] = true := fun u v h1 h2 => by
    rw [ok_iff]; refine ⟨hP, fun t ht => ?_⟩; simp at ht; rcases ht with rfl | rfl <;> assumption
  have M : ∀ u v : Int, 0 ≤ u ∧ u < P g → 0 ≤ v ∧ v < P g → Ev (fun k => field_Mul.f k g u v) (u * v % P g, 0) := fun u v h1 h2 =>
    Ev.cast (Mul_eq g u v h1.1 h2.1) (by rw [if_pos (okk u v h1.2 h2.2)])
  have A : ∀ u v : Int, 0 ≤ u ∧ u < P g → 0 ≤ v ∧ v < P g → Ev (fun k => field_Add.f k g u v) ((u + v) % P g, 0) := fun u v h1 h2 =>
    Ev.cast (Add_eq g u v h1.1 h2.1) (by rw [if_pos (okk u v h1.2 h2.2)])
  have S : ∀ u v : Int, 0 ≤ u ∧ u < P g → 0 ≤ v ∧ v < P g → Ev (fun k => field_Sub.f k g u v) ((u - v) % P g, 0) := fun u v h1 h2 =>
    Ev.cast (Sub_eq g u v h1.1 h2.1) (by rw [if_pos (okk u v h1.2 h2.2)])
  have R : ∀ u : Int, 0 ≤ u % P g ∧ u % P g < P g := fun u => emod_rng u (by omega)
  refine Ev.pos (by simp) (Ev.pos (by simp) (Ev.pos (by simp) (Ev.bind (M x y ra rb) (Ev.bind (M y x rb ra) (Ev.bind (M y z rb rc) (Ev.bind (A y z rb rc) ?_))))))
  refine Ev.pos rfl (Ev.pos rfl (Ev.pos rfl ?_))
  refine Ev.step (fun k => by rw [conclavelaw01_FieldRing.j0]) (Ev.neg (by simp) ?_)
  refine Ev.bind (M _ z (R _) rc) (Ev.bind (M x _ ra (R _)) (Ev.bind (M x _ ra (R _)) (Ev.bind (M x z ra rc) (Ev.bind (A _ _ (R _) (R _)) (Ev.bind (S x y ra rb) (Ev.bind (A _ y (R _) rb) (Ev.bind anchored1 ?_)))))))
  have e1 : x * y % P g = y * x % P g := by rw [Int.mul_comm]
  have e2 : x * y % P g * z % P g = x * (y * z % P g) % P g := by rw [emod_mul_l, emod_mul_r, Int.mul_assoc]
  have e3 : x * ((y + z) % P g) % P g = (x * y % P g + x * z % P g) % P g := by rw [emod_mul_r, emod_add_l, emod_add_r, Int.mul_add]
  have e4 : ((x - y) % P g + y) % P g = x := by rw [emod_add_l, Int.sub_add_cancel, Int.emod_eq_of_lt ra.1 ra.2]
  refine Ev.pos rfl (Ev.pos rfl (Ev.pos e1 (Ev.pos e2 (Ev.pos e3 (Ev.pos e4 ?_)))))
  have hin : Ev (fun k => field_In.f k g [x * y % P g, (y + z) % P g, (x - y) % P g]) true := Ev.cast (In_eq g _ (by simp)) (by
    rw [ok_iff]; refine ⟨hP, fun t ht => ?_⟩; simp at ht; rcases ht with rfl | rfl | rfl <;> exact (R _).2)
  exact Ev.bind hin (Ev.fix rfl)

end Go.Proofs.Ythlmfgnmljhdbaa.Pure
