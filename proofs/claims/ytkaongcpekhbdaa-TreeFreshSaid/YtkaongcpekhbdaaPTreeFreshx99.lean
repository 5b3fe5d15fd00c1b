/- The Go functions as Lean functions, each with the proof that its call comes to just that; written by a program of this session, by the words of the print. -/
import Derived.Test.YtkaongcpekhbdaaPTreeFreshx0
namespace Go.Proofs.Ytkaongcpekhbdaa.PTreeFresh
open Go.RowKit Go.Proofs.YtkaongcpekhbdaaW.PrintWords Go.Proofs.YtkaongcpekhbdaaW.PrintLast Go.Proofs.YtkaongcpekhbdaaW.PrintMore
attribute [local go_sem] max2_int min2_int max_two min_two max_three min_three max_four min_four   -- for this text's walks alone
set_option linter.unusedVariables false
set_option linter.unusedSimpArgs false
/-! ### Rows told apart, in a ghost region of the memory (TreeFresh) -/
section
variable {α β : Type}
/-- A slice of elements that lie apart. -/
def sliceS (e : Nat) (d : Kd α) : Kd (List α) where
  sz := 1
  E := e :: d.E
  K := (Kd.slice e d).K
  M := fun w base ok xs cs => ∃ v, cs = [v] ∧ Kd.S d e w base ok v xs
  K_len := fun h => (Kd.slice e d).K_len h
  K_one := fun h => (Kd.slice e d).K_one h
  K_below := fun hb h => (Kd.slice e d).K_below hb h
  K_of_M := by
    rintro w base ok x cs ⟨v, rfl, h⟩
    obtain ⟨A, c, rfl, hl, hr⟩ := Kd.S_reads h
    exact ⟨A, c, rfl, hl, hr⟩
  M_mono := by
    rintro w base ok ok' x cs hok ⟨v, rfl, h⟩
    exact ⟨v, rfl, Kd.S_mono h hok⟩
  M_bound := by
    rintro w base ok x cs ⟨v, rfl, h⟩
    exact ⟨v, rfl, Kd.S_bound h⟩
  M_move := by
    rintro w w1 base ok x cs hm ⟨v, rfl, h⟩
    exact ⟨v, rfl, Kd.S_move h hm⟩
  M_lower := by
    rintro w base base' ok x cs hb ⟨v, rfl, h⟩
    exact ⟨v, rfl, Kd.S_lower h hb⟩
/-- A row of elements apart, whose blocks are of Z; the memory holds lo blocks at the least. -/
def T (lo : Nat) (Z : Nat → Prop) (d : Kd α) (e : Nat) (w : World) (base : Nat) (ok : Nat → Prop) (v : Value) (xs : List α) : Prop := lo ≤ w.heap.size ∧ Kd.S d e w base (fun k => ok k ∧ Z k) v xs
end
section
variable {α : Type} {lo : Nat} {Z ok ok' : Nat → Prop} {d : Kd α} {e base base' : Nat} {w w1 W : World} {u v v1 : Value} {xs : List α}
theorem T_nil (lo : Nat) (Z : Nat → Prop) (d : Kd α) (e : Nat) (w : World) (base : Nat) (ok : Nat → Prop) (h : lo ≤ w.heap.size) : T lo Z d e w base ok (.slice none 0 0) [] := ⟨h, Kd.S_nil _ _ _ _ _⟩
theorem T_mono (h : T lo Z d e w base ok v xs) (hok : ∀ k, ok k → ok' k) : T lo Z d e w base ok' v xs := ⟨h.1, Kd.S_mono h.2 (fun k hk => ⟨hok k hk.1, hk.2⟩)⟩
theorem T_below (h : T lo Z d e w base ok v xs) (hb : Below w.heap.size w w1) : T lo Z d e w1 base ok v xs := ⟨Nat.le_trans h.1 hb.size, Kd.S_below h.2 hb⟩
theorem T_alloc (h : T lo Z d e w base ok v xs) (o : Obj) : T lo Z d e (w.alloc o) base ok v xs := T_below h (below_alloc (Below.refl _ _) o)
theorem T_drew (h : T lo Z d e w base ok v xs) : T lo Z d e w.drew base ok v xs := T_below h (below_drew (Below.refl _ _))
theorem T_drewN (h : T lo Z d e w base ok v xs) (m : Nat) : T lo Z d e (w.drewN m) base ok v xs := T_below h (pw_below_drewN (Below.refl _ _) m)
theorem T_typed (h : T lo Z d e w base ok v xs) : ∀ k, v.ownBlock = some k → ∃ cells, w.heap[k]? = some (.cells cells e (0, 0)) := Kd.S_typed h.2
theorem T_lt (h : T lo Z d e w base ok v xs) : ∀ k, v.ownBlock = some k → k < w.heap.size := Kd.S_lt h.2
theorem T_base (h : T lo Z d e w base ok v xs) : ∀ k, v.ownBlock = some k → base ≤ k := Kd.S_base h.2
theorem T_ne (h : T lo Z d e w base ok v xs) {g t : Nat} {cells : Array Value} (hb : w.heap[g]? = some (.cells cells t (0, 0))) (ht : e ≠ t) : some g ≠ v.ownBlock := Kd.S_ne h.2 hb ht
theorem T_V (h : T lo Z d e w base ok v xs) : Kd.V d e w base' ok v xs := Kd.V_mono (Kd.S_V h.2) (fun _ hk => hk.1)
theorem T_elder' (h : T lo Z d e W base ok v xs) (hbase : ∀ k, u.ownBlock = some k → W.heap.size ≤ k) (hb : Below W.heap.size W w1) : T lo Z d e w1 base (fun k => ok k ∧ some k ≠ u.ownBlock) v xs :=
  ⟨Nat.le_trans h.1 hb.size, Kd.S_mono (Kd.S_elder' h.2 hbase hb) (fun _ hk => ⟨⟨hk.1.1, hk.2⟩, hk.1.2⟩)⟩
theorem T_afterv (h : T lo Z d e W base (fun k => ok k ∧ some k ≠ v.ownBlock) u xs) (hg : W.grownBy w1 v.ownBlock) (hat : v1.ownBlock = v.ownBlock ∨ ∃ b, v1.ownBlock = some b ∧ W.heap.size ≤ b) : T lo Z d e w1 base (fun k => ok k ∧ some k ≠ v1.ownBlock) u xs :=
  ⟨Nat.le_trans h.1 hg.size, Kd.S_mono (Kd.S_after (Kd.S_mono (ok' := fun k => (ok k ∧ Z k) ∧ some k ≠ v.ownBlock) h.2 (fun _ hk => ⟨⟨hk.1.1, hk.2⟩, hk.1.2⟩)) hg hat) (fun _ hk => ⟨⟨hk.1.1, hk.2⟩, hk.1.2⟩)⟩
/-- What lies below the memory's size now. -/
theorem T_now (h : T lo Z d e w base ok v xs) : T 0 (fun k => k < w.heap.size) d e w base ok v xs := ⟨Nat.zero_le _, Kd.S_mono (Kd.S_bound h.2) (fun _ hk => ⟨hk.1.1, hk.2.2.1⟩)⟩
theorem T_free (h : T lo Z d e w base ok v xs) : T 0 (fun _ => True) d e w base ok v xs := ⟨Nat.zero_le _, Kd.S_mono h.2 (fun _ hk => ⟨hk.1, trivial⟩)⟩
theorem T_old (h : T lo Z d e W base ok v xs) (hb : Below W.heap.size W w1) : T lo Z d e w1 base (fun k => ok k ∧ k < W.heap.size) v xs :=
  ⟨Nat.le_trans h.1 hb.size, Kd.S_mono (Kd.S_old h.2 hb) (fun _ hk => ⟨⟨hk.1.1, hk.2⟩, hk.1.2⟩)⟩
theorem T_told {b : Nat} (h : T lo Z d e w1 base (fun k => ok k ∧ k < b) v xs) (hbase : ∀ k, u.ownBlock = some k → b ≤ k) : T lo Z d e w1 base (fun k => (ok k ∧ some k ≠ u.ownBlock) ∧ k < b) v xs :=
  T_mono h (fun k hk => ⟨⟨hk.1, fun e => Nat.lt_irrefl _ (Nat.lt_of_lt_of_le hk.2 (hbase k e.symm))⟩, hk.2⟩)
theorem T_lower (h : T lo Z d e w base ok v xs) (hb : base' ≤ base) : T lo Z d e w base' ok v xs := ⟨h.1, Kd.S_lower h.2 hb⟩
theorem T_S (h : T lo Z d e w base ok v xs) : Kd.S d e w base ok v xs := Kd.S_mono h.2 (fun _ hk => hk.1)
theorem T_nowS {n : Nat} (h : T lo Z d e w base ok v xs) (hn : w.heap.size = n) : T 0 (fun k => k < n) d e w base ok v xs := hn ▸ T_now h
theorem nT_ {p q : Prop} (h : Aside0 p) (k : p → q := by intro h_; (with_reducible repeat (first | apply T_alloc | apply T_drewN | apply T_drew)); exact h_) : q := k h.out
theorem mT_ {p q : Prop} (h : p) (k : p → q := by intro h_; (with_reducible repeat (first | apply T_alloc | apply T_drewN | apply T_drew)); exact h_) : q := k h
end
section
variable {P : Program} {ops : Array Oper} {rest : List Oper} {o : Oper} {a : Act} {Q : Exit → Act → World → Prop} {α : Type}
/-- append(v, x), x a row of its own (its block is of Z). -/
theorem T_append {lo : Nat} {Z : Nat → Prop} (d : Kd α) {w0 W : World} (base : Nat) (hgd : o.guard = none) (s x : Operand) (t e : TypeId) (z : Value) (bytes : Nat)
    (ho : o.op = .call { callee := .builtin .append, args := #[s, x], argTypes := #[t, t] })
    (ht : P.underlying t = some (.slice e)) (hinfo : (P.info? e).map (fun i => (i.zero, i.size, i.bytes)) = some (some z, d.sz, bytes)) (hz : z.cells.size = d.sz) (hs0 : 0 < d.sz) (hb0 : 0 < bytes)
    (v : Value) (xs : List α) (p : α) (cs : List Value) (ok okp : Nat → Prop) (hs : a.eval s = v) (hx : a.eval x = .slice (some ⟨W.heap.size, 0, none⟩) 1 1) (hp : d.M W base okp p cs) (hokp : ∀ k, okp k → (ok k ∧ Z k) ∧ some k ≠ v.ownBlock) (hfresh : ∀ k, W.heap.size ≤ k → ok k)
    (hZ : ∀ k, W.heap.size ≤ k → Z k) (HO : T lo Z d e W base (fun k => ok k ∧ ¬ okp k) v xs) (HB : Below base w0 W) (hbase : base ≤ W.heap.size) (hl : (xs.length + 1) * bytes ≤ 140737488355328)
    (h : ∀ v1 w1, T lo Z d e w1 base ok v1 (xs ++ [p]) → Below base w0 w1 → W.grownBy w1 v.ownBlock → (v1.ownBlock = v.ownBlock ∨ ∃ b, v1.ownBlock = some b ∧ W.heap.size ≤ b) → wpList P ops Q rest (a.put o.dst v1) w1) :
    wpList P ops Q (o :: rest) a (W.alloc (.cells cs.toArray e)) :=
  Kd.S_append d base hgd s x t e z bytes ho ht hinfo hz hs0 hb0 v xs p cs (fun k => ok k ∧ Z k) okp hs hx hp hokp (fun k hk => ⟨hfresh k hk, hZ k hk⟩) (Kd.S_mono HO.2 (fun _ hk => ⟨⟨hk.1.1, hk.2⟩, hk.1.2⟩)) HB hbase hl
    (fun v1 w1 h1 h2 h3 h4 => h v1 w1 ⟨Nat.le_trans HO.1 h3.size, h1⟩ h2 h3 h4)
/-- append(v, x), x a row of rows made since the memory held lo blocks; v lies below. -/
theorem T_appendL (d : Kd α) (e1 : Nat) {w0 W : World} (base lo : Nat) (hgd : o.guard = none) (s x : Operand) (t e : TypeId) (z : Value) (bytes : Nat)
    (ho : o.op = .call { callee := .builtin .append, args := #[s, x], argTypes := #[t, t] })
    (ht : P.underlying t = some (.slice e)) (hinfo : (P.info? e).map (fun i => (i.zero, i.size, i.bytes)) = some (some z, 1, bytes)) (hz : z.cells.size = 1) (hb0 : 0 < bytes)
    (v : Value) (xs : List (List α)) (p : List α) (y : Value) (ok okp : Nat → Prop) (hs : a.eval s = v) (hx : a.eval x = .slice (some ⟨W.heap.size, 0, none⟩) 1 1) (hp : T lo (fun k => lo ≤ k) d e1 W base okp y p) (hokp : ∀ k, okp k → ok k) (hfresh : ∀ k, W.heap.size ≤ k → ok k)
    (HO : T 0 (fun k => k < lo) (sliceS e1 d) e W base ok v xs) (HB : Below base w0 W) (hbase : base ≤ W.heap.size) (hl : (xs.length + 1) * bytes ≤ 140737488355328)
    (h : ∀ v1 w1, T 0 (fun _ => True) (sliceS e1 d) e w1 base ok v1 (xs ++ [p]) → Below base w0 w1 → W.grownBy w1 v.ownBlock → (v1.ownBlock = v.ownBlock ∨ ∃ b, v1.ownBlock = some b ∧ W.heap.size ≤ b) → wpList P ops Q rest (a.put o.dst v1) w1) :
    wpList P ops Q (o :: rest) a (W.alloc (.cells #[y] e)) :=
  Kd.S_append (sliceS e1 d) base hgd s x t e z bytes ho ht hinfo hz Nat.one_pos hb0 v xs p [y] ok (fun k => okp k ∧ lo ≤ k) hs hx ⟨y, rfl, hp.2⟩
    (fun k hk => ⟨hokp k hk.1, fun he => by have := ((Kd.S_R HO.2).1 k he.symm).2; have := hk.2; omega⟩) hfresh (Kd.S_mono HO.2 (fun k hk => ⟨hk.1, fun h2 => by have := hk.2; have := h2.2; omega⟩)) HB hbase hl
    (fun v1 w1 h1 h2 h3 h4 => h v1 w1 ⟨Nat.zero_le _, Kd.S_mono h1 (fun _ hk => ⟨hk, trivial⟩)⟩ h2 h3 h4)
/-- A literal of one row of rows. -/
theorem T_lit {lo : Nat} {Z : Nat → Prop} (d : Kd α) (e1 : Nat) {W : World} (base e : Nat) (hgd : o.guard = none) {N : Tmp} (hd : o.dst = some N) {p : List α} {y : Value} {ok : Nat → Prop}
    (hrun : (execOp a.eval o).run P W = .ok (.value (.slice (some ⟨W.heap.size, 0, none⟩) 1 1)) (W.alloc (.cells #[y] e)))
    (hp : T lo Z d e1 W base ok y p) (hfresh : ok W.heap.size) (hbase : base ≤ W.heap.size)
    (h : ∀ v1 w1, T 0 (fun _ => True) (sliceS e1 d) e w1 base ok v1 [p] → Below W.heap.size W w1 → (∀ k, v1.ownBlock = some k → W.heap.size ≤ k) → wpList P ops Q rest (a.put o.dst v1) w1) : wpList P ops Q (o :: rest) a W :=
  Kd.S_lits (sliceS e1 d) (w0 := W) base e hgd hd (xs := [p]) (inner := [y]) (ok := ok) (fun j k => j = 0 ∧ ok k) hrun rfl
    (fun j x hx => by
      rcases j with _ | j
      · obtain rfl : p = x := by simpa using hx
        exact ⟨y, rfl, Kd.S_mono hp.2 (fun _ hk => ⟨rfl, hk.1⟩)⟩
      · simp at hx)
    (fun _ _ _ h1 h2 => h1.1.trans h2.1.symm) (fun _ _ hk => hk.2) hfresh (Below.refl _ _) hbase (by simp)
    (fun v1 w1 h1 _ h3 h4 => h v1 w1 ⟨Nat.zero_le _, Kd.S_mono h1 (fun _ hk => ⟨hk, trivial⟩)⟩ ⟨h3.os, h3.tape, h3.output, h3.size, fun k hk => h3.block k hk (by simp)⟩ (fun k hk => by
      obtain ⟨b, hb, hle⟩ := h4
      rw [hb] at hk
      injection hk with hk
      omega))
end
section
variable {α : Type} {d d' : Kd α} {e e1 base n c : Nat} {ok : Nat → Prop} {W : World} {ad : Addr} {u v : Value} {xs : List α}
theorem S_cell (h : Kd.S d e W base ok (.slice (some ad) n c) xs) (hsz : d.sz = 1) (z : α) (i : Int) (h0 : 0 ≤ i) (h1 : i < n) (hu : W.cell? (ad.add i.toNat) = some u) : d.M W base ok (xs.getD i.toNat z) [u] := by
  obtain ⟨cs, hl, hM, hc⟩ := Kd.S_get h z i h0 h1
  rw [hsz] at hl
  obtain ⟨u0, rfl⟩ := List.length_eq_one_iff.1 hl
  have h2 := hc 0 u0 rfl
  rw [hsz, Nat.mul_one, Nat.add_zero, hu] at h2
  injection h2 with h2
  rw [h2]
  exact d.M_mono (fun _ hk => hk.1) hM
theorem M_S {ys : List (List α)} {i : Int} (h : (sliceS e1 d).M W base ok (ys.getD i.toNat []) [u]) : Kd.S d e1 W base ok u (ys.getD i.toNat []) := by
  obtain ⟨v, hv, h⟩ := h
  injection hv with hv
  rw [hv]
  exact h
theorem M_R {ys : List (List α)} {i : Int} (h : (Kd.slice e1 d).M W base ok (ys.getD i.toNat []) [u]) : d.R e1 W base ok u (ys.getD i.toNat []) := by
  obtain ⟨v, hv, h⟩ := h
  injection hv with hv
  rw [hv]
  exact h
theorem S_NS {ys : List (List α)} (h : Kd.S (sliceS e1 d) e W base ok v ys) : Kd.N (Kd.slice e1 d) e W base ok v ys := (Kd.S_N h : Kd.N (sliceS e1 d) e W base ok v ys)
end
section
variable {P : Program}
/-- An append in place, or into new memory that leaves all else as it was. -/
theorem run_append_two (w : World) (base : Nat) (t ty e : TypeId) (i : TypeInfo) (z : Value) (size bytes : Nat) (ht : P.underlying t = some (.slice e)) (hi : P.info? e = some i) (hz : i.zero = some z)
    (hsize : i.size = size) (hby : i.bytes = bytes) (hzs : z.cells.size = size) (hsz : 0 < size)
    (v : Value) (n : Nat) (xs : List Value) (hown : w.ownsRow base e size v n xs)
    (a : Addr) (m c : Nat) (news : List Value) (hl : news.length = m * size) (hnews : ∀ j u, news[j]? = some u → w.cell? (a.add j) = some u) (h1 : ∀ u ∈ news, u.oneCell' = true)
    (h63 : n + m ≤ maxLen) (hbytes : (n + m) * bytes ≤ 140737488355328) (hbase : base ≤ w.heap.size) :
    ∃ v' w', (Builtin.append_ #[t, t] ty #[v, .slice (some a) m c]).run P w = .ok v' w' ∧ w'.ownsRow base e size v' (n + m) (xs ++ news) ∧ w.grownBy w' v.ownBlock ∧ (v'.ownBlock = v.ownBlock ∨ v'.ownBlock = some w.heap.size) ∧
      ((∃ A c', v = .slice A n c' ∧ v' = .slice A (n + m) c') ∨ (w.grownBy w' none ∧ (v = .slice none 0 0 ∨ v'.ownBlock = some w.heap.size))) := by
  obtain ⟨v', w', hr, h2, h3, _, h4⟩ := run_append_own_at (P := P) w base t ty e i z size bytes ht hi hz hsize hby hzs hsz v n xs hown a m c news hl hnews h1 h63 hbytes hbase
  refine ⟨v', w', hr, h2, h3, h4, ?_⟩
  subst hsize
  subst hby
  have hown' := hown
  rcases hown.2 with ⟨rfl, rfl⟩ | ⟨g, cap, cur, rfl, hbg, hg, hnc, hcm, hcs, htake⟩
  · exact .inr ⟨h3, .inl rfl⟩
  · by_cases hroom : n + m ≤ cap
    · have hfit : n * i.size + news.length ≤ cur.size := by rw [hl, hcs, ← Nat.add_mul]; exact Nat.mul_le_mul_right _ hroom
      have hr2 := run_append_room (P := P) w t ty e i ht hi g n cap cur hg a m c news hl hnews h1 hroom hfit
      rw [hr] at hr2
      injection hr2 with hv _
      exact .inl ⟨_, _, rfl, hv⟩
    · have holds : ∀ j u, xs[j]? = some u → w.cell? ((⟨g, 0, none⟩ : Addr).add j) = some u := hown'.cells (g := g) rfl
      have hr2 := run_append_grow (P := P) w t ty e i z ht hi hz ⟨g, 0, none⟩ n cap xs hown'.1 holds a m c news hl hnews (by omega) (by simp only [maxLen] at h63; omega) (growslice_fits (by omega) hbytes)
      rw [hr] at hr2
      injection hr2 with hv hw
      refine .inr ⟨?_, .inr (by rw [hv]; rfl)⟩
      rw [hw]
      exact ⟨rfl, rfl, rfl, by simp, fun k hk _ => Go.heap_alloc_old w.drew _ hk⟩
/-- What becomes of the row u itself while v, appended to it, is written. -/
def SpOld (w : World) (base : Nat) (u v : Value) : Prop := (∃ A n m c, u = .slice A n c ∧ v = .slice A m c ∧ n ≤ m) ∨ ∃ l : List Int, Kd.R (Kd.int .u64) 49 w base (fun k => some k ≠ v.ownBlock) u l
variable {w w1 : World} {base : Nat} {u v : Value}
theorem SpOld_grown (h : SpOld w base u v) {row : Option Nat} (hg : w.grownBy w1 row) (hr : v.ownBlock = row) : SpOld w1 base u v := by
  rcases h with h | ⟨l, h⟩
  · exact .inl h
  · exact .inr ⟨l, Kd.R_grown h hg (fun k hk => hr ▸ hk)⟩
theorem SpOld_below (h : SpOld w base u v) (hb : Below w.heap.size w w1) : SpOld w1 base u v := by
  rcases h with h | ⟨l, h⟩
  · exact .inl h
  · exact .inr ⟨l, Kd.R_below h hb⟩
theorem SpOld_alloc (h : SpOld w base u v) (o : Obj) : SpOld (w.alloc o) base u v := SpOld_below h (below_alloc (Below.refl _ _) o)
theorem SpOld_drew (h : SpOld w base u v) : SpOld w.drew base u v := SpOld_below h (below_drew (Below.refl _ _))
theorem SpOld_drewN (h : SpOld w base u v) (m : Nat) : SpOld (w.drewN m) base u v := SpOld_below h (pw_below_drewN (Below.refl _ _) m)
theorem SpOld_end (h : SpOld w base u v) {ok P0 : Nat → Prop} {x : List Int} {n : Nat} (hv : Kd.R (Kd.int .u64) 49 w base ok v x) (hu : ∀ k, u.ownBlock = some k → P0 k) (hs : ∃ A c, u = .slice A n c) : ∃ l : List Int, Kd.R (Kd.int .u64) 49 w base P0 u l ∧ l.length = n := by
  obtain ⟨A0, c0, rfl⟩ := hs
  rcases h with ⟨A, n', m, c, he, rfl, hle⟩ | ⟨l, h⟩
  · injection he with ha hn hc
    subst ha; subst hn; subst hc
    have hx := (Kd.R_reads' hv).1
    exact ⟨x.take n, Kd.R_reok rfl (Kd.R_take hv (by omega)) hu, by rw [List.length_take]; omega⟩
  · exact ⟨l, Kd.R_reok rfl h hu, (Kd.R_reads' h).1.symm⟩
variable {ops : Array Oper} {rest : List Oper} {o : Oper} {a : Act} {Q : Exit → Act → World → Prop}
/-- append(v, ys...) on a row of numbers, and what becomes of v's own row. -/
theorem R_append_two {w0 W : World} (base : Nat) (hgd : o.guard = none) (s x : Operand) (t : TypeId) (z : Value) (bytes : Nat)
    (ho : o.op = .call { callee := .builtin .append, args := #[s, x], argTypes := #[t, t] })
    (ht : P.underlying t = some (.slice 49)) (hinfo : (P.info? 49).map (fun i => (i.zero, i.size, i.bytes)) = some (some z, 1, bytes)) (hz : z.cells.size = 1) (hb0 : 0 < bytes)
    (v : Value) (xs ys : List Int) (A : Option Addr) (m c : Nat) (ok : Nat → Prop) (hs : a.eval s = v) (hx : a.eval x = .slice A m c) (hm0 : 0 < ys.length)
    (HO : Kd.R (Kd.int .u64) 49 W base ok v xs) (HR : Kd.C (Kd.int .u64) W A m ys) (hfresh : ∀ k, W.heap.size ≤ k → ok k)
    (HB : Below base w0 W) (hbase : base ≤ W.heap.size) (hl : (xs.length + m) * bytes ≤ 140737488355328)
    (h : ∀ v1 w1, Kd.R (Kd.int .u64) 49 w1 base ok v1 (xs ++ ys) → Below base w0 w1 → W.grownBy w1 v.ownBlock → (v1.ownBlock = v.ownBlock ∨ ∃ b, v1.ownBlock = some b ∧ W.heap.size ≤ b) → SpOld w1 base v v1 → wpList P ops Q rest (a.put o.dst v1) w1) :
    wpList P ops Q (o :: rest) a W := by
  obtain ⟨i0, hi, hzz⟩ := Option.map_eq_some_iff.1 hinfo
  simp only [Prod.mk.injEq] at hzz
  obtain ⟨hz0, hz1, hz2⟩ := hzz
  have hR := Kd.reads_of_C (enc := Value.int .u64) (d := (0 : Int)) (h1 := fun _ => rfl) HR
  have hm : ys.length = m := hR.1
  obtain ⟨ad, rfl, hcs⟩ := hR.2.2 (by omega)
  have hlen : xs.length + m ≤ 140737488355328 := Nat.le_trans (Nat.le_mul_of_pos_right _ hb0) hl
  have hown := Kd.own_of_R (enc := Value.int .u64) (h1 := fun _ => rfl) HO
  have hnc : ∀ j u, (encs (Value.int .u64) ys)[j]? = some u → W.cell? (ad.add j) = some u := by
    intro j u hu
    have hj : j < ys.length := by have := (List.getElem?_eq_some_iff.1 hu).1; rwa [encs_length] at this
    rw [encs_get (d := (0 : Int)) ys j hj] at hu
    injection hu with hu
    rw [← hu]
    exact hcs j (by omega)
  obtain ⟨v1, w1, hrun, h2, hg, hat, htw⟩ := run_append_two (P := P) W base t o.type 49 i0 z 1 bytes ht hi hz0 hz1 hz2 hz Nat.one_pos v xs.length _ hown ad m c (encs (Value.int .u64) ys) (by rw [encs_length, hm, Nat.mul_one]) hnc (by
    intro q hq
    obtain ⟨y, _, rfl⟩ := List.mem_map.1 hq
    rfl) (by simp only [maxLen]; omega) hl hbase
  have hrow : Kd.R (Kd.int .u64) 49 w1 base ok v1 (xs ++ ys) := by
    refine Kd.R_of_own (enc := Value.int .u64) (h1 := fun _ => rfl) (by rw [List.length_append, hm, encs_append]; exact h2) (fun k hk => ?_)
    rcases hat with hat | hat
    · exact HO.1 k (hat ▸ hk)
    · rw [hat] at hk
      injection hk with hk
      exact hfresh k (by omega)
  have hold : SpOld w1 base v v1 := by
    rcases htw with ⟨A, c', h5, h6⟩ | ⟨h5, h6⟩
    · exact .inl ⟨A, _, _, c', h5, h6, by omega⟩
    · refine .inr ⟨xs, ?_⟩
      refine Kd.R_mono (Kd.R_grown (Kd.R_tight rfl HO) h5 (fun _ _ he => by cases he)) (fun k hk he => ?_)
      rcases h6 with rfl | h6
      · simp [Value.ownBlock] at hk
      · rw [h6] at he
        injection he with he
        have := Kd.R_lt HO k hk.symm
        omega
  refine wpList_plain hgd fun K hK => ?_
  unfold Oper.wp execOp
  simp only [ho, resolve, invoke, builtin, Sem.run_bind, Sem.run_pure, Result.andThen_ok, List.map_toArray, List.map_cons, List.map_nil, hs, hx, hrun]
  refine hK _ _ (h v1 w1 hrow (HB.grown hg hbase (own_base hown)) hg ?_ hold)
  rcases hat with hat | hat
  · exact .inl hat
  · exact .inr ⟨_, hat, Nat.le_refl _⟩
end
section
variable {e base n c : Nat} {ok : Nat → Prop} {W w1 : World} {A : Option Addr}
theorem S2_at {X : List (List (List Int))} (h : Kd.S (sliceS 22 (Kd.slice 49 (Kd.int .u64))) e W base ok (.slice A n c) X) (i : Int) (h0 : 0 ≤ i) (h1 : i < X.length) :
    ∃ ad A1 c1, A = some ad ∧ W.cell? (ad.add i.toNat) = some (.slice A1 (rd_L2 X i).length c1) ∧ (rd_L2 X i).length ≤ c1 ∧ (Kd.slice 49 (Kd.int .u64)).C W A1 (rd_L2 X i).length (rd_L2 X i) ∧ Kd.S (Kd.slice 49 (Kd.int .u64)) 22 W base ok (.slice A1 (rd_L2 X i).length c1) (rd_L2 X i) := by
  have hr := Kd.S_reads' h
  obtain ⟨ad, A1, c1, rfl, h2, h3, h4⟩ := at_L2 (show Kd.C (Kd.slice 22 (Kd.slice 49 (Kd.int .u64))) W A X.length X from hr.2.2) i h0 h1
  exact ⟨ad, A1, c1, rfl, h2, h3, h4, M_S (S_cell h rfl [] i h0 (by omega) h2)⟩
theorem S1_at {X : List (List Int)} (h : Kd.S (Kd.slice 49 (Kd.int .u64)) e W base ok (.slice A n c) X) (i : Int) (h0 : 0 ≤ i) (h1 : i < X.length) :
    ∃ ad A1 c1, A = some ad ∧ W.cell? (ad.add i.toNat) = some (.slice A1 (rd_L1 X i).length c1) ∧ (rd_L1 X i).length ≤ c1 ∧ (Kd.int .u64).C W A1 (rd_L1 X i).length (rd_L1 X i) ∧ Kd.R (Kd.int .u64) 49 W base ok (.slice A1 (rd_L1 X i).length c1) (rd_L1 X i) := by
  have hr := Kd.S_reads' h
  obtain ⟨ad, A1, c1, rfl, h2, h3, h4⟩ := at_L1 hr.2.2 i h0 h1
  exact ⟨ad, A1, c1, rfl, h2, h3, h4, M_R (S_cell h rfl [] i h0 (by omega) h2)⟩
/-- A row of rows one of which has been written. -/
theorem S1_back {X : List (List Int)} {ad : Addr} {u : Value} {l : List Int} (h : Kd.S (Kd.slice 49 (Kd.int .u64)) e W base ok (.slice (some ad) n c) X) (i : Int) (h0 : 0 ≤ i) (h1 : i < X.length) (hu : W.cell? (ad.add i.toNat) = some u)
    (hk : Kept W w1 (fun k => some k = u.ownBlock)) (hR : Kd.R (Kd.int .u64) 49 w1 base (fun k => some k = u.ownBlock) u l) : Kd.S (Kd.slice 49 (Kd.int .u64)) e w1 base ok (.slice (some ad) n c) (X.set i.toNat l) := by
  have hr := Kd.S_reads' h
  obtain ⟨g, rfl⟩ := Kd.R_head (Kd.S_R h)
  obtain ⟨oki, cs, hl, hM, hc, ho, hH⟩ := Kd.S_lend h [] i h0 (by omega)
  obtain ⟨v, rfl, hv⟩ := hM
  have hvu : v = u := by
    have h2 := hc 0 v rfl
    rw [Nat.add_zero, show (Kd.slice 49 (Kd.int .u64)).sz = 1 from rfl, Nat.mul_one] at h2
    rw [add_plain] at hu
    exact Option.some.inj (h2.symm.trans hu)
  subst hvu
  exact Kd.H_back (Kd.H_kept hH hk (fun k _ hn he => hn (hv.1 k he.symm))) ⟨v, rfl, hR⟩ (fun k hk2 => hv.1 k hk2.symm)
theorem S2_back {X : List (List (List Int))} {ad ad1 : Addr} {n1 c1 : Nat} {u : Value} {l : List Int} (h : Kd.S (sliceS 22 (Kd.slice 49 (Kd.int .u64))) e W base ok (.slice (some ad) n c) X) (i : Int) (h0 : 0 ≤ i) (h1 : i < X.length) (hv1 : W.cell? (ad.add i.toNat) = some (.slice (some ad1) n1 c1))
    (j : Int) (j0 : 0 ≤ j) (j1 : j < (rd_L2 X i).length) (hu : W.cell? (ad1.add j.toNat) = some u)
    (hk : Kept W w1 (fun k => some k = u.ownBlock)) (hR : Kd.R (Kd.int .u64) 49 w1 base (fun k => some k = u.ownBlock) u l) : Kd.S (sliceS 22 (Kd.slice 49 (Kd.int .u64))) e w1 base ok (.slice (some ad) n c) (X.set i.toNat ((rd_L2 X i).set j.toNat l)) := by
  have hr := Kd.S_reads' h
  obtain ⟨g, rfl⟩ := Kd.R_head (Kd.S_R h)
  obtain ⟨oki, cs, hl, hM, hc, ho, hH⟩ := Kd.S_lend h [] i h0 (by omega)
  obtain ⟨v, rfl, hv⟩ := hM
  have hvu : v = .slice (some ad1) n1 c1 := by
    have h2 := hc 0 v rfl
    rw [Nat.add_zero, show (sliceS 22 (Kd.slice 49 (Kd.int .u64))).sz = 1 from rfl, Nat.mul_one] at h2
    rw [add_plain] at hv1
    exact Option.some.inj (h2.symm.trans hv1)
  subst hvu
  have hown : ∀ k, u.ownBlock = some k → oki k := by
    have hrow := M_R (S_cell hv rfl [] j j0 (by have := (Kd.S_reads' hv).1; unfold rd_L2 at j1; omega) hu)
    exact hrow.1
  exact Kd.H_back (Kd.H_kept hH hk (fun k _ hn he => hn (hown k he.symm))) ⟨_, rfl, S1_back hv j j0 j1 hu hk hR⟩ (fun k hk2 => hk2)
end
/-! ### How far the lists that are spoiled may be long -/
def fresh_ok (t : List (List (List Int))) (z v : List Int) (r : List (List Int)) : Bool :=
  decide (t.length < 4000000000000) && t.all (fun l => decide (l.length < 4000000000000) && l.all (fun x => decide (x.length < 4000000000000))) && decide (z.length < 4000000000000) && decide (v.length < 4000000000000) && decide (r.length < 4000000000000) && r.all (fun x => decide (x.length < 4000000000000))
def okR (Y : List (List Int)) : Prop := Y.length < 4000000000000 ∧ ∀ x ∈ Y, x.length < 4000000000000
def okT (X : List (List (List Int))) : Prop := X.length < 4000000000000 ∧ ∀ l ∈ X, okR l
theorem fresh_parts {t : List (List (List Int))} {z v : List Int} {r : List (List Int)} (h : fresh_ok t z v r = true) : okT t ∧ z.length < 4000000000000 ∧ v.length < 4000000000000 ∧ okR r := by
  simp only [fresh_ok, Bool.and_eq_true, decide_eq_true_eq, List.all_eq_true] at h
  obtain ⟨⟨⟨⟨⟨h1, h2⟩, h3⟩, h4⟩, h5⟩, h6⟩ := h
  exact ⟨⟨h1, fun l hl => h2 l hl⟩, h3, h4, h5, h6⟩
theorem okT_row {X : List (List (List Int))} (h : okT X) {i : Int} (h0 : 0 ≤ i) (h1 : i < X.length) : okR (rd_L2 X i) := by
  unfold rd_L2
  rw [List.getD_eq_getElem?_getD, List.getElem?_eq_getElem (show i.toNat < X.length by omega)]
  exact h.2 _ (List.getElem_mem _)
theorem okR_row {Y : List (List Int)} (h : okR Y) {i : Int} (h0 : 0 ≤ i) (h1 : i < Y.length) : (rd_L1 Y i).length < 4000000000000 := by
  unfold rd_L1
  rw [List.getD_eq_getElem?_getD, List.getElem?_eq_getElem (show i.toNat < Y.length by omega)]
  exact h.2 _ (List.getElem_mem _)
theorem okR_set {Y : List (List Int)} (h : okR Y) (i : Nat) {l : List Int} (hl : l.length < 4000000000000) : okR (Y.set i l) := by
  refine ⟨by rw [List.length_set]; exact h.1, fun x hx => ?_⟩
  rcases List.mem_or_eq_of_mem_set hx with hx | rfl
  · exact h.2 x hx
  · exact hl
theorem okT_set {X : List (List (List Int))} (h : okT X) (i : Nat) {Y : List (List Int)} (hY : okR Y) : okT (X.set i Y) := by
  refine ⟨by rw [List.length_set]; exact h.1, fun x hx => ?_⟩
  rcases List.mem_or_eq_of_mem_set hx with hx | rfl
  · exact h.2 x hx
  · exact hY
theorem rd_L2_set {X : List (List (List Int))} {i : Int} {Y : List (List Int)} (h0 : 0 ≤ i) (h1 : i < X.length) : rd_L2 (X.set i.toNat Y) i = Y := by
  unfold rd_L2
  rw [List.getD_eq_getElem?_getD, List.getElem?_set_self (show i.toNat < X.length by omega)]
  rfl
theorem rd_L1_set {Y : List (List Int)} {i j : Int} {l : List Int} (h0 : 0 ≤ i) (h1 : i < j) : rd_L1 (Y.set i.toNat l) j = rd_L1 Y j := by
  unfold rd_L1
  rw [List.getD_eq_getElem?_getD, List.getElem?_set_ne (by omega), List.getD_eq_getElem?_getD]
theorem wrap_succ {i : Int} (h0 : 0 ≤ i) (h1 : i < 4611686018427387904) : wrap64 (i + 1) = i + 1 := by unfold wrap64; omega
end Go.Proofs.Ytkaongcpekhbdaa.PTreeFresh
