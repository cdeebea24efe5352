/- Words for clear of the end of a row of one's own (no condition). -/
import Derived.Test.YtjifdgicamlikaaXS
namespace Go.Proofs.Ytjifdgicamlikaa.XK
open Go Go.RowKit Go.Proofs.YtjifdgicamlikaaW.PrintWords
section
variable {P : Program} {α : Type}
theorem R_clear_run (d : Kd α) {W : World} (base : Nat) (t ty e : TypeId) (z : Value) (ht : P.underlying t = some (.slice e)) {bytes : Nat} (hinfo : (P.info? e).map (fun i => (i.zero, i.size, i.bytes)) = some (some z, d.sz, bytes)) (hz : z.cells.size = d.sz) (hs0 : 0 < d.sz)
    {n c k : Nat} {A0 : Option Addr} {xs : List α} (z0 : α) {ok : Nat → Prop} (hzero : d.M W base (fun _ => False) z0 z.cells.toList)
    (HO : d.R e W base ok (.slice A0 n c) xs) (hk : k ≤ n) {A : Option Addr} (hA : A = if c = k then A0 else A0.map (·.add (k * d.sz))) (c2 : Nat) :
    ∃ w1, (Builtin.clear_ #[t] ty #[.slice A (n - k) c2]).run P W = .ok (.tuple #[]) w1 ∧ d.R e w1 base ok (.slice A0 n c) (xs.take k ++ List.replicate (xs.length - k) z0) ∧ W.grownBy w1 (Value.slice A0 n c).ownBlock := by
  obtain ⟨hn0, hnc, _⟩ := Kd.R_reads' HO
  have hn := hn0.symm
  rw [hn]
  rcases Nat.eq_zero_or_pos (n - k) with h0 | hp
  · refine ⟨W, ?_, ?_, ⟨rfl, rfl, rfl, Nat.le_refl _, fun _ _ _ => rfl⟩⟩
    · rw [h0]
      cases A <;> simp [Builtin.clear_, run_underlying ht]
    · rw [h0, List.replicate_zero, List.append_nil, List.take_of_length_le (by omega)]
      exact HO
  · have hck : ¬ c = k := by omega
    obtain ⟨i0, hi, hzz⟩ := Option.map_eq_some_iff.1 hinfo
    simp only [Prod.mk.injEq] at hzz
    obtain ⟨hz0, hz1, _⟩ := hzz
    obtain ⟨hok, inner, hown, hr⟩ := HO
    have hin : inner.length = n * d.sz := by rw [hr.1, hn]
    rcases hown.2 with ⟨hv, _⟩ | ⟨g', cap', cur, hv, hb, hh, _, hcm, hcs, htake⟩
    · cases hv
      exact absurd hp (by omega)
    injection hv with ha _ hc
    subst ha; subst hc
    rw [if_neg hck, Option.map_some, Addr.add_lit] at hA
    subst hA
    obtain ⟨g, rfl⟩ : ∃ g, g = g' := ⟨_, rfl⟩
    rw [hn] at htake
    have hzr : Reps (d.M W base (fun _ => False)) d.sz (List.replicate (n - k) z0) (Builtin.zeroCells z.cells (n - k)).toList := Kd.reps_zeros hz hs0 hzero (n - k)
    have h1 : ∀ v ∈ (Builtin.zeroCells z.cells (n - k)).toList, v.oneCell' = true := XS.reps_one hzr
    have hzv : ∀ w, (zeroValue e).run P w = .ok z w := fun w => by simp [zeroValue, typeInfo, hi, hz0]
    obtain ⟨Z, hZ⟩ : ∃ Z, Z = (Builtin.zeroCells z.cells (n - k)).toList := ⟨_, rfl⟩
    have hZl : Z.length = (n - k) * d.sz := by rw [hZ, Array.length_toList, size_zeroCells, hz]
    have hle : k * d.sz ≤ n * d.sz := Nat.mul_le_mul_right _ hk
    have hnc' : n * d.sz ≤ c * d.sz := Nat.mul_le_mul_right _ hnc
    have hsub : (n - k) * d.sz = n * d.sz - k * d.sz := Nat.sub_mul _ _ _
    have hfit : 0 + k * d.sz + Z.length ≤ cur.size := by omega
    have hrun := XS.run_clear_cells (P := P) W t e ty z ht hzv g (0 + k * d.sz) (n - k) c2 hp h1
      (fun j hj => by rw [← hZ] at hj; rw [cell_of_row W g _ cur e (0, 0) hh]; simp; omega) (fun j _ => blk_frozen hh _)
    rw [← hZ] at hrun hzr
    obtain ⟨cur', h3, h4, h5⟩ := Go.Proofs.YtjifdgicamlikaaW.PrintWords.setCells_row Z (0 + k * d.sz) W cur hh hfit
    obtain ⟨s1, s2, s3, s4⟩ := setCells_same g Z (0 + k * d.sz) W
    have hfar : ∀ k', k' ≠ g → (W.setCells g (0 + k * d.sz) Z).heap[k']? = W.heap[k']? := fun k' hk' => setCells_far Z _ k' hk'
    have hel : (xs.take k ++ List.replicate (n - k) z0).length = n := by rw [List.length_append, List.length_take, List.length_replicate]; omega
    refine ⟨_, hrun, ⟨hok, inner.take (k * d.sz) ++ Z, ⟨?_, .inr ⟨g, c, cur', by rw [hel], hb, h3, by rw [hel]; omega, hcm, by rw [h4, hcs], ?_⟩⟩, ?_⟩, ⟨s1, s2, s3, by rw [s4]; exact Nat.le_refl _, fun k' _ hk' => hfar k' (fun he => hk' (by rw [he]; simp [Value.ownBlock]))⟩⟩
    · rw [List.length_append, List.length_take, hZl, hel]
      omega
    · rw [hel, h5, Nat.zero_add]
      have h7 : cur.toList.take (k * d.sz) = inner.take (k * d.sz) := by
        rw [← htake, List.take_take, Nat.min_eq_left (by omega)]
      rw [h7]
      exact List.take_left' (by rw [List.length_append, List.length_take, hZl]; omega)
    · have hgo : some g = (Value.slice (some ⟨g, 0, none⟩) n c).ownBlock := by simp [Value.ownBlock]
      refine XS.reps_append ((XS.reps_take hr k (by omega)).imp_ (fun p q hp_ => ?_)) (hzr.imp_ (fun p q hp_ => ?_))
      · exact d.M_move (fun k' hk' => hfar k' (fun he => hk'.2 (by rw [← hgo, he]))) hp_
      · have h8 := d.M_move (w1 := W.setCells g (0 + k * d.sz) Z) (fun k' hk' => hk'.1.elim) (d.M_bound hp_)
        exact d.M_mono (fun k' hk' => hk'.1.elim) h8
end
section
variable {P : Program} {ops : Array Oper} {rest : List Oper} {o : Oper} {a : Act} {Q : Exit → Act → World → Prop} {Kc : Act → World → Prop} {α : Type}
theorem R_clear (d : Kd α) {w0 W : World} (base : Nat) (hgd : o.guard = none) (s : Operand) (t e : TypeId) (z : Value) (ho : o.op = .call { callee := .builtin .clear, args := #[s], argTypes := #[t] })
    (ht : P.underlying t = some (.slice e)) {bytes : Nat} (hinfo : (P.info? e).map (fun i => (i.zero, i.size, i.bytes)) = some (some z, d.sz, bytes)) (hz : z.cells.size = d.sz) (hs0 : 0 < d.sz) {n c k m c2 : Nat} {A0 A : Option Addr} {xs : List α} (z0 : α) {ok : Nat → Prop}
    (hs : a.eval s = .slice A m c2) (hA : A = if c = k then A0 else A0.map (·.add (k * d.sz))) (hm : m = n - k) (hzero : d.M W base (fun _ => False) z0 z.cells.toList)
    (HO : d.R e W base ok (.slice A0 n c) xs) (hk : k ≤ n) (HB : Below base w0 W) (hbase : base ≤ W.heap.size)
    (h : ∀ w1, d.R e w1 base ok (.slice A0 n c) (xs.take k ++ List.replicate (xs.length - k) z0) → Below base w0 w1 → W.grownBy w1 (Value.slice A0 n c).ownBlock → wpList P ops Q rest (a.put o.dst (.tuple #[])) w1) : wpList P ops Q (o :: rest) a W := by
  subst hm
  obtain ⟨w1, hr, h1, h2⟩ := R_clear_run (P := P) d base t o.type e z ht hinfo hz hs0 z0 hzero HO hk hA c2
  refine wpList_plain hgd fun K hK => ?_
  unfold Oper.wp execOp
  simp only [ho, resolve, invoke, builtin, Sem.run_bind, Sem.run_pure, Result.andThen_ok, List.map_toArray, List.map_cons, List.map_nil, hs, hr]
  exact hK _ _ (h w1 h1 (HB.grown h2 hbase (fun k hk => Kd.R_base HO _ hk)) h2)
end
end Go.Proofs.Ytjifdgicamlikaa.XK
