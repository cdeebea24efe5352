/- Rows of elements of several cells that are cut, moved and filled in place: what slices.Clone, slices.Delete and slices.Insert do, cell by cell and element by element; no program in sight. -/
import Derived.Test.YtikhpegamnnabaaDoorWMore
import Derived.Laws.CopyOwn
import Derived.Lib.SliceRun
import Derived.ArgAppend
import Derived.Lib.Overlaps
import Derived.Lib.AppendZerosOnto
import Derived.Deep.RegionLaw
import Derived.Shelf.Spec.SlicesInsert
import Derived.Laws.Externs
namespace Go.Proofs.YtikhpegamnnabaaDoor.XS
open Go Go.RowKit Go.Proofs.YtikhpegamnnabaaDoorW.PrintWords
section
variable {P : Program}
theorem run_eql_nil (w : World) (t e : TypeId) (a : Option Addr) (n c n' c' : Nat) (h : P.underlying t = some (.slice e)) :
    (binOp .eql t (.slice a n c) (.slice none n' c')).run P w = .ok (.bool a.isNone) w := Lib.run_eql_slice_nil w t e a n c n' c' h
theorem setCells_row (P : Program) (w : World) (g o : Nat) (vs : List Value) (cur : Array Value) (t : TypeId) (hg : w.heap[g]? = some (.cells cur t (0, 0))) (hl : o + vs.length ≤ cur.size) (h1 : ∀ v ∈ vs, v.oneCell' = true) :
    w.setCells g o vs = w.setRow g (cur.toList.take o ++ vs ++ cur.toList.drop (o + vs.length)).toArray := by
  have hc : ∀ j, j < vs.length → (w.cell? ⟨g, o + 0 + j, none⟩).isSome = true := fun j hj => by
    have : o + j < cur.size := by omega
    simp [World.cell?, hg, this]
  have hf : ∀ j, j < vs.length → w.frozen? ⟨g, o + 0 + j, none⟩ = false := fun j hj => by simp [World.frozen?, hg]
  have e1 := run_storeCells_cells (P := P) g o vs 0 w hc hf h1
  have e2 := run_storeCells_at P g o t vs 0 cur w hg (by simpa using hl) h1
  rw [e1] at e2
  simp only [Nat.add_zero] at e2
  injection e2
theorem run_copy_wide (w : World) (dT sT ty elem : TypeId) (sz b o dLen dCap : Nat) (a : Addr) (sLen sCap : Nat) (cs : List Value)
    (hu : P.underlying dT = some (.slice elem)) (hs : (P.info? elem).map (·.size) = some sz) (hn : cs.length = Nat.min sLen dLen * sz)
    (hsrc : ∀ j v, cs[j]? = some v → w.cell? (a.add j) = some v) (hc : ∀ j, j < cs.length → (w.cell? ⟨b, o + j, none⟩).isSome = true) (hf : ∀ j, j < cs.length → w.frozen? ⟨b, o + j, none⟩ = false) (h1 : ∀ v ∈ cs, v.oneCell' = true) :
    (Builtin.copy_ #[dT, sT] ty #[.slice (some ⟨b, o, none⟩) dLen dCap, .slice (some a) sLen sCap]).run P w = .ok (goInt (Nat.min sLen dLen)) (w.setCells b o cs) := by
  have hl := run_loadCells_list (P := P) w a cs hsrc
  have hst := run_storeCells_cells (P := P) b o cs 0 w (by simpa using hc) (by simpa using hf) h1
  cases hq : P.info? elem with
  | none => simp [hq] at hs
  | some i =>
    have hi : i.size = sz := by simpa [hq] using hs
    simp [Builtin.copy_, run_underlying hu, Builtin.lenOf, Builtin.firstCells, sizeOf, typeInfo, hq, hi, ← hn, hl, hst]
end
theorem put_front {α : Type} (L vs tail : List α) (i m t : Nat) (hv : vs.length = m) (ht : tail.length = t) (h : i + m + t ≤ L.length) :
    (((L.take (i + m) ++ tail ++ L.drop (i + m + t)).take i ++ vs ++ (L.take (i + m) ++ tail ++ L.drop (i + m + t)).drop (i + m)).take (i + m + t)) = L.take i ++ vs ++ tail := by
  have h1 : (L.take (i + m) ++ tail ++ L.drop (i + m + t)).take i = L.take i := by
    rw [List.append_assoc, List.take_append_of_le_length (by rw [List.length_take]; omega), List.take_take, Nat.min_eq_left (by omega)]
  have h2 : (L.take (i + m) ++ tail ++ L.drop (i + m + t)).drop (i + m) = tail ++ L.drop (i + m + t) := by
    rw [List.append_assoc, List.drop_left' (by rw [List.length_take]; omega)]
  rw [h1, h2, ← List.append_assoc, List.take_left' (by rw [List.length_append, List.length_append, List.length_take]; omega)]
theorem put_back {α : Type} (L vs tail : List α) (i m t : Nat) (hv : vs.length = m) (ht : tail.length = t) (h : i + m + t ≤ L.length) :
    (((L.take i ++ vs ++ L.drop (i + m)).take (i + m) ++ tail ++ (L.take i ++ vs ++ L.drop (i + m)).drop (i + m + t)).take (i + m + t)) = L.take i ++ vs ++ tail := by
  have h1 : (L.take i ++ vs ++ L.drop (i + m)).take (i + m) = L.take i ++ vs := List.take_left' (by rw [List.length_append, List.length_take]; omega)
  rw [h1, List.take_left' (by rw [List.length_append, List.length_append, List.length_take]; omega)]
section
variable {α : Type} {R : α → List Value → Prop} {sz : Nat} {xs ys : List α} {cs ds : List Value}
theorem reps_take (h : Reps R sz xs cs) (i : Nat) (hi : i ≤ xs.length) : Reps R sz (xs.take i) (cs.take (i * sz)) := by
  refine ⟨?_, fun j p hj => ?_⟩
  · rw [List.length_take, List.length_take, h.1, Nat.min_eq_left hi, Nat.min_eq_left (Nat.mul_le_mul_right _ hi)]
  · rw [List.getElem?_take] at hj
    split at hj
    · rename_i hji
      have h2 : j * sz + sz ≤ i * sz := by rw [← Nat.succ_mul]; exact Nat.mul_le_mul_right _ hji
      rw [List.drop_take, List.take_take, Nat.min_eq_left (by omega)]
      exact h.2 j p hj
    · cases hj
theorem reps_drop (h : Reps R sz xs cs) (i : Nat) : Reps R sz (xs.drop i) (cs.drop (i * sz)) := by
  refine ⟨?_, fun j p hj => ?_⟩
  · rw [List.length_drop, List.length_drop, h.1, Nat.sub_mul]
  · rw [List.getElem?_drop] at hj
    rw [List.drop_drop, ← Nat.add_mul]
    exact h.2 _ p hj
theorem reps_append (h : Reps R sz xs cs) (k : Reps R sz ys ds) : Reps R sz (xs ++ ys) (cs ++ ds) := by
  refine ⟨by rw [List.length_append, h.1, k.1, List.length_append, Nat.add_mul], fun j p hj => ?_⟩
  rcases Nat.lt_or_ge j xs.length with hl | hl
  · rw [List.getElem?_append_left hl] at hj
    have h1 : j * sz + sz ≤ cs.length := by rw [h.1, ← Nat.succ_mul]; exact Nat.mul_le_mul_right _ hl
    rw [List.drop_append_of_le_length (by omega), List.take_append_of_le_length (by rw [List.length_drop]; omega)]
    exact h.2 j p hj
  · rw [List.getElem?_append_right hl] at hj
    have h1 : j * sz = cs.length + (j - xs.length) * sz := by rw [h.1, ← Nat.add_mul]; congr 1; omega
    rw [h1, ← List.drop_drop, List.drop_left]
    exact k.2 _ p hj
end
section
variable {α : Type} {d : Kd α} {e : Nat} {W W' : World} {base : Nat} {ok : Nat → Prop} {xs ys : List α}
theorem R_rewrite {g n m cap : Nat} {cur : Array Value} {cs : List Value} (ho : d.R e W base ok (.slice (some ⟨g, 0, none⟩) n cap) xs) (hg : W'.heap[g]? = some (.cells cur e (0, 0))) (hs : cur.size = cap * d.sz) (hm : m ≤ cap) (hcap : cap ≤ maxLen)
    (hoth : ∀ k, k < W.heap.size → k ≠ g → W'.heap[k]? = W.heap[k]?) (hc : cur.toList.take (m * d.sz) = cs) (hr : Reps (d.M W base (fun k => ok k ∧ some k ≠ (Value.slice (some ⟨g, 0, none⟩) n cap).ownBlock)) d.sz ys cs) (hl : ys.length = m) :
    d.R e W' base ok (.slice (some ⟨g, 0, none⟩) m cap) ys := by
  obtain ⟨h0, inner, hown, _⟩ := ho
  have hb : base ≤ g := (hown.lt g (by simp [Value.ownBlock])).1
  refine ⟨fun k hk => h0 k (by simpa [Value.ownBlock] using hk), cs, ⟨by rw [hr.1, hl], .inr ⟨g, cap, cur, by rw [hl], hb, hg, by omega, hcap, hs, by rw [hl]; exact hc⟩⟩, hr.imp_ (fun p c hp => ?_)⟩
  have h1 := d.M_move (w1 := W') (fun k hk => hoth k hk.2.2.1 (fun e_ => hk.1.2 (by simp [Value.ownBlock, e_]))) (d.M_bound hp)
  exact d.M_mono (fun k hk => ⟨hk.1.1, by simpa [Value.ownBlock] using hk.1.2⟩) h1
theorem R_anew {v : Value} {g m cap : Nat} {cur : Array Value} {cs : List Value} (hfr : W.heap.size ≤ g) (hb : base ≤ g) (hokg : ok g) (hg : W'.heap[g]? = some (.cells cur e (0, 0))) (hs : cur.size = cap * d.sz) (hm : m ≤ cap) (hcap : cap ≤ maxLen)
    (hoth : ∀ k, k < W.heap.size → some k ≠ v.ownBlock → W'.heap[k]? = W.heap[k]?) (hc : cur.toList.take (m * d.sz) = cs) (hr : Reps (d.M W base (fun k => ok k ∧ some k ≠ v.ownBlock)) d.sz ys cs) (hl : ys.length = m) :
    d.R e W' base ok (.slice (some ⟨g, 0, none⟩) m cap) ys := by
  refine ⟨fun k hk => ?_, cs, ⟨by rw [hr.1, hl], .inr ⟨g, cap, cur, by rw [hl], hb, hg, by omega, hcap, hs, by rw [hl]; exact hc⟩⟩, hr.imp_ (fun p c hp => ?_)⟩
  · have : g = k := by simpa [Value.ownBlock] using hk
    subst this
    exact hokg
  · have h1 := d.M_move (w1 := W') (fun k hk => hoth k hk.2.2.1 hk.1.2) (d.M_bound hp)
    refine d.M_mono (fun k hk => ⟨hk.1.1, fun e_ => ?_⟩) h1
    have : g = k := by simpa [Value.ownBlock] using e_.symm
    have := hk.2.2.1
    omega
theorem R_block {v : Value} (h : d.R e W base ok v xs) (hne : 0 < xs.length) : ∃ g cap cur, v = .slice (some ⟨g, 0, none⟩) xs.length cap ∧ base ≤ g ∧ ok g ∧ g < W.heap.size ∧ W.heap[g]? = some (.cells cur e (0, 0)) ∧ xs.length ≤ cap ∧ cap ≤ maxLen ∧ cur.size = cap * d.sz ∧
    Reps (d.M W base (fun k => ok k ∧ some k ≠ v.ownBlock)) d.sz xs (cur.toList.take (xs.length * d.sz)) := by
  obtain ⟨h0, inner, hown, hr⟩ := h
  rcases hown.2 with ⟨rfl, hz⟩ | ⟨g, cap, cur, rfl, hb, hg, hn, hc, hs, ht⟩
  · omega
  · refine ⟨g, cap, cur, rfl, hb, h0 g rfl, (Array.getElem?_eq_some_iff.1 hg).1, hg, hn, hc, hs, ?_⟩
    rw [ht]
    exact hr
theorem R_shape {v : Value} (h : d.R e W base ok v xs) : ∃ A c, v = .slice A xs.length c ∧ xs.length ≤ c ∧ (A = none → xs.length = 0 ∧ c = 0) := by
  obtain ⟨_, inner, hown, _⟩ := h
  rcases hown.2 with ⟨rfl, hz⟩ | ⟨g, cap, cur, rfl, _, _, hn, _⟩
  · exact ⟨none, 0, by rw [hz], by omega, fun _ => ⟨hz, rfl⟩⟩
  · exact ⟨_, cap, rfl, hn, fun h => by cases h⟩
theorem reps_one {cs : List Value} (hr : Reps (d.M W base ok) d.sz xs cs) : ∀ v ∈ cs, v.oneCell' = true := by
  intro v hv
  obtain ⟨j, hj, rfl⟩ := List.getElem_of_mem hv
  rcases Nat.eq_zero_or_pos d.sz with hz | hz
  · rw [hr.1, hz] at hj; omega
  · have hlen := hr.1
    have hjd : j / d.sz < xs.length := by rw [Nat.div_lt_iff_lt_mul hz]; omega
    have hp := hr.2 (j / d.sz) _ (List.getElem?_eq_getElem hjd)
    refine d.K_one (d.K_of_M hp) _ ?_
    have hm := Nat.mod_lt j hz
    have hdm : j / d.sz * d.sz + j % d.sz = j := by rw [Nat.mul_comm]; exact Nat.div_add_mod j d.sz
    rw [List.mem_iff_getElem?]
    refine ⟨j % d.sz, ?_⟩
    rw [List.getElem?_take, if_pos hm, List.getElem?_drop, hdm, List.getElem?_eq_getElem hj]
end
end Go.Proofs.YtikhpegamnnabaaDoor.XS
