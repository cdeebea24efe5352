/- Reading an argument of any kind of the kit's words: from the row's own reading of a value to 'Kd' (no condition). -/
import Derived.Test.YtikhpegamnnabaaDoorWMore
import Derived.SizedLaws
import Derived.ChangeArms
import Derived.ChangeSlices
namespace Go.Proofs.YtikhpegamnnabaaDoor.XO
open Go.RowKit Go.ChangeShapes Go.WideShapes Go.Proofs.YtikhpegamnnabaaDoorW.PrintWords Go.Proofs.YtikhpegamnnabaaDoorW.PrintLast Go.Proofs.YtikhpegamnnabaaDoorW.PrintMore

theorem bound_nat {n : Nat} (h : n ≤ reachBytes) : n ≤ 140737488351232 := h
structure Opens {α : Type} (P : Program) (t : TypeId) (d : Kd α) (ok : α → Prop) : Prop where
  out : ∀ (H : Type) (enc : TypeId × Value → H) (W : World) (sp : Nat → Bool) (held : Bool) (fuel : Nat) (cs : List Value) (x : DataW H × List MemPlace),
    DataW.trod enc P W 0 sp held fuel t cs = some x → (∀ n ∈ x.1.weights P t, n ≤ reachBytes) → ∃ a, d.K W a cs ∧ ok a
section
variable {P : Program} {t : TypeId}
theorem Opens.imp_ {α : Type} {d : Kd α} {ok ok' : α → Prop} (h : Opens P t d ok) (hi : ∀ a, ok a → ok' a) : Opens P t d ok' := by
  refine ⟨fun H enc W sp held fuel cs x hx hw => ?_⟩
  obtain ⟨a, ha, hk⟩ := h.out _ _ _ _ _ _ _ _ hx hw
  exact ⟨a, ha, hi a hk⟩
theorem Opens.int {k : IntKind} (ht : P.underlying t = some (.int k)) : Opens P t (Kd.int k) (fun n => (Lit.int k n).wf = true) := by
  refine ⟨fun H enc W sp held fuel cs x hx hw => ?_⟩
  obtain ⟨n, rfl, _, hn⟩ := DataW.trod_int ht hx
  exact ⟨n, rfl, hn⟩
theorem Opens.bool (ht : P.underlying t = some .bool) : Opens P t Kd.bool (fun _ => True) := by
  refine ⟨fun H enc W sp held fuel cs x hx hw => ?_⟩
  obtain ⟨b, rfl, _⟩ := DataW.trod_bool ht hx
  exact ⟨b, rfl, trivial⟩
theorem Opens.string (ht : P.underlying t = some .string) : Opens P t Kd.string (fun s => s.size ≤ 140737488351232) := by
  refine ⟨fun H enc W sp held fuel cs x hx hw => ?_⟩
  obtain ⟨s, rfl, rfl, _⟩ := DataW.trod_string ht hx
  refine ⟨s, rfl, ?_⟩
  have := hw s.data.toList.length (by simp [DataW.weights])
  rw [Array.length_toList] at this
  exact bound_nat this
theorem weightsAll_mem {H : Type} {P : Program} {e : TypeId} : ∀ {ds : List (DataW H)} {d : DataW H}, d ∈ ds → ∀ n ∈ d.weights P e, n ∈ DataW.weightsAll P e ds
  | d0 :: r, d, hd, n, hn => by
    simp only [DataW.weightsAll, List.mem_append]
    rcases List.mem_cons.1 hd with rfl | hd
    · exact .inl hn
    · exact .inr (weightsAll_mem hd n hn)
theorem Opens.slice {α : Type} {d : Kd α} {ok : α → Prop} {e : TypeId} {B : Nat} (ht : P.underlying t = some (.slice e)) (hc : P.cellsOf e = d.sz) (hB : P.bytesOf e = B) (h : Opens P e d ok) :
    Opens P t (Kd.slice e d) (fun xs => xs.length * B ≤ 140737488351232 ∧ xs.length ≤ maxLen ∧ ∀ x ∈ xs, ok x) := by
  refine ⟨fun H enc W sp held fuel cs x hx hw => ?_⟩
  rcases DataW.trod_slice ht hx with ⟨rfl, rfl⟩ | ⟨a, len, cap, elems, rest, n, _, rfl, rfl, _, hl, hm, hlen, hel, _, _⟩
  · exact ⟨[], ⟨none, 0, rfl, Nat.le_refl _, rfl, by simp, fun h => by simp at h⟩, by simp, by simp, by simp⟩
  · have hw2 : ∀ y ∈ elems, ∀ m ∈ y.1.weights P e, m ≤ reachBytes := by
      intro y hy m hm2
      refine hw m ?_
      simp only [DataW.weights, ht, List.mem_cons, List.mem_append]
      exact .inr (.inl (weightsAll_mem (List.mem_map_of_mem hy) m hm2))
    have hlw : len * B ≤ 140737488351232 := by
      have := hw ((elems.map (·.1)).length * P.bytesOf e + (rest.map (·.1)).length * P.bytesOf e) (by
        simp only [DataW.weights, ht, List.mem_cons]
        exact .inl (Nat.add_mul _ _ _).symm)
      rw [List.length_map, hlen, hB] at this
      exact Nat.le_trans (Nat.le_add_right _ _) (bound_nat this)
    have key : ∀ m, m ≤ len → ∃ xs : List α, xs.length = m ∧ (∀ x ∈ xs, ok x) ∧ ∀ j p, xs[j]? = some p → ∃ c, c.length = d.sz ∧ d.K W p c ∧ ∀ i u, c[i]? = some u → W.cell? (a.add (j * d.sz + i)) = some u := by
      intro m
      induction m with
      | zero => exact fun _ => ⟨[], rfl, by simp, by simp⟩
      | succ m ih =>
        intro hm2
        obtain ⟨xs, h1, h2, h3⟩ := ih (by omega)
        have hml : m < elems.length := by omega
        have h4 := hel m (by omega)
        rw [List.getElem?_eq_getElem hml] at h4
        obtain ⟨c, hc1, hc2⟩ := Option.bind_eq_some_iff.1 h4
        obtain ⟨p, hp, hok⟩ := h.out _ _ _ _ _ _ _ _ hc2 (hw2 _ (List.getElem_mem hml))
        obtain ⟨_, hcl, hcell⟩ := World.cells?_some hc1
        refine ⟨xs ++ [p], by simp [h1], ?_, ?_⟩
        · intro x hx
          rcases List.mem_append.1 hx with hx | hx
          · exact h2 x hx
          · rw [List.mem_singleton.1 hx]
            exact hok
        · intro j q hq
          rcases Nat.lt_or_ge j xs.length with hj | hj
          · rw [List.getElem?_append_left hj] at hq
            exact h3 j q hq
          · have hj' : j = m := by
              have := (List.getElem?_eq_some_iff.1 hq).1
              rw [List.length_append, List.length_singleton] at this
              omega
            subst hj'
            have hq' : p = q := by
              rw [← h1] at hq
              simpa using hq
            subst hq'
            refine ⟨c, by rw [hcl, hc], hp, fun i u hu => ?_⟩
            have hi : i < P.cellsOf e := by
              have := (List.getElem?_eq_some_iff.1 hu).1
              omega
            have := hcell i hi
            rw [hu, hc] at this
            rw [← this]
            congr 1
            unfold Addr.add
            by_cases e1 : j * d.sz = 0 <;> by_cases e2 : i = 0 <;> simp [e1, e2, Nat.add_assoc]
    obtain ⟨xs, h1, h2, h3⟩ := key len (Nat.le_refl _)
    exact ⟨xs, ⟨some a, cap, by rw [h1], by omega, rfl, by simp only [maxLen] at hm; omega, fun _ => ⟨a, rfl, h3⟩⟩, by rw [h1]; exact hlw, by omega, h2⟩
structure OpensF {β : Type} (P : Program) (fs : List Field) (o : Nat) (d : Kd β) (ok : β → Prop) : Prop where
  out : ∀ (H : Type) (enc : TypeId × Value → H) (W : World) (sp : Nat → Bool) (held : Bool) (n : Nat) (cs : List Value) (xs : List (DataW H × List MemPlace)),
    cs.length = o + d.sz → xs.length = fs.length → (∀ (i : Nat) (f : Field), fs[i]? = some f → DataW.trod enc P W 0 sp held n f.type ((cs.drop f.offset).take (P.cellsOf f.type)) = xs[i]?) →
    (∀ m ∈ DataW.weightsEach P (fs.map (·.type)) (xs.map (·.1)), m ≤ reachBytes) → ∃ b, d.K W b (cs.drop o) ∧ ok b
theorem OpensF.last {α : Type} {d : Kd α} {ok : α → Prop} {f : Field} {o : Nat} (ho : f.offset = o) (hc : P.cellsOf f.type = d.sz) (h : Opens P f.type d ok) : OpensF P [f] o d ok := by
  refine ⟨fun H enc W sp held n cs xs hl hx ht hw => ?_⟩
  match xs, hx with
  | [x], _ =>
    have h1 := ht 0 f rfl
    rw [ho, hc, List.take_of_length_le (by rw [List.length_drop]; omega)] at h1
    exact h.out _ _ _ _ _ _ _ _ h1 (fun m hm => hw m (by simpa [DataW.weightsEach] using hm))
theorem OpensF.cons {α β : Type} {d : Kd α} {d' : Kd β} {ok : α → Prop} {ok' : β → Prop} {f : Field} {fs : List Field} {o : Nat} (ho : f.offset = o) (hc : P.cellsOf f.type = d.sz) (h : Opens P f.type d ok) (h' : OpensF P fs (o + d.sz) d' ok') :
    OpensF P (f :: fs) o (Kd.pair d d') (fun x => ok x.1 ∧ ok' x.2) := by
  refine ⟨fun H enc W sp held n cs xs hl hx ht hw => ?_⟩
  match xs, hx with
  | x :: xs, hx =>
    have h1 := ht 0 f rfl
    rw [ho, hc] at h1
    obtain ⟨a, ha, hka⟩ := h.out _ _ _ _ _ _ _ _ h1 (fun m hm => hw m (by simp only [List.map_cons, DataW.weightsEach, List.mem_append]; exact .inl hm))
    have hl' : cs.length = o + d.sz + d'.sz := by
      have : (Kd.pair d d').sz = d.sz + d'.sz := rfl
      omega
    obtain ⟨b, hb, hkb⟩ := h'.out _ _ _ _ _ _ _ xs hl' (by simpa using hx) (fun i f hf => ht (i + 1) f (by simpa using hf)) (fun m hm => hw m (by simp only [List.map_cons, DataW.weightsEach, List.mem_append]; exact .inr hm))
    exact ⟨(a, b), ⟨(cs.drop o).take d.sz, cs.drop (o + d.sz), by rw [← List.drop_drop, List.take_append_drop], ha, hb⟩, hka, hkb⟩
theorem Opens.struct {α β : Type} {d : Kd α} {ok : α → Prop} {fs : Array Field} (ht : P.underlying t = some (.struct fs)) (hc : P.cellsOf t = d.sz) (h : OpensF P fs.toList 0 d ok) (f : β → α) (g : α → β) (hfg : ∀ a, f (g a) = a) :
    Opens P t (Kd.iso d f) (fun b => ok (f b)) := by
  refine ⟨fun H enc W sp held fuel cs x hx hw => ?_⟩
  obtain ⟨xs, n, _, rfl, hl, hxl, hf⟩ := DataW.trod_struct ht hx
  obtain ⟨a, ha, hk⟩ := h.out _ _ _ _ _ _ _ _ (by rw [hl, hc, Nat.zero_add]) (by simpa using hxl) (fun i f hi => hf i f (by simpa using hi)) (fun m hm => hw m (by simpa [DataW.weights, ht] using hm))
  refine ⟨g a, ?_, ?_⟩
  · show d.K W (f (g a)) cs
    rw [hfg]
    rwa [List.drop_zero] at ha
  · show ok (f (g a))
    rw [hfg]
    exact hk
end
end Go.Proofs.YtikhpegamnnabaaDoor.XO
