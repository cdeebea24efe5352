/- store, Good and Bad: the program's and the reference's (chapter 32). -/
import Derived.Test.YtgkpinecggoilaaQAd1
import Derived.Test.YtgkpinecggoilaaMb
namespace Go.Proofs.Ytgkpinecggoilaa.Ma
open Go.RowKit Go.Proofs.YtgkpinecggoilaaW.PrintWords Go.Proofs.YtgkpinecggoilaaW.PrintLast Go.Proofs.YtgkpinecggoilaaW.PrintMore Go.Proofs.Ytgkpinecggoilaa.XP Go.Proofs.Ytgkpinecggoilaa.Cm Go.Proofs.Ytgkpinecggoilaa.QA
set_option linter.unusedVariables false
set_option linter.unusedSimpArgs false
theorem place_from (l : List S34) (hl : l.length < 2932031007402) (p : S34) : ∀ (r : List S34) (i : Nat), l.drop i = r → Ev (fun k => slices_IndexFunc_40.l0 k (l.map c2) (l.length : Int) (i : Int) p.f0.f0 p.f0.f1 p.f0.f2 p.f1 p.f2 p.f3) (toI (fi (gt p.f0) r i))
  | [], i, h => by
    have := drop_end h
    refine Ev_shift 1 (f := fun _ => some (-1)) (fun k => ?_) (Ev_const rfl)
    rw [slices_IndexFunc_40.l0, if_neg (by omega)]
  | x :: r, i, h => by
    obtain ⟨hi, hx, hr⟩ := drop_at h
    refine Ev_shift 1 (f := fun k => (upstream_store_1.f k x.f0.f0 x.f0.f1 x.f0.f2 x.f1 x.f2 x.f3 p.f0.f0 p.f0.f1 p.f0.f2 p.f1 p.f2 p.f3).bind fun t => if t = true then some (i : Int) else slices_IndexFunc_40.l0 k (l.map c2) (l.length : Int) ((i + 1 : Nat) : Int) p.f0.f0 p.f0.f1 p.f0.f2 p.f1 p.f2 p.f3) (fun k => ?_) ?_
    · rw [slices_IndexFunc_40.l0, if_pos (by omega), if_pos (by omega), if_pos (by rw [List.length_map]; omega), rd35 l i hi, hx, next i l.length hi (by omega)]
      rfl
    · have hg : Ev (fun k => upstream_store_1.f k x.f0.f0 x.f0.f1 x.f0.f2 x.f1 x.f2 x.f3 p.f0.f0 p.f0.f1 p.f0.f2 p.f1 p.f2 p.f3) (gt p.f0 x) := by
        unfold upstream_store_1.f
        exact Ev.bind (ucmp x.f0 p.f0) (Ev_const rfl)
      refine Ev.bind hg ?_
      cases hq : gt p.f0 x with
      | true => exact Ev_const (by simp [fi, hq, toI])
      | false =>
        simp only [fi, hq, if_false, Bool.false_eq_true]
        exact place_from l hl p r (i + 1) hr
theorem put_ev (l : List S34) (hl : l.length < 1000000) (p : S34) : Ev (fun k => upstream_store.j1 k (l.map c2) p.f0.f0 p.f0.f1 p.f0.f2 p.f1 p.f2 p.f3) ((ins (gt p.f0) p l).map c2) := by
  refine Ev_shift 1 (f := fun k => (slices_IndexFunc_40.f k (l.map c2) p.f0.f0 p.f0.f1 p.f0.f2 p.f1 p.f2 p.f3).bind fun t140 => (if t140 < 0 then (upstream_store.j2 k (l.map c2) ((l.map c2).length : Int) p.f0.f0 p.f0.f1 p.f0.f2 p.f1 p.f2 p.f3) else (upstream_store.j2 k (l.map c2) t140 p.f0.f0 p.f0.f1 p.f0.f2 p.f1 p.f2 p.f3))) (fun k => by rw [upstream_store.j1]) ?_
  have hf : Ev (fun k => slices_IndexFunc_40.f k (l.map c2) p.f0.f0 p.f0.f1 p.f0.f2 p.f1 p.f2 p.f3) (toI (fi (gt p.f0) l 0)) := by
    unfold slices_IndexFunc_40.f
    rw [List.length_map]
    exact place_from l (by omega) p l 0 rfl
  have hlm : (l.map c2).length = l.length := List.length_map _
  have hj : ∀ j : Nat, j ≤ l.length → Ev (fun k => upstream_store.j2 k (l.map c2) (j : Int) p.f0.f0 p.f0.f1 p.f0.f2 p.f1 p.f2 p.f3) ((l.map c2).take j ++ [c2 p] ++ (l.map c2).drop j) := fun j h => by
    refine Ev_shift 1 (f := fun _ => some ((l.map c2).take j ++ [c2 p] ++ (l.map c2).drop j)) (fun k => ?_) (Ev_const rfl)
    rw [upstream_store.j2, slices_Insert.f, if_pos (by omega), if_pos (by omega), if_pos (by rw [hlm]; simp only [List.length_singleton]; omega), Int.toNat_natCast]
    rfl
  cases h : fi (gt p.f0) l 0 with
  | none =>
    rw [h] at hf
    refine Ev.bind (a := (-1 : Int)) hf ?_
    simp only [if_pos (show (-1 : Int) < 0 by omega), hlm]
    have := hj l.length (Nat.le_refl _)
    rw [← hlm, List.take_length, List.drop_length, List.append_nil] at this
    rw [ins_at, h, ← hlm, List.map_append]
    exact this
  | some j =>
    obtain ⟨_, h2, _⟩ := fi_some _ _ _ _ h
    have hjl : j < l.length := by simpa using h2
    rw [h] at hf
    refine Ev.bind (a := (j : Int)) hf ?_
    simp only [if_neg (show ¬ ((j : Int) < 0) by omega)]
    have := hj j (by omega)
    rw [ins_at, h]
    simp only [List.map_append, List.map_take, List.map_drop]
    exact this
/-- A peer put into a list. -/
def stored (l : List S34) (p : S34) : List S34 :=
  if (fi (qa p.f0) l 0).isSome = true then rep (qa p.f0) p l
  else ins (gt p.f0) p (if (l.length : Int) ≥ 256 then sk ((am l l 0 0 : Nat) : Int) l 0 else l)
theorem least_from (l : List S34) (hl : l.length < 1000000) (p : S34) (R : List S35) : ∀ (r : List S34) (i b : Nat), l.drop i = r → b < l.length →
    Ev (fun k => (slices_Delete.f (l.map c2) ((am l r i b : Nat) : Int) (wrap64 (((am l r i b : Nat) : Int) + 1))).bind fun t => upstream_store.j1 k t p.f0.f0 p.f0.f1 p.f0.f2 p.f1 p.f2 p.f3) R →
    Ev (fun k => upstream_store.l0 k (l.map c2) (b : Int) (l.length : Int) (i : Int) p.f0.f0 p.f0.f1 p.f0.f2 p.f1 p.f2 p.f3) R
  | [], i, b, h, hb, e => by
    have := drop_end h
    refine Ev_shift 1 (fun k => ?_) e
    rw [upstream_store.l0, if_neg (by omega)]
    rfl
  | x :: r, i, b, h, hb, e => by
    obtain ⟨hi, hx, hr⟩ := drop_at h
    have hgb : (l.getD b z34) = l[b] := by rw [List.getD_eq_getElem?_getD, List.getElem?_eq_getElem hb]; rfl
    by_cases hlt : x.f3 < l[b].f3
    · rw [am, hgb, if_pos hlt] at e
      refine Ev_shift 1 (fun k => ?_) (least_from l hl p R r (i + 1) i hr hi e)
      rw [upstream_store.l0, if_pos (by omega), if_pos (by omega), if_pos (by rw [List.length_map]; omega), if_pos (by omega), if_pos (by rw [List.length_map]; omega), rd35 l i hi, rd35 l b hb, hx, ← next i l.length hi (by omega)]
      exact if_pos hlt
    · rw [am, hgb, if_neg hlt] at e
      refine Ev_shift 1 (fun k => ?_) (least_from l hl p R r (i + 1) b hr hb e)
      rw [upstream_store.l0, if_pos (by omega), if_pos (by omega), if_pos (by rw [List.length_map]; omega), if_pos (by omega), if_pos (by rw [List.length_map]; omega), rd35 l i hi, rd35 l b hb, hx, ← next i l.length hi (by omega)]
      exact if_neg hlt
theorem ustore_ev (l : List S34) (hl : l.length < 1000000) (p : S34) : Ev (fun k => upstream_store.f k (l.map c2) p.f0.f0 p.f0.f1 p.f0.f2 p.f1 p.f2 p.f3) ((stored l p).map c2) := by
  have hlm : (l.map c2).length = l.length := List.length_map _
  unfold upstream_store.f
  simp only [slices_Clone.f, if_pos (show (l.map c2).length * 48 ≤ 140737488355328 by rw [hlm]; omega), Option.bind_some]
  have hf := index_ev l (by omega) p.f0
  unfold stored
  cases h : fi (qa p.f0) l 0 with
  | some j =>
    obtain ⟨_, h2, _⟩ := fi_some _ _ _ _ h
    have hjl : j < l.length := by simpa using h2
    rw [h] at hf
    refine Ev.bind (a := (j : Int)) hf ?_
    simp only [if_pos (show (j : Int) ≥ 0 by omega), if_pos (show (j : Int) < ((l.map c2).length : Int) by omega)]
    refine Ev_const ?_
    rw [Option.isSome_some, if_pos rfl, ← rep_set _ _ _ _ h, List.map_set, Int.toNat_natCast]
    rfl
  | none =>
    rw [h] at hf
    refine Ev.bind (a := (-1 : Int)) hf ?_
    simp only [if_neg (show ¬ ((-1 : Int) ≥ 0) by omega), Option.isSome_none, if_neg (show ¬ (false = true) by decide)]
    by_cases hb : (l.length : Int) ≥ 256
    · simp only [hlm, if_pos hb]
      refine least_from l hl p _ l 0 0 rfl (by omega) ?_
      have hg := am_lt l l 0 0 rfl (by omega)
      generalize am l l 0 0 = g at hg
      have e : slices_Delete.f (l.map c2) (g : Int) (wrap64 ((g : Int) + 1)) = some ((sk (g : Int) l 0).map c2) := by
        rw [next g l.length hg (by omega), slices_Delete.f, if_pos (by omega), if_pos (by omega), if_pos (by omega), Int.toNat_natCast, Int.toNat_natCast, sk_at l 0 g (by omega), Nat.sub_zero, List.map_append, List.map_take, List.map_drop]
      simp only [e, Option.bind_some]
      have hs : (sk (g : Int) l 0).length < 1000000 := by rw [sk_at l 0 g (by omega), List.length_append, List.length_take, List.length_drop]; omega
      exact put_ev _ hs p
    · simp only [hlm, if_neg hb]
      exact put_ev l hl p
end Go.Proofs.Ytgkpinecggoilaa.Ma
