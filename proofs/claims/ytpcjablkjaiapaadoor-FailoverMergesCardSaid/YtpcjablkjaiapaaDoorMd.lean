/- A table in order: the program's binary search and the reference's plain one find one entry. -/
import Derived.Test.YtpcjablkjaiapaaDoorQAd1
import Derived.Test.YtpcjablkjaiapaaDoorQAd2
import Derived.Test.YtpcjablkjaiapaaDoorMb
namespace Go.Proofs.YtpcjablkjaiapaaDoor.Ma
open Go.RowKit Go.Proofs.YtpcjablkjaiapaaDoorW.PrintWords Go.Proofs.YtpcjablkjaiapaaDoorW.PrintLast Go.Proofs.YtpcjablkjaiapaaDoorW.PrintMore Go.Proofs.YtpcjablkjaiapaaDoor.XP Go.Proofs.YtpcjablkjaiapaaDoor.QA Go.Proofs.YtpcjablkjaiapaaDoor.Cm
set_option linter.unusedVariables false
set_option linter.unusedSimpArgs false
def Srt (l : List S27) : Prop := l.Pairwise fun x y => cmp x.f0 y.f0 < 0
theorem chk_srt : ∀ (l : List S27) (p : Option S25), chk p l = 0 → (∀ q, p = some q → ∀ x ∈ l, cmp q x.f0 < 0) ∧ Srt l
  | [], p, _ => ⟨fun _ _ x hx => absurd hx List.not_mem_nil, List.Pairwise.nil⟩
  | x :: r, p, h => by
    unfold chk at h
    split at h
    · split at h
      · split at h
        · rename_i h1 h2 h3
          obtain ⟨i1, i2⟩ := chk_srt r (some x.f0) h
          refine ⟨?_, List.pairwise_cons.2 ⟨fun y hy => i1 _ rfl y hy, i2⟩⟩
          rintro q rfl y hy
          have hq : cmp q x.f0 < 0 := of_decide_eq_true h2
          rcases List.mem_cons.1 hy with rfl | hy
          · exact hq
          · exact cmp_trans hq (i1 _ rfl y hy)
        · rename_i h3
          exact absurd h h3
      · cases h
    · cases h
theorem chkT_zero (l : List S27) (h : chkT l = 0) : l.length ≤ 512 ∧ Srt l := by
  unfold chkT at h
  split at h
  · cases h
  · exact ⟨by omega, (chk_srt l none h).2⟩
def pos (a : S25) : List S27 → Nat
  | [] => 0
  | x :: r => if cmp x.f0 a < 0 then pos a r + 1 else 0
theorem pos_le (a : S25) : ∀ l : List S27, pos a l ≤ l.length
  | [] => Nat.le_refl _
  | x :: r => by
    have := pos_le a r
    unfold pos
    split
    · simp; omega
    · simp
theorem pos_iff (a : S25) : ∀ (l : List S27) (_ : Srt l) (q : Nat) (h : q < l.length), cmp (l[q]).f0 a < 0 ↔ q < pos a l
  | [], _, q, h => by simp at h
  | x :: r, hs, q, h => by
    obtain ⟨h1, h2⟩ := List.pairwise_cons.1 hs
    unfold pos
    cases q with
    | zero =>
      simp only [List.getElem_cons_zero]
      split
      · rename_i hc; exact ⟨fun _ => by omega, fun _ => hc⟩
      · rename_i hc; exact ⟨fun h => absurd h hc, fun h => absurd h (by omega)⟩
    | succ q =>
      simp only [List.getElem_cons_succ]
      have hq : q < r.length := by simpa using h
      have ih := pos_iff a r h2 q hq
      split
      · rw [ih]; omega
      · rename_i hc
        exact ⟨fun h => absurd (cmp_trans (h1 _ (List.getElem_mem hq)) h) hc, fun h => absurd h (by omega)⟩
def get (a : S25) (l : List S27) : Option S27 := l.find? fun x => ea x.f0 a
theorem get_none_of_gt (a : S25) (x : S27) : ∀ r : List S27, (∀ y ∈ r, cmp x.f0 y.f0 < 0) → ¬ cmp x.f0 a < 0 → get a r = none := by
  intro r h hn
  unfold get
  rw [List.find?_eq_none]
  intro y hy he
  have := (ea_iff _ _).1 he
  have h1 := h y hy
  rw [this] at h1
  exact hn h1
theorem get_pos (a : S25) : ∀ (l : List S27), Srt l → get a l = match l[pos a l]? with | some x => if ea x.f0 a = true then some x else none | none => none
  | [], _ => rfl
  | x :: r, hs => by
    obtain ⟨h1, h2⟩ := List.pairwise_cons.1 hs
    have ih := get_pos a r h2
    by_cases hc : cmp x.f0 a < 0
    · have he : ea x.f0 a = false := by
        rw [ea_ne]
        intro e
        rw [e, cmp_self] at hc
        omega
      have hp : pos a (x :: r) = pos a r + 1 := by rw [pos, if_pos hc]
      rw [hp, List.getElem?_cons_succ, ← ih]
      unfold get
      rw [List.find?_cons, he]
    · have hp : pos a (x :: r) = 0 := by rw [pos, if_neg hc]
      rw [hp, List.getElem?_cons_zero]
      have hr := get_none_of_gt a x r h1 hc
      unfold get at hr ⊢
      rw [List.find?_cons]
      cases he : ea x.f0 a with
      | true => simp only [he, if_true]
      | false => simp only [hr, he, Bool.false_eq_true, if_false]
theorem mid (i j : Nat) (h : i + j ≤ 1000000000000000) : wrap64 ((IntKind.u64.wrap (wrap64 ((i : Int) + (j : Int)))) / 2) = (((i + j) / 2 : Nat) : Int) := by
  rw [wrap_id (x := (i : Int) + (j : Int)) (by omega) (by omega), IntKind.wrap_u64]
  rw [wrap_id (by omega) (by omega)]
  omega
theorem rdAt (l : List S27) (q : Nat) (h : q < l.length) : rd_T27 l (q : Int) = l[q] := by
  simp [rd_T27, List.getD_eq_getElem?_getD, List.getElem?_eq_getElem h]
theorem wnext (q : Nat) (h : q ≤ 1000000000000000) : wrap64 ((q : Int) + 1) = ((q + 1 : Nat) : Int) := by
  rw [wrap_id (by omega) (by omega)]
  omega
/-- A found entry as Find hands it back. -/
def tup : Option S27 → Bool × Int × Int × ByteArray × Int × Int × Int × ByteArray × Int × Bool
  | some x => (x.f0.f0, x.f0.f1, x.f0.f2, x.f1, x.f2, x.f3, x.f4, x.f5, x.f6, true)
  | none => (false, 0, 0, ⟨#[]⟩, 0, 0, 0, ⟨#[]⟩, 0, false)
theorem rfind_from (l : List S27) (hl : l.length ≤ 140737488351232) (a : S25) : ∀ (r : List S27) (i : Nat), l.drop i = r → Ev (fun k => ddiref38_Find.l0 k l (i : Int) a.f0 a.f1 a.f2) (tup (get a r))
  | [], i, h => by
    have := drop_end h
    exact Ev_shift 1 (f := fun _ => some (tup none)) (fun k => by rw [ddiref38_Find.l0, if_neg (by omega)]; rfl) (Ev_const rfl)
  | x :: r, i, h => by
    obtain ⟨hi, hx, hr⟩ := rd27 l i x r h
    have ih := rfind_from l hl a r (i + 1) hr
    unfold get
    rw [List.find?_cons]
    cases he : ea x.f0 a with
    | true =>
      refine Ev_shift 1 (f := fun _ => some (tup (some x))) (fun k => ?_) (Ev_const rfl)
      have he' := he
      unfold ea at he'
      rw [ddiref38_Find.l0, if_pos (by omega), if_pos (by omega), hx, if_pos he']
      rfl
    | false =>
      have he' := he
      unfold ea at he'
      refine Ev_shift 1 (fun k => by rw [ddiref38_Find.l0, if_pos (by omega), if_pos (by omega), hx, if_neg (by rw [he']; exact Bool.false_ne_true), next i l.length hi (by omega)]) ih
theorem rfind_ev (l : List S27) (hl : l.length ≤ 140737488351232) (a : S25) : Ev (fun k => ddiref38_Find.f k l a.f0 a.f1 a.f2) (tup (get a l)) := by
  unfold ddiref38_Find.f
  exact rfind_from l hl a l 0 rfl
end Go.Proofs.YtpcjablkjaiapaaDoor.Ma
