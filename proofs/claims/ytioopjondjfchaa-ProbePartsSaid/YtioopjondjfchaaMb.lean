/- A table in order: the program's binary search and the reference's plain one find one probe. -/
import Derived.Test.YtioopjondjfchaaQAd1
import Derived.Test.YtioopjondjfchaaQAd
import Derived.Test.YtioopjondjfchaaMa
namespace Go.Proofs.Ytioopjondjfchaa.Ma
open Go.RowKit Go.Proofs.YtioopjondjfchaaW.PrintWords Go.Proofs.YtioopjondjfchaaW.PrintLast Go.Proofs.YtioopjondjfchaaW.PrintMore Go.Proofs.Ytioopjondjfchaa.XP Go.Proofs.Ytioopjondjfchaa.QA Go.Proofs.Ytioopjondjfchaa.Cm
set_option linter.unusedVariables false
set_option linter.unusedSimpArgs false
def Srt (l : List S33) : Prop := l.Pairwise fun x y => cmp x.f0 y.f0 < 0
theorem chk_srt : ∀ (l : List S33) (p : Option S28), chk p l = 0 → (∀ q, p = some q → ∀ x ∈ l, cmp q x.f0 < 0) ∧ Srt l ∧ ∀ x ∈ l, adB x.f0 = true
  | [], p, _ => ⟨fun _ _ x hx => absurd hx List.not_mem_nil, List.Pairwise.nil, fun x hx => absurd hx List.not_mem_nil⟩
  | x :: r, p, h => by
    unfold chk at h
    split at h
    · split at h
      · rename_i h1 h2
        obtain ⟨i1, i2, i3⟩ := chk_srt r (some x.f0) h
        refine ⟨?_, List.pairwise_cons.2 ⟨fun y hy => i1 _ rfl y hy, i2⟩, fun y hy => ?_⟩
        · rintro q rfl y hy
          have hq : cmp q x.f0 < 0 := of_decide_eq_true h2
          rcases List.mem_cons.1 hy with rfl | hy
          · exact hq
          · exact cmp_trans hq (i1 _ rfl y hy)
        · rcases List.mem_cons.1 hy with rfl | hy
          · exact h1
          · exact i3 y hy
      · cases h
    · cases h
theorem srt_chk : ∀ (l : List S33) (p : Option S28), (∀ q, p = some q → ∀ x ∈ l, cmp q x.f0 < 0) → Srt l → (∀ x ∈ l, adB x.f0 = true) → chk p l = 0
  | [], p, _, _, _ => rfl
  | x :: r, p, h1, h2, h3 => by
    obtain ⟨g1, g2⟩ := List.pairwise_cons.1 h2
    unfold chk
    rw [if_pos (h3 x (List.mem_cons_self ..))]
    have hu : upB p x.f0 = true := by
      cases p with
      | none => rfl
      | some q => exact decide_eq_true (h1 q rfl x (List.mem_cons_self ..))
    rw [if_pos hu]
    exact srt_chk r (some x.f0) (fun q hq y hy => by injection hq with hq; subst hq; exact g1 y hy) g2 (fun y hy => h3 y (List.mem_cons_of_mem _ hy))
theorem chkT_zero (l : List S33) (h : chkT l = 0) : l.length ≤ 512 ∧ Srt l ∧ ∀ x ∈ l, adB x.f0 = true := by
  unfold chkT at h
  split at h
  · cases h
  · exact ⟨by omega, (chk_srt l none h).2⟩
theorem chkT_of (l : List S33) (hl : l.length ≤ 512) (hs : Srt l) (ha : ∀ x ∈ l, adB x.f0 = true) : chkT l = 0 := by
  unfold chkT
  rw [if_neg (by omega)]
  exact srt_chk l none (fun q hq => by cases hq) hs ha
def pos (a : S28) : List S33 → Nat
  | [] => 0
  | x :: r => if cmp x.f0 a < 0 then pos a r + 1 else 0
theorem pos_le (a : S28) : ∀ l : List S33, pos a l ≤ l.length
  | [] => Nat.le_refl _
  | x :: r => by
    have := pos_le a r
    unfold pos
    split
    · simp; omega
    · simp
theorem pos_iff (a : S28) : ∀ (l : List S33) (_ : Srt l) (q : Nat) (h : q < l.length), cmp (l[q]).f0 a < 0 ↔ q < pos a l
  | [], _, q, h => by simp at h
  | x :: r, hs, q, h => by
    obtain ⟨h1, h2⟩ := List.pairwise_cons.1 hs
    unfold pos
    cases q with
    | zero =>
      simp only [List.getElem_cons_zero]
      split
      · rename_i hc; exact ⟨fun _ => by omega, fun _ => hc⟩
      · rename_i hc; exact ⟨fun h => absurd h hc, fun h => absurd h (by omega)⟩
    | succ q =>
      simp only [List.getElem_cons_succ]
      have hq : q < r.length := by simpa using h
      have ih := pos_iff a r h2 q hq
      split
      · rw [ih]; omega
      · rename_i hc
        exact ⟨fun h => absurd (cmp_trans (h1 _ (List.getElem_mem hq)) h) hc, fun h => absurd h (by omega)⟩
def get (a : S28) (l : List S33) : Option S33 := l.find? fun x => ea x.f0 a
theorem get_none_of_gt (a : S28) (x : S33) : ∀ r : List S33, (∀ y ∈ r, cmp x.f0 y.f0 < 0) → ¬ cmp x.f0 a < 0 → get a r = none := by
  intro r h hn
  unfold get
  rw [List.find?_eq_none]
  intro y hy he
  have := (ea_iff _ _).1 he
  have h1 := h y hy
  rw [this] at h1
  exact hn h1
theorem get_pos (a : S28) : ∀ (l : List S33), Srt l → get a l = match l[pos a l]? with | some x => if ea x.f0 a = true then some x else none | none => none
  | [], _ => rfl
  | x :: r, hs => by
    obtain ⟨h1, h2⟩ := List.pairwise_cons.1 hs
    have ih := get_pos a r h2
    by_cases hc : cmp x.f0 a < 0
    · have he : ea x.f0 a = false := by
        rw [ea_ne]
        intro e
        rw [e, cmp_self] at hc
        omega
      have hp : pos a (x :: r) = pos a r + 1 := by rw [pos, if_pos hc]
      rw [hp, List.getElem?_cons_succ, ← ih]
      unfold get
      rw [List.find?_cons, he]
    · have hp : pos a (x :: r) = 0 := by rw [pos, if_neg hc]
      rw [hp, List.getElem?_cons_zero]
      have hr := get_none_of_gt a x r h1 hc
      unfold get at hr ⊢
      rw [List.find?_cons]
      cases he : ea x.f0 a with
      | true => simp only [he, if_true]
      | false => simp only [hr, he, Bool.false_eq_true, if_false]
theorem mid (i j : Nat) (h : i + j ≤ 1000000000000000) : wrap64 ((IntKind.u64.wrap (wrap64 ((i : Int) + (j : Int)))) / 2) = (((i + j) / 2 : Nat) : Int) := by
  rw [wrap_id (x := (i : Int) + (j : Int)) (by omega) (by omega), IntKind.wrap_u64]
  rw [wrap_id (by omega) (by omega)]
  omega
theorem pl1 (x : S33) (a : S28) : Ev (fun k => probe_find_1.f k x.f0.f0 x.f0.f1 x.f0.f2 x.f1 x.f2.f0 x.f2.f1 x.f2.f2 x.f2.f3 x.f2.f4.f0 x.f2.f4.f1 x.f2.f4.f2 x.f2.f5.f0 x.f2.f5.f1 x.f2.f5.f2 x.f2.f6.f0 x.f2.f6.f1 x.f2.f6.f2 x.f2.f7 x.f2.f8 x.f3 a.f0 a.f1 a.f2) (cmp x.f0 a) := by
  unfold probe_find_1.f
  exact Ev.bind (ucmp x.f0 a) (Ev_const rfl)
theorem wnext (q : Nat) (h : q ≤ 1000000000000000) : wrap64 ((q : Int) + 1) = ((q + 1 : Nat) : Int) := by
  rw [wrap_id (by omega) (by omega)]
  omega
theorem bs_from (l : List S33) (hl : l.length ≤ 140737488351232) (hs : Srt l) (a : S28) : ∀ (d i j : Nat), j - i ≤ d → i ≤ pos a l → pos a l ≤ j → j ≤ l.length → Ev (fun k => slices_BinarySearchFunc_34.l0 k l (l.length : Int) (i : Int) (j : Int) a.f0 a.f1 a.f2) ((pos a l : Int), (get a l).isSome)
  | d, i, j, hd, hi, hj, hjl => by
    by_cases hij : i < j
    · have hm : (i + j) / 2 < l.length := by omega
      have e0 : (i : Int) < (j : Int) := by omega
      have e1 : (0 : Int) ≤ (((i + j) / 2 : Nat) : Int) := by omega
      have e2 : (((i + j) / 2 : Nat) : Int) < (l.length : Int) := by omega
      have hmw := mid i j (by omega)
      have hpi := pos_iff a l hs ((i + j) / 2) hm
      have hwn := wnext ((i + j) / 2) (by omega)
      cases d with
      | zero => exact absurd hd (by omega)
      | succ d =>
        have ihl : ((i + j) / 2 < pos a l) → Ev (fun k => slices_BinarySearchFunc_34.l0 k l (l.length : Int) (((i + j) / 2 + 1 : Nat) : Int) (j : Int) a.f0 a.f1 a.f2) ((pos a l : Int), (get a l).isSome) := fun h => bs_from l hl hs a d _ j (by clear hmw hwn; omega) (by clear hmw hwn; omega) hj hjl
        have ihr : ¬ ((i + j) / 2 < pos a l) → Ev (fun k => slices_BinarySearchFunc_34.l0 k l (l.length : Int) (i : Int) (((i + j) / 2 : Nat) : Int) a.f0 a.f1 a.f2) ((pos a l : Int), (get a l).isSome) := fun h => bs_from l hl hs a d i _ (by clear hmw hwn; omega) hi (by clear hmw hwn; omega) (by clear hmw hwn; omega)
        refine Ev_shift 1 (fun k => by rw [slices_BinarySearchFunc_34.l0, if_pos e0, hmw, if_pos e1, if_pos e2, rdAt l _ hm]) ?_
        refine Ev.bind (pl1 (l[(i + j) / 2]) a) ?_
        by_cases hc : cmp (l[(i + j) / 2]).f0 a < 0
        · simp only [if_pos hc, hwn]
          exact ihl (hpi.1 hc)
        · simp only [if_neg hc]
          exact ihr (fun h => hc (hpi.2 h))
    · have hip : pos a l = i := by omega
      have e0 : ¬ (i : Int) < (j : Int) := by omega
      rw [get_pos a l hs, hip]
      by_cases hil : i < l.length
      · have e1 : (i : Int) < (l.length : Int) := by omega
        have e2 : (0 : Int) ≤ (i : Int) := by omega
        refine Ev_shift 1 (fun k => by rw [slices_BinarySearchFunc_34.l0, if_neg e0, if_pos e1, if_pos e2, if_pos e1, rdAt l _ hil]) ?_
        refine Ev.bind (pl1 (l[i]) a) (Ev_const ?_)
        rw [List.getElem?_eq_getElem hil]
        congr 2
        show (cmp (l[i]).f0 a == 0) = _
        simp only []
        cases he : ea (l[i]).f0 a with
        | true =>
          rw [(ea_iff _ _).1 he, cmp_self]
          rfl
        | false =>
          have := (ea_ne _ _).1 he
          have h0 : ¬ cmp (l[i]).f0 a = 0 := fun h => this ((cmp_zero _ _).1 h)
          simpa using h0
      · have e1 : ¬ (i : Int) < (l.length : Int) := by omega
        refine Ev_shift 1 (f := fun _ => some ((i : Int), false)) (fun k => by rw [slices_BinarySearchFunc_34.l0, if_neg e0, if_neg e1]) (Ev_const ?_)
        rw [List.getElem?_eq_none (by omega)]
        rfl
theorem place_ev (l : List S33) (hl : l.length ≤ 140737488351232) (hs : Srt l) (a : S28) : Ev (fun k => probe_find.f k l a.f0 a.f1 a.f2) ((pos a l : Int), (get a l).isSome) := by
  unfold probe_find.f slices_BinarySearchFunc_34.f
  exact Ev.bind (bs_from l hl hs a l.length 0 l.length (by omega) (by omega) (pos_le a l) (Nat.le_refl _)) (Ev_const rfl)
theorem get_at (l : List S33) (hs : Srt l) (a : S28) : ((get a l).isSome = false ∧ get a l = none) ∨ (∃ h : pos a l < l.length, get a l = some l[pos a l] ∧ l[pos a l].f0 = a) := by
  have hg := get_pos a l hs
  by_cases hp : pos a l < l.length
  · rw [List.getElem?_eq_getElem hp] at hg
    simp only [] at hg
    split at hg
    · rename_i he
      exact .inr ⟨hp, hg, (ea_iff _ _).1 he⟩
    · exact .inl ⟨by rw [hg]; rfl, hg⟩
  · rw [List.getElem?_eq_none (by omega)] at hg
    exact .inl ⟨by rw [hg]; rfl, hg⟩
/-- A found probe as Pending hands it back. -/
def tup : Option S33 → Bool × Int × Int × ByteArray × Int × Int × Int × ByteArray × Bool × Int × Int × Bool × Int × Int × Bool × Int × Int × Bool × List S70 × Int × Bool
  | some x => (x.f0.f0, x.f0.f1, x.f0.f2, x.f1, x.f2.f0, x.f2.f1, x.f2.f2, x.f2.f3, x.f2.f4.f0, x.f2.f4.f1, x.f2.f4.f2, x.f2.f5.f0, x.f2.f5.f1, x.f2.f5.f2, x.f2.f6.f0, x.f2.f6.f1, x.f2.f6.f2, x.f2.f7, x.f2.f8, x.f3, true)
  | none => (false, 0, 0, ⟨#[]⟩, 0, 0, 0, ⟨#[]⟩, false, 0, 0, false, 0, 0, false, 0, 0, false, [], 0, false)
theorem pend_ev (l : List S33) (hl : l.length ≤ 140737488351232) (hs : Srt l) (a : S28) : Ev (fun k => probe_Pending.f k l a.f0 a.f1 a.f2) (tup (get a l)) := by
  unfold probe_Pending.f
  refine Ev.bind (place_ev l hl hs a) ?_
  rcases get_at l hs a with ⟨_, hg⟩ | ⟨hp, hg, _⟩
  · rw [hg]
    exact Ev_const rfl
  · rw [hg]
    simp only [Option.isSome_some, if_true, if_pos (show (0 : Int) ≤ (pos a l : Int) by omega), if_pos (show (pos a l : Int) < (l.length : Int) by omega), rdAt l _ hp]
    exact Ev_const rfl
theorem rpend_from (l : List S33) (hl : l.length ≤ 140737488351232) (a : S28) : ∀ (r : List S33) (i : Nat), l.drop i = r → Ev (fun k => ddiref40_Pending.l0 k (l.map cv) (i : Int) a.f0 a.f1 a.f2) (tup (get a r))
  | [], i, h => by
    have := drop_end h
    exact Ev_shift 1 (f := fun _ => some (tup none)) (fun k => by rw [ddiref40_Pending.l0, if_neg (by rw [List.length_map]; omega)]; rfl) (Ev_const rfl)
  | x :: r, i, h => by
    obtain ⟨hi, hx, hr⟩ := rd54 l i x r h
    have hlm : ((l.map cv).length : Int) = (l.length : Int) := by rw [List.length_map]
    have hi' : i < l.length := by rw [List.length_map] at hi; exact hi
    have ih := rpend_from l hl a r (i + 1) hr
    unfold get
    rw [List.find?_cons]
    cases he : ea x.f0 a with
    | true =>
      refine Ev_shift 1 (f := fun _ => some (tup (some x))) (fun k => ?_) (Ev_const rfl)
      have he' := he
      unfold ea at he'
      rw [ddiref40_Pending.l0, hlm, if_pos (by omega), if_pos (by omega), hx, if_pos (show ((cv x).f0.f0 == a.f0 && ((cv x).f0.f1 == a.f1 && ((cv x).f0.f2 == a.f2))) = true from he')]
      rfl
    | false =>
      have he' := he
      unfold ea at he'
      refine Ev_shift 1 (fun k => by rw [ddiref40_Pending.l0, hlm, if_pos (by omega), if_pos (by omega), hx, if_neg (by show ¬ (x.f0.f0 == a.f0 && (x.f0.f1 == a.f1 && (x.f0.f2 == a.f2))) = true; rw [he']; exact Bool.false_ne_true), next i l.length hi' (by omega)]) ih
theorem rpend_ev (l : List S33) (hl : l.length ≤ 140737488351232) (a : S28) : Ev (fun k => ddiref40_Pending.f k (l.map cv) a.f0 a.f1 a.f2) (tup (get a l)) := by
  unfold ddiref40_Pending.f
  exact rpend_from l hl a l 0 rfl
end Go.Proofs.Ytioopjondjfchaa.Ma
