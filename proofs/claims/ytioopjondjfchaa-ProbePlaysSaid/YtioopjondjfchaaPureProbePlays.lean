/- each call, from the empty table on, returns what the document says: the pure statement of ProbePlays (no condition but the sizes that every argument has). -/
import Derived.Test.YtioopjondjfchaaQAd1
import Derived.Test.YtioopjondjfchaaXP
import Derived.Test.YtioopjondjfchaaQAd
import Derived.Test.YtioopjondjfchaaQAd3
import Derived.Test.YtioopjondjfchaaQAd2
namespace Go.Proofs.Ytioopjondjfchaa.Cm
open Go.RowKit Go.Proofs.YtioopjondjfchaaW.PrintWords Go.Proofs.YtioopjondjfchaaW.PrintLast Go.Proofs.YtioopjondjfchaaW.PrintMore Go.Proofs.Ytioopjondjfchaa.XP Go.Proofs.Ytioopjondjfchaa.QA
set_option linter.unusedVariables false
set_option linter.unusedSimpArgs false
def ea (a x : S28) : Bool := a.f0 == x.f0 && (a.f1 == x.f1 && (a.f2 == x.f2))
theorem ea_iff (a x : S28) : ea a x = true ↔ a = x := by
  obtain ⟨a0, a1, a2⟩ := a
  obtain ⟨x0, x1, x2⟩ := x
  simp [ea]
theorem ea_self (a : S28) : ea a a = true := (ea_iff a a).2 rfl
theorem ea_ne (a x : S28) : ea a x = false ↔ a ≠ x := by
  rw [← Bool.not_eq_true, ea_iff]
def cmp (a b : S28) : Int := if (a.f0 != b.f0) = true then (if b.f0 = true then -1 else 1) else (if a.f1 = b.f1 then (if a.f2 < b.f2 then -1 else (if a.f2 > b.f2 then 1 else 0)) else (if a.f1 < b.f1 then -1 else 1))
theorem rcmp (a b : S28) : ddiref02_Compare.f a.f0 a.f1 a.f2 b.f0 b.f1 b.f2 = some (cmp a b) := by
  unfold ddiref02_Compare.f cmp
  repeat' split
  all_goals first | rfl | omega
theorem num (a b : Int) : addr_number.f a b = some (if a < b then -1 else (if a > b then 1 else 0)) := by
  unfold addr_number.f
  repeat' split
  all_goals rfl
theorem ucmp (a b : S28) : Ev (fun k => addr_Compare.f k a.f0 a.f1 a.f2 b.f0 b.f1 b.f2) (cmp a b) := by
  refine Ev_shift 1 (f := fun _ => some (cmp a b)) (fun k => ?_) (Ev_const rfl)
  unfold addr_Compare.f addr_Compare.j0 cmp
  simp only [num]
  cases h0 : a.f0 <;> cases h1 : b.f0 <;> simp
  all_goals
    by_cases h : a.f1 = b.f1
    · simp [h]
    · simp only [h, if_false]
      by_cases h2 : a.f1 < b.f1
      · simp [h2]
      · simp [h2]
        omega
theorem cmp_zero (a b : S28) : cmp a b = 0 ↔ a = b := by
  obtain ⟨a0, a1, a2⟩ := a
  obtain ⟨b0, b1, b2⟩ := b
  simp only [cmp, S28.mk.injEq]
  cases a0 <;> cases b0 <;> simp <;> repeat' split
  all_goals omega
theorem cmp_self (a : S28) : cmp a a = 0 := (cmp_zero a a).2 rfl
theorem cmp_flip (a b : S28) : cmp b a = -cmp a b := by
  obtain ⟨a0, a1, a2⟩ := a
  obtain ⟨b0, b1, b2⟩ := b
  simp only [cmp]
  cases a0 <;> cases b0 <;> simp <;> repeat' split
  all_goals omega
theorem cmp_trans {a b c : S28} : cmp a b < 0 → cmp b c < 0 → cmp a c < 0 := by
  obtain ⟨a0, a1, a2⟩ := a
  obtain ⟨b0, b1, b2⟩ := b
  obtain ⟨c0, c1, c2⟩ := c
  simp only [cmp]
  cases a0 <;> cases b0 <;> cases c0 <;> simp <;> repeat' split
  all_goals omega
end Go.Proofs.Ytioopjondjfchaa.Cm
namespace Go.Proofs.Ytioopjondjfchaa.Ma
open Go.RowKit Go.Proofs.YtioopjondjfchaaW.PrintWords Go.Proofs.YtioopjondjfchaaW.PrintLast Go.Proofs.YtioopjondjfchaaW.PrintMore Go.Proofs.Ytioopjondjfchaa.XP Go.Proofs.Ytioopjondjfchaa.QA Go.Proofs.Ytioopjondjfchaa.Cm
set_option linter.unusedVariables false
set_option linter.unusedSimpArgs false
def adB (x : S28) : Bool := x.f0 || (decide (x.f1 = 0) && decide (x.f2 ≤ 4294967295))
theorem ad_v (x : S28) : addr_Valid.f x.f0 x.f1 x.f2 = some (adB x) := by
  unfold addr_Valid.f adB
  by_cases h : x.f0 = true
  · rw [if_pos h, h]; rfl
  · have : x.f0 = false := by simpa using h
    rw [if_neg h, this, Bool.false_or]
    by_cases h1 : x.f1 = 0
    · rw [if_pos h1, decide_eq_true h1, Bool.true_and]
    · rw [if_neg h1, decide_eq_false h1]; rfl
theorem rad_v (x : S28) : ddiref02_Valid.f x.f0 x.f1 x.f2 = some (adB x) := by
  rw [← ad_v]
  unfold ddiref02_Valid.f addr_Valid.f
  split
  · rfl
  · split
    · congr 1
      rw [Bool.eq_iff_iff]
      simp
      omega
    · rfl
/-- The same probe, as the reference has it. -/
def cv (x : S33) : S54 := ⟨x.f0, x.f1, x.f2, x.f3⟩
theorem rd33 (l : List S33) (i : Nat) (x : S33) (r : List S33) (h : l.drop i = x :: r) : i < l.length ∧ rd_T33 l (i : Int) = x ∧ l.drop (i + 1) = r := by
  obtain ⟨hi, hx, hr⟩ := drop_at h
  refine ⟨hi, ?_, hr⟩
  simp [rd_T33, List.getD_eq_getElem?_getD, List.getElem?_eq_getElem hi, hx]
theorem rd54 (l : List S33) (i : Nat) (x : S33) (r : List S33) (h : l.drop i = x :: r) : i < (l.map cv).length ∧ rd_T54 (l.map cv) (i : Int) = cv x ∧ l.drop (i + 1) = r := by
  obtain ⟨hi, hx, hr⟩ := drop_at h
  refine ⟨by rw [List.length_map]; exact hi, ?_, hr⟩
  simp [rd_T54, List.getD_eq_getElem?_getD, List.getElem?_eq_getElem hi, hx]
theorem rdAt (l : List S33) (q : Nat) (h : q < l.length) : rd_T33 l (q : Int) = l[q] := by
  simp [rd_T33, List.getD_eq_getElem?_getD, List.getElem?_eq_getElem h]
end Go.Proofs.Ytioopjondjfchaa.Ma
namespace Go.Proofs.Ytioopjondjfchaa.Ma
open Go.RowKit Go.Proofs.YtioopjondjfchaaW.PrintWords Go.Proofs.YtioopjondjfchaaW.PrintLast Go.Proofs.YtioopjondjfchaaW.PrintMore Go.Proofs.Ytioopjondjfchaa.XP Go.Proofs.Ytioopjondjfchaa.QA Go.Proofs.Ytioopjondjfchaa.Cm
set_option linter.unusedVariables false
set_option linter.unusedSimpArgs false
def Srt (l : List S33) : Prop := l.Pairwise fun x y => cmp x.f0 y.f0 < 0
def pos (a : S28) : List S33 → Nat
  | [] => 0
  | x :: r => if cmp x.f0 a < 0 then pos a r + 1 else 0
theorem pos_le (a : S28) : ∀ l : List S33, pos a l ≤ l.length
  | [] => Nat.le_refl _
  | x :: r => by
    have := pos_le a r
    unfold pos
    split
    · simp; omega
    · simp
theorem pos_iff (a : S28) : ∀ (l : List S33) (_ : Srt l) (q : Nat) (h : q < l.length), cmp (l[q]).f0 a < 0 ↔ q < pos a l
  | [], _, q, h => by simp at h
  | x :: r, hs, q, h => by
    obtain ⟨h1, h2⟩ := List.pairwise_cons.1 hs
    unfold pos
    cases q with
    | zero =>
      simp only [List.getElem_cons_zero]
      split
      · rename_i hc; exact ⟨fun _ => by omega, fun _ => hc⟩
      · rename_i hc; exact ⟨fun h => absurd h hc, fun h => absurd h (by omega)⟩
    | succ q =>
      simp only [List.getElem_cons_succ]
      have hq : q < r.length := by simpa using h
      have ih := pos_iff a r h2 q hq
      split
      · rw [ih]; omega
      · rename_i hc
        exact ⟨fun h => absurd (cmp_trans (h1 _ (List.getElem_mem hq)) h) hc, fun h => absurd h (by omega)⟩
def get (a : S28) (l : List S33) : Option S33 := l.find? fun x => ea x.f0 a
theorem get_none_of_gt (a : S28) (x : S33) : ∀ r : List S33, (∀ y ∈ r, cmp x.f0 y.f0 < 0) → ¬ cmp x.f0 a < 0 → get a r = none := by
  intro r h hn
  unfold get
  rw [List.find?_eq_none]
  intro y hy he
  have := (ea_iff _ _).1 he
  have h1 := h y hy
  rw [this] at h1
  exact hn h1
theorem get_pos (a : S28) : ∀ (l : List S33), Srt l → get a l = match l[pos a l]? with | some x => if ea x.f0 a = true then some x else none | none => none
  | [], _ => rfl
  | x :: r, hs => by
    obtain ⟨h1, h2⟩ := List.pairwise_cons.1 hs
    have ih := get_pos a r h2
    by_cases hc : cmp x.f0 a < 0
    · have he : ea x.f0 a = false := by
        rw [ea_ne]
        intro e
        rw [e, cmp_self] at hc
        omega
      have hp : pos a (x :: r) = pos a r + 1 := by rw [pos, if_pos hc]
      rw [hp, List.getElem?_cons_succ, ← ih]
      unfold get
      rw [List.find?_cons, he]
    · have hp : pos a (x :: r) = 0 := by rw [pos, if_neg hc]
      rw [hp, List.getElem?_cons_zero]
      have hr := get_none_of_gt a x r h1 hc
      unfold get at hr ⊢
      rw [List.find?_cons]
      cases he : ea x.f0 a with
      | true => simp only [he, if_true]
      | false => simp only [hr, he, Bool.false_eq_true, if_false]
theorem mid (i j : Nat) (h : i + j ≤ 1000000000000000) : wrap64 ((IntKind.u64.wrap (wrap64 ((i : Int) + (j : Int)))) / 2) = (((i + j) / 2 : Nat) : Int) := by
  rw [wrap_id (x := (i : Int) + (j : Int)) (by omega) (by omega), IntKind.wrap_u64]
  rw [wrap_id (by omega) (by omega)]
  omega
theorem pl1 (x : S33) (a : S28) : Ev (fun k => probe_find_1.f k x.f0.f0 x.f0.f1 x.f0.f2 x.f1 x.f2.f0 x.f2.f1 x.f2.f2 x.f2.f3 x.f2.f4.f0 x.f2.f4.f1 x.f2.f4.f2 x.f2.f5.f0 x.f2.f5.f1 x.f2.f5.f2 x.f2.f6.f0 x.f2.f6.f1 x.f2.f6.f2 x.f2.f7 x.f2.f8 x.f3 a.f0 a.f1 a.f2) (cmp x.f0 a) := by
  unfold probe_find_1.f
  exact Ev.bind (ucmp x.f0 a) (Ev_const rfl)
theorem wnext (q : Nat) (h : q ≤ 1000000000000000) : wrap64 ((q : Int) + 1) = ((q + 1 : Nat) : Int) := by
  rw [wrap_id (by omega) (by omega)]
  omega
theorem bs_from (l : List S33) (hl : l.length ≤ 140737488351232) (hs : Srt l) (a : S28) : ∀ (d i j : Nat), j - i ≤ d → i ≤ pos a l → pos a l ≤ j → j ≤ l.length → Ev (fun k => slices_BinarySearchFunc_34.l0 k l (l.length : Int) (i : Int) (j : Int) a.f0 a.f1 a.f2) ((pos a l : Int), (get a l).isSome)
  | d, i, j, hd, hi, hj, hjl => by
    by_cases hij : i < j
    · have hm : (i + j) / 2 < l.length := by omega
      have e0 : (i : Int) < (j : Int) := by omega
      have e1 : (0 : Int) ≤ (((i + j) / 2 : Nat) : Int) := by omega
      have e2 : (((i + j) / 2 : Nat) : Int) < (l.length : Int) := by omega
      have hmw := mid i j (by omega)
      have hpi := pos_iff a l hs ((i + j) / 2) hm
      have hwn := wnext ((i + j) / 2) (by omega)
      cases d with
      | zero => exact absurd hd (by omega)
      | succ d =>
        have ihl : ((i + j) / 2 < pos a l) → Ev (fun k => slices_BinarySearchFunc_34.l0 k l (l.length : Int) (((i + j) / 2 + 1 : Nat) : Int) (j : Int) a.f0 a.f1 a.f2) ((pos a l : Int), (get a l).isSome) := fun h => bs_from l hl hs a d _ j (by clear hmw hwn; omega) (by clear hmw hwn; omega) hj hjl
        have ihr : ¬ ((i + j) / 2 < pos a l) → Ev (fun k => slices_BinarySearchFunc_34.l0 k l (l.length : Int) (i : Int) (((i + j) / 2 : Nat) : Int) a.f0 a.f1 a.f2) ((pos a l : Int), (get a l).isSome) := fun h => bs_from l hl hs a d i _ (by clear hmw hwn; omega) hi (by clear hmw hwn; omega) (by clear hmw hwn; omega)
        refine Ev_shift 1 (fun k => by rw [slices_BinarySearchFunc_34.l0, if_pos e0, hmw, if_pos e1, if_pos e2, rdAt l _ hm]) ?_
        refine Ev.bind (pl1 (l[(i + j) / 2]) a) ?_
        by_cases hc : cmp (l[(i + j) / 2]).f0 a < 0
        · simp only [if_pos hc, hwn]
          exact ihl (hpi.1 hc)
        · simp only [if_neg hc]
          exact ihr (fun h => hc (hpi.2 h))
    · have hip : pos a l = i := by omega
      have e0 : ¬ (i : Int) < (j : Int) := by omega
      rw [get_pos a l hs, hip]
      by_cases hil : i < l.length
      · have e1 : (i : Int) < (l.length : Int) := by omega
        have e2 : (0 : Int) ≤ (i : Int) := by omega
        refine Ev_shift 1 (fun k => by rw [slices_BinarySearchFunc_34.l0, if_neg e0, if_pos e1, if_pos e2, if_pos e1, rdAt l _ hil]) ?_
        refine Ev.bind (pl1 (l[i]) a) (Ev_const ?_)
        rw [List.getElem?_eq_getElem hil]
        congr 2
        show (cmp (l[i]).f0 a == 0) = _
        simp only []
        cases he : ea (l[i]).f0 a with
        | true =>
          rw [(ea_iff _ _).1 he, cmp_self]
          rfl
        | false =>
          have := (ea_ne _ _).1 he
          have h0 : ¬ cmp (l[i]).f0 a = 0 := fun h => this ((cmp_zero _ _).1 h)
          simpa using h0
      · have e1 : ¬ (i : Int) < (l.length : Int) := by omega
        refine Ev_shift 1 (f := fun _ => some ((i : Int), false)) (fun k => by rw [slices_BinarySearchFunc_34.l0, if_neg e0, if_neg e1]) (Ev_const ?_)
        rw [List.getElem?_eq_none (by omega)]
        rfl
theorem place_ev (l : List S33) (hl : l.length ≤ 140737488351232) (hs : Srt l) (a : S28) : Ev (fun k => probe_find.f k l a.f0 a.f1 a.f2) ((pos a l : Int), (get a l).isSome) := by
  unfold probe_find.f slices_BinarySearchFunc_34.f
  exact Ev.bind (bs_from l hl hs a l.length 0 l.length (by omega) (by omega) (pos_le a l) (Nat.le_refl _)) (Ev_const rfl)
theorem get_at (l : List S33) (hs : Srt l) (a : S28) : ((get a l).isSome = false ∧ get a l = none) ∨ (∃ h : pos a l < l.length, get a l = some l[pos a l] ∧ l[pos a l].f0 = a) := by
  have hg := get_pos a l hs
  by_cases hp : pos a l < l.length
  · rw [List.getElem?_eq_getElem hp] at hg
    simp only [] at hg
    split at hg
    · rename_i he
      exact .inr ⟨hp, hg, (ea_iff _ _).1 he⟩
    · exact .inl ⟨by rw [hg]; rfl, hg⟩
  · rw [List.getElem?_eq_none (by omega)] at hg
    exact .inl ⟨by rw [hg]; rfl, hg⟩
/-- A found probe as Pending hands it back. -/
def tup : Option S33 → Bool × Int × Int × ByteArray × Int × Int × Int × ByteArray × Bool × Int × Int × Bool × Int × Int × Bool × Int × Int × Bool × List S70 × Int × Bool
  | some x => (x.f0.f0, x.f0.f1, x.f0.f2, x.f1, x.f2.f0, x.f2.f1, x.f2.f2, x.f2.f3, x.f2.f4.f0, x.f2.f4.f1, x.f2.f4.f2, x.f2.f5.f0, x.f2.f5.f1, x.f2.f5.f2, x.f2.f6.f0, x.f2.f6.f1, x.f2.f6.f2, x.f2.f7, x.f2.f8, x.f3, true)
  | none => (false, 0, 0, ⟨#[]⟩, 0, 0, 0, ⟨#[]⟩, false, 0, 0, false, 0, 0, false, 0, 0, false, [], 0, false)
theorem pend_ev (l : List S33) (hl : l.length ≤ 140737488351232) (hs : Srt l) (a : S28) : Ev (fun k => probe_Pending.f k l a.f0 a.f1 a.f2) (tup (get a l)) := by
  unfold probe_Pending.f
  refine Ev.bind (place_ev l hl hs a) ?_
  rcases get_at l hs a with ⟨_, hg⟩ | ⟨hp, hg, _⟩
  · rw [hg]
    exact Ev_const rfl
  · rw [hg]
    simp only [Option.isSome_some, if_true, if_pos (show (0 : Int) ≤ (pos a l : Int) by omega), if_pos (show (pos a l : Int) < (l.length : Int) by omega), rdAt l _ hp]
    exact Ev_const rfl
theorem rpend_from (l : List S33) (hl : l.length ≤ 140737488351232) (a : S28) : ∀ (r : List S33) (i : Nat), l.drop i = r → Ev (fun k => ddiref40_Pending.l0 k (l.map cv) (i : Int) a.f0 a.f1 a.f2) (tup (get a r))
  | [], i, h => by
    have := drop_end h
    exact Ev_shift 1 (f := fun _ => some (tup none)) (fun k => by rw [ddiref40_Pending.l0, if_neg (by rw [List.length_map]; omega)]; rfl) (Ev_const rfl)
  | x :: r, i, h => by
    obtain ⟨hi, hx, hr⟩ := rd54 l i x r h
    have hlm : ((l.map cv).length : Int) = (l.length : Int) := by rw [List.length_map]
    have hi' : i < l.length := by rw [List.length_map] at hi; exact hi
    have ih := rpend_from l hl a r (i + 1) hr
    unfold get
    rw [List.find?_cons]
    cases he : ea x.f0 a with
    | true =>
      refine Ev_shift 1 (f := fun _ => some (tup (some x))) (fun k => ?_) (Ev_const rfl)
      have he' := he
      unfold ea at he'
      rw [ddiref40_Pending.l0, hlm, if_pos (by omega), if_pos (by omega), hx, if_pos (show ((cv x).f0.f0 == a.f0 && ((cv x).f0.f1 == a.f1 && ((cv x).f0.f2 == a.f2))) = true from he')]
      rfl
    | false =>
      have he' := he
      unfold ea at he'
      refine Ev_shift 1 (fun k => by rw [ddiref40_Pending.l0, hlm, if_pos (by omega), if_pos (by omega), hx, if_neg (by show ¬ (x.f0.f0 == a.f0 && (x.f0.f1 == a.f1 && (x.f0.f2 == a.f2))) = true; rw [he']; exact Bool.false_ne_true), next i l.length hi' (by omega)]) ih
theorem rpend_ev (l : List S33) (hl : l.length ≤ 140737488351232) (a : S28) : Ev (fun k => ddiref40_Pending.f k (l.map cv) a.f0 a.f1 a.f2) (tup (get a l)) := by
  unfold ddiref40_Pending.f
  exact rpend_from l hl a l 0 rfl
end Go.Proofs.Ytioopjondjfchaa.Ma
namespace Go.Proofs.Ytioopjondjfchaa.Ma
open Go.RowKit Go.Proofs.YtioopjondjfchaaW.PrintWords Go.Proofs.YtioopjondjfchaaW.PrintLast Go.Proofs.YtioopjondjfchaaW.PrintMore Go.Proofs.Ytioopjondjfchaa.XP Go.Proofs.Ytioopjondjfchaa.QA Go.Proofs.Ytioopjondjfchaa.Cm
set_option linter.unusedVariables false
set_option linter.unusedSimpArgs false
/-- Of a size that a machine has. -/
def fit (x : S33) : Prop := x.f2.f8.length ≤ 140737488351232
theorem pk_from (a : S31) (hl : a.f8.length ≤ 140737488351232) : ∀ (d i : Nat), a.f8.length - i ≤ d → i ≤ a.f8.length → Ev (fun k => ddilaw40_packets.l0 k (i : Int) a.f0 a.f1 a.f2 a.f3 a.f4.f0 a.f4.f1 a.f4.f2 a.f5.f0 a.f5.f1 a.f5.f2 a.f6.f0 a.f6.f1 a.f6.f2 a.f7 a.f8 a.f0 a.f1 a.f2 a.f3 a.f4.f0 a.f4.f1 a.f4.f2 a.f5.f0 a.f5.f1 a.f5.f2 a.f6.f0 a.f6.f1 a.f6.f2 a.f7 a.f8) true
  | d, i, hd, hi => by
    by_cases h : i < a.f8.length
    · cases d with
      | zero => exact absurd hd (by omega)
      | succ d =>
        have ih := pk_from a hl d (i + 1) (by omega) h
        refine Ev_shift 1 (fun k => ?_) ih
        rw [ddilaw40_packets.l0, if_pos (by omega), if_pos (by omega), if_pos (by omega), if_neg (by simp), next i a.f8.length h (by omega)]
    · exact Ev_shift 1 (f := fun _ => some true) (fun k => by rw [ddilaw40_packets.l0, if_neg (by omega)]) (Ev_const rfl)
theorem pk_ev (a : S31) (hl : a.f8.length ≤ 140737488351232) : Ev (fun k => ddilaw40_packets.f k a.f0 a.f1 a.f2 a.f3 a.f4.f0 a.f4.f1 a.f4.f2 a.f5.f0 a.f5.f1 a.f5.f2 a.f6.f0 a.f6.f1 a.f6.f2 a.f7 a.f8 a.f0 a.f1 a.f2 a.f3 a.f4.f0 a.f4.f1 a.f4.f2 a.f5.f0 a.f5.f1 a.f5.f2 a.f6.f0 a.f6.f1 a.f6.f2 a.f7 a.f8) true := by
  unfold ddilaw40_packets.f
  simp only [if_true, beq_self_eq_true, Bool.not_true, Bool.or_self, Bool.false_eq_true, if_false, bne_self_eq_false]
  exact Ev_shift 1 (fun k => by rw [ddilaw40_packets.j0, if_neg Bool.false_ne_true]; rfl) (pk_from a hl a.f8.length 0 (by omega) (by omega))
theorem same_ev (x : S33) (hl : fit x) : Ev (fun k => ddilaw40_same.f k x.f0.f0 x.f0.f1 x.f0.f2 x.f1 x.f2.f0 x.f2.f1 x.f2.f2 x.f2.f3 x.f2.f4.f0 x.f2.f4.f1 x.f2.f4.f2 x.f2.f5.f0 x.f2.f5.f1 x.f2.f5.f2 x.f2.f6.f0 x.f2.f6.f1 x.f2.f6.f2 x.f2.f7 x.f2.f8 x.f3 x.f0.f0 x.f0.f1 x.f0.f2 x.f1 x.f2.f0 x.f2.f1 x.f2.f2 x.f2.f3 x.f2.f4.f0 x.f2.f4.f1 x.f2.f4.f2 x.f2.f5.f0 x.f2.f5.f1 x.f2.f5.f2 x.f2.f6.f0 x.f2.f6.f1 x.f2.f6.f2 x.f2.f7 x.f2.f8 x.f3) true := by
  unfold ddilaw40_same.f
  simp only [if_true, beq_self_eq_true, Bool.and_self]
  exact Ev.bind (pk_ev x.f2 hl) (Ev_const rfl)
theorem tab_from (l : List S33) (hl : l.length ≤ 140737488351232) (ok : ∀ x ∈ l, fit x) : ∀ (r : List S33) (i : Nat), l.drop i = r → Ev (fun k => ddilaw40_tables.l0 k l (l.map cv) (i : Int)) true
  | [], i, h => by
    have := drop_end h
    exact Ev_shift 1 (f := fun _ => some true) (fun k => by rw [ddilaw40_tables.l0, if_neg (by omega)]) (Ev_const rfl)
  | x :: r, i, h => by
    obtain ⟨hi, hx, hr⟩ := rd33 l i x r h
    obtain ⟨_, hx5, _⟩ := rd54 l i x r h
    have hxl : x ∈ l := List.mem_of_mem_drop (i := i) (by rw [h]; exact List.mem_cons_self ..)
    have ih := tab_from l hl ok r (i + 1) hr
    have hlm : ((l.map cv).length : Int) = (l.length : Int) := by rw [List.length_map]
    refine Ev_shift 1 (fun k => by rw [ddilaw40_tables.l0, hlm, if_pos (by omega), if_pos (by omega), if_pos (by omega), hx, hx5, next i l.length hi (by omega)]) ?_
    refine Ev.bind (a := true) (same_ev x (ok x hxl)) ?_
    simp only [if_true]
    exact ih
theorem tab_ev (l : List S33) (hl : l.length ≤ 140737488351232) (ok : ∀ x ∈ l, fit x) : Ev (fun k => ddilaw40_tables.f k l (l.map cv)) true := by
  unfold ddilaw40_tables.f
  have hlm : ((l.map cv).length : Int) = (l.length : Int) := by rw [List.length_map]
  simp only [hlm, if_true]
  exact tab_from l hl ok l 0 rfl
/-! ### Start -/
def ins (x : S33) : List S33 → List S33
  | [] => [x]
  | y :: r => if cmp y.f0 x.f0 < 0 then y :: ins x r else x :: y :: r
theorem ins_eq (x : S33) : ∀ l : List S33, ins x l = l.take (pos x.f0 l) ++ [x] ++ l.drop (pos x.f0 l)
  | [] => rfl
  | y :: r => by
    unfold ins pos
    split
    · rw [ins_eq x r]; rfl
    · rfl
theorem ins_len (x : S33) (l : List S33) : (ins x l).length = l.length + 1 := by
  have := pos_le x.f0 l
  rw [ins_eq, List.length_append, List.length_append, List.length_take, List.length_drop]
  simp
  omega
theorem mem_ins (x y : S33) : ∀ l : List S33, y ∈ ins x l → y = x ∨ y ∈ l
  | [], h => .inl (by simpa [ins] using h)
  | z :: r, h => by
    unfold ins at h
    split at h
    · rcases List.mem_cons.1 h with rfl | h
      · exact .inr (List.mem_cons_self ..)
      · rcases mem_ins x y r h with h | h
        · exact .inl h
        · exact .inr (List.mem_cons_of_mem _ h)
    · rcases List.mem_cons.1 h with rfl | h
      · exact .inl rfl
      · exact .inr h
theorem srt_ins (x : S33) : ∀ l : List S33, Srt l → get x.f0 l = none → Srt (ins x l)
  | [], _, _ => by unfold ins; exact List.pairwise_singleton _ _
  | y :: r, hs, hg => by
    obtain ⟨h1, h2⟩ := List.pairwise_cons.1 hs
    have hy : ea y.f0 x.f0 = false := by
      unfold get at hg
      have := List.find?_eq_none.1 hg y (List.mem_cons_self ..)
      simpa using this
    have hgr : get x.f0 r = none := by
      unfold get at hg ⊢
      rw [List.find?_cons, hy] at hg
      exact hg
    unfold ins
    split
    · rename_i hc
      refine List.pairwise_cons.2 ⟨fun z hz => ?_, srt_ins x r h2 hgr⟩
      rcases mem_ins x z r hz with rfl | hz
      · exact hc
      · exact h1 z hz
    · rename_i hc
      have hxy : cmp x.f0 y.f0 < 0 := by
        have h0 : ¬ cmp y.f0 x.f0 = 0 := fun h => (ea_ne _ _).1 hy ((cmp_zero _ _).1 h)
        have := cmp_flip y.f0 x.f0
        omega
      refine List.pairwise_cons.2 ⟨fun z hz => ?_, hs⟩
      rcases List.mem_cons.1 hz with rfl | hz
      · exact hxy
      · exact cmp_trans hxy (h1 z hz)
def unt (n w : Int) : Int := if w > wrap64 (4294967295 - n) then 4294967295 else wrap64 (n + w)
def mk (a : S28) (p : S31) (n w : Int) : S33 := ⟨a, p.f3, p, unt n w⟩
def staT (l : List S33) (a : S28) (p : S31) (n w : Int) : List S33 × Int :=
  if adB a = true then (if (get a l).isSome = true then ([], 23) else (if (decide (n < 0) || (decide (n > 4294967295) || decide (w < 0))) = true then ([], 1) else (if 512 ≤ l.length then ([], 9) else (ins (mk a p n w) l, 0)))) else ([], 3)
theorem sta0_ev (l : List S33) (hl : l.length ≤ 512) (a : S28) (p : S31) (hp : p.f8.length * 24 ≤ 140737488351232) (n w : Int) (b : Bool) : Ev (fun k => probe_Start.j0 k l n w (pos a l : Int) b a.f0 a.f1 a.f2 p.f0 p.f1 p.f2 p.f3 p.f4.f0 p.f4.f1 p.f4.f2 p.f5.f0 p.f5.f1 p.f5.f2 p.f6.f0 p.f6.f1 p.f6.f2 p.f7 p.f8) (if b = true then ([], 1) else (if 512 ≤ l.length then ([], 9) else (ins (mk a p n w) l, 0))) := by
  cases b with
  | true => exact Ev_shift 1 (f := fun _ => some ([], 1)) (fun k => by rw [probe_Start.j0, if_pos rfl]) (Ev_const rfl)
  | false =>
    simp only [Bool.false_eq_true, if_false]
    have hpl := pos_le a l
    by_cases h : 512 ≤ l.length
    · rw [if_pos h]
      exact Ev_shift 1 (f := fun _ => some ([], 9)) (fun k => by rw [probe_Start.j0, if_neg Bool.false_ne_true, if_pos (by omega)]) (Ev_const rfl)
    · rw [if_neg h]
      refine Ev_shift 1 (f := fun _ => some (ins (mk a p n w) l, 0)) (fun k => ?_) (Ev_const rfl)
      have hu : probe_until.f n w = some (unt n w) := by
        unfold probe_until.f unt
        split <;> rfl
      rw [probe_Start.j0, if_neg Bool.false_ne_true, if_neg (by omega), slices_Clone_27.f, if_pos (by omega), Option.bind_some, slices_Clone_29.f, if_pos (by omega), Option.bind_some, hu, Option.bind_some, slices_Insert.f, if_pos (by omega), if_pos (by omega), if_pos (by simp; omega), Int.toNat_natCast, Option.bind_some, ins_eq]
      rfl
theorem start_ev (l : List S33) (hl : l.length ≤ 512) (hs : Srt l) (a : S28) (p : S31) (hp : p.f8.length * 24 ≤ 140737488351232) (n w : Int) : Ev (fun k => probe_Start.f k l a.f0 a.f1 a.f2 p.f0 p.f1 p.f2 p.f3 p.f4.f0 p.f4.f1 p.f4.f2 p.f5.f0 p.f5.f1 p.f5.f2 p.f6.f0 p.f6.f1 p.f6.f2 p.f7 p.f8 n w) (staT l a p n w) := by
  unfold probe_Start.f staT
  refine Ev.bind (place_ev l (by omega) hs a) ?_
  simp only [ad_v, Option.bind_some]
  cases adB a with
  | false => exact Ev_const rfl
  | true =>
    simp only [if_true]
    cases (get a l).isSome with
    | true => exact Ev_const rfl
    | false =>
      simp only [Bool.false_eq_true, if_false]
      have h0 := sta0_ev l hl a p hp n w
      by_cases h1 : n < 0
      · simp only [if_pos h1, decide_eq_true h1, Bool.true_or, if_true]
        exact h0 true
      · simp only [if_neg h1, decide_eq_false h1, Bool.false_or]
        by_cases h2 : n > 4294967295
        · simp only [if_pos h2, decide_eq_true h2, Bool.true_or, if_true]
          exact h0 true
        · simp only [if_neg h2, decide_eq_false h2, Bool.false_or]
          exact h0 (decide (w < 0))
theorem rdone_from (l : List S33) (hl : l.length ≤ 512) (a : S28) (x : S33) : ∀ (r : List S33) (i : Nat) (out : List S33), l.drop i = r → out.length ≤ i + 1 → Ev (fun k => ddiref40_Start.l0 k (l.map cv) (out.map cv) true (i : Int) a.f0 a.f1 a.f2 x.f0.f0 x.f0.f1 x.f0.f2 x.f1 x.f2.f0 x.f2.f1 x.f2.f2 x.f2.f3 x.f2.f4.f0 x.f2.f4.f1 x.f2.f4.f2 x.f2.f5.f0 x.f2.f5.f1 x.f2.f5.f2 x.f2.f6.f0 x.f2.f6.f1 x.f2.f6.f2 x.f2.f7 x.f2.f8 x.f3) ((out ++ r).map cv, 0)
  | [], i, out, h, ho => by
    have := drop_end h
    refine Ev_shift 1 (f := fun _ => some ((out ++ []).map cv, 0)) (fun k => ?_) (Ev_const rfl)
    rw [ddiref40_Start.l0, if_neg (by rw [List.length_map]; omega), if_pos rfl, List.append_nil]
  | y :: r, i, out, h, ho => by
    obtain ⟨hi, hx, hr⟩ := rd54 l i y r h
    have hlm : ((l.map cv).length : Int) = (l.length : Int) := by rw [List.length_map]
    have hi' : i < l.length := by rw [List.length_map] at hi; exact hi
    have ih := rdone_from l hl a x r (i + 1) (out ++ [y]) hr (by rw [List.length_append]; simp; omega)
    rw [show out ++ y :: r = (out ++ [y]) ++ r by simp]
    refine Ev_shift 2 (fun k => ?_) ih
    rw [ddiref40_Start.l0, hlm, if_pos (by omega), if_pos rfl, ddiref40_Start.j3, if_neg Bool.false_ne_true, hlm, if_pos (by omega), if_pos (by omega), if_pos (by rw [List.length_map]; omega), hx, next i l.length hi' (by omega), List.map_append]
    rfl
theorem rins_from (l : List S33) (hl : l.length ≤ 512) (x : S33) (hg : get x.f0 l = none) : ∀ (r : List S33) (i : Nat), l.drop i = r → Ev (fun k => ddiref40_Start.l0 k (l.map cv) ((l.take i).map cv) false (i : Int) x.f0.f0 x.f0.f1 x.f0.f2 x.f0.f0 x.f0.f1 x.f0.f2 x.f1 x.f2.f0 x.f2.f1 x.f2.f2 x.f2.f3 x.f2.f4.f0 x.f2.f4.f1 x.f2.f4.f2 x.f2.f5.f0 x.f2.f5.f1 x.f2.f5.f2 x.f2.f6.f0 x.f2.f6.f1 x.f2.f6.f2 x.f2.f7 x.f2.f8 x.f3) ((l.take i ++ ins x r).map cv, 0)
  | [], i, h => by
    have := drop_end h
    refine Ev_shift 1 (f := fun _ => some ((l.take i ++ ins x []).map cv, 0)) (fun k => ?_) (Ev_const rfl)
    rw [ddiref40_Start.l0, if_neg (by rw [List.length_map]; omega), if_neg Bool.false_ne_true, if_pos (by rw [List.length_map, List.length_take]; omega), List.map_append]
    rfl
  | y :: r, i, h => by
    obtain ⟨hi, hx, hr⟩ := rd54 l i y r h
    have hlm : ((l.map cv).length : Int) = (l.length : Int) := by rw [List.length_map]
    have hi' : i < l.length := by rw [List.length_map] at hi; exact hi
    have hyi : l[i] = y := (drop_at h).2.1
    have hy : ea y.f0 x.f0 = false := by
      unfold get at hg
      have := List.find?_eq_none.1 hg y (List.mem_of_mem_drop (i := i) (by rw [h]; exact List.mem_cons_self ..))
      simpa using this
    have h0 : ¬ cmp y.f0 x.f0 = 0 := fun h => (ea_ne _ _).1 hy ((cmp_zero _ _).1 h)
    have hf := cmp_flip y.f0 x.f0
    have htk : ((l.take i).map cv).length < 733007751850 := by rw [List.length_map, List.length_take]; omega
    unfold ins
    by_cases hc : cmp y.f0 x.f0 < 0
    · rw [if_pos hc]
      have ih := rins_from l hl x hg r (i + 1) hr
      rw [List.take_succ_eq_append_getElem hi', hyi] at ih
      rw [show l.take i ++ y :: ins x r = (l.take i ++ [y]) ++ ins x r by simp]
      refine Ev_shift 2 (fun k => ?_) ih
      rw [ddiref40_Start.l0, hlm, if_pos (by omega), if_neg Bool.false_ne_true, if_pos (by omega), hx, show (cv y).f0 = y.f0 from rfl, rcmp, Option.bind_some, decide_eq_false (show ¬ cmp x.f0 y.f0 < 0 by omega), ddiref40_Start.j3, if_neg Bool.false_ne_true, hlm, if_pos (by omega), if_pos (by omega), if_pos htk, hx, next i l.length hi' (by omega), List.map_append]
      rfl
    · rw [if_neg hc]
      have ih := rdone_from l hl x.f0 x r (i + 1) (l.take i ++ [x] ++ [y]) hr (by simp; omega)
      rw [show l.take i ++ x :: y :: r = (l.take i ++ [x] ++ [y]) ++ r by simp]
      refine Ev_shift 2 (fun k => ?_) ih
      rw [ddiref40_Start.l0, hlm, if_pos (by omega), if_neg Bool.false_ne_true, if_pos (by omega), hx, show (cv y).f0 = y.f0 from rfl, rcmp, Option.bind_some, decide_eq_true (show cmp x.f0 y.f0 < 0 by omega), ddiref40_Start.j3, if_pos rfl, if_pos htk, Option.bind_some, hlm, if_pos (by omega), if_pos (by omega), if_pos (by rw [List.length_append, List.length_map, List.length_take, List.length_singleton]; omega), hx, next i l.length hi' (by omega), List.map_append, List.map_append]
      rfl
theorem tup_some (o : Option S33) : (tup o).2.2.2.2.2.2.2.2.2.2.2.2.2.2.2.2.2.2.2.2 = o.isSome := by cases o <;> rfl
theorem rsta0_ev (l : List S33) (hl : l.length ≤ 512) (a : S28) (hg : get a l = none) (p : S31) (n w : Int) (h1 : 0 ≤ n) (h2 : n ≤ 4294967295) (b : Bool) (hb : b = decide (w < 0)) : Ev (fun k => ddiref40_Start.j0 k (l.map cv) n w b a.f0 a.f1 a.f2 p.f0 p.f1 p.f2 p.f3 p.f4.f0 p.f4.f1 p.f4.f2 p.f5.f0 p.f5.f1 p.f5.f2 p.f6.f0 p.f6.f1 p.f6.f2 p.f7 p.f8) (if b = true then ([], 1) else (if 512 ≤ l.length then ([], 9) else ((ins (mk a p n w) l).map cv, 0))) := by
  cases b with
  | true => exact Ev_shift 1 (f := fun _ => some ([], 1)) (fun k => by rw [ddiref40_Start.j0, if_pos rfl]) (Ev_const rfl)
  | false =>
    have hw : ¬ w < 0 := of_decide_eq_false hb.symm
    simp only [Bool.false_eq_true, if_false]
    have hlm : ((l.map cv).length : Int) = (l.length : Int) := by rw [List.length_map]
    by_cases h : 512 ≤ l.length
    · rw [if_pos h]
      exact Ev_shift 1 (f := fun _ => some ([], 9)) (fun k => by rw [ddiref40_Start.j0, if_neg Bool.false_ne_true, hlm, if_pos (by omega)]) (Ev_const rfl)
    · rw [if_neg h]
      have hi := rins_from l hl (mk a p n w) hg l 0 rfl
      have hwr : wrap64 (4294967295 - n) = 4294967295 - n := wrap_id (by omega) (by omega)
      by_cases hc : w < 4294967295 - n
      · have hu : wrap64 (n + w) = unt n w := by unfold unt; rw [hwr, if_neg (by omega)]
        refine Ev_shift 2 (fun k => ?_) hi
        rw [ddiref40_Start.j0, if_neg Bool.false_ne_true, hlm, if_neg (by omega), hwr, if_pos hc, ddiref40_Start.j1, hu]
        rfl
      · have hu : (4294967295 : Int) = unt n w := by
          unfold unt
          rw [hwr]
          split
          · rfl
          · rw [wrap_id (by omega) (by omega)]; omega
        refine Ev_shift 2 (fun k => ?_) hi
        rw [ddiref40_Start.j0, if_neg Bool.false_ne_true, hlm, if_neg (by omega), hwr, if_neg hc, ddiref40_Start.j1]
        conv => lhs; rw [hu]
        rfl
theorem rstart_ev (l : List S33) (hl : l.length ≤ 512) (a : S28) (p : S31) (n w : Int) : Ev (fun k => ddiref40_Start.f k (l.map cv) a.f0 a.f1 a.f2 p.f0 p.f1 p.f2 p.f3 p.f4.f0 p.f4.f1 p.f4.f2 p.f5.f0 p.f5.f1 p.f5.f2 p.f6.f0 p.f6.f1 p.f6.f2 p.f7 p.f8 n w) ((staT l a p n w).1.map cv, (staT l a p n w).2) := by
  unfold ddiref40_Start.f staT
  simp only [rad_v, Option.bind_some]
  cases adB a with
  | false => exact Ev_const rfl
  | true =>
    simp only [if_true]
    refine Ev.bind (rpend_ev l (by omega) a) ?_
    rw [tup_some]
    cases hg : get a l with
    | some x => exact Ev_const rfl
    | none =>
      simp only [Option.isSome_none, Bool.false_eq_true, if_false]
      by_cases h1 : n < 0
      · simp only [if_pos h1, decide_eq_true h1, Bool.true_or, if_true]
        exact Ev_shift 1 (f := fun _ => some ([], 1)) (fun k => by rw [ddiref40_Start.j0, if_pos rfl]) (Ev_const rfl)
      · simp only [if_neg h1, decide_eq_false h1, Bool.false_or]
        by_cases h2 : n > 4294967295
        · simp only [if_pos h2, decide_eq_true h2, Bool.true_or, if_true]
          exact Ev_shift 1 (f := fun _ => some ([], 1)) (fun k => by rw [ddiref40_Start.j0, if_pos rfl]) (Ev_const rfl)
        · simp only [if_neg h2, decide_eq_false h2, Bool.false_or]
          have h0 := rsta0_ev l hl a hg p n w (by omega) (by omega) (decide (w < 0)) rfl
          split
          · rename_i hd; rw [if_pos hd] at h0; exact h0
          · rename_i hd
            rw [if_neg hd] at h0
            split
            · rename_i h5; rw [if_pos h5] at h0; exact h0
            · rename_i h5; rw [if_neg h5] at h0; exact h0
end Go.Proofs.Ytioopjondjfchaa.Ma
namespace Go.Proofs.Ytioopjondjfchaa.Ma
open Go.RowKit Go.Proofs.YtioopjondjfchaaW.PrintWords Go.Proofs.YtioopjondjfchaaW.PrintLast Go.Proofs.YtioopjondjfchaaW.PrintMore Go.Proofs.Ytioopjondjfchaa.XP Go.Proofs.Ytioopjondjfchaa.QA Go.Proofs.Ytioopjondjfchaa.Cm
set_option linter.unusedVariables false
set_option linter.unusedSimpArgs false
theorem awake_ev : Ev (fun k => ddilaw40_awake.f k) true := ⟨60, fun k hk => at_rounds ddilaw40_awake.mono hk (by decide +kernel)⟩
/-! ### Seen -/
def rem (a : S28) (l : List S33) : List S33 := l.filter fun x => !ea x.f0 a
theorem rem_none (a : S28) (l : List S33) (h : get a l = none) : rem a l = l := by
  unfold rem
  unfold get at h
  rw [List.filter_eq_self]
  intro x hx
  have := List.find?_eq_none.1 h x hx
  simpa using this
theorem rem_pos (a : S28) : ∀ l : List S33, Srt l → ∀ h : pos a l < l.length, l[pos a l].f0 = a → l.take (pos a l) ++ l.drop (pos a l + 1) = rem a l
  | [], _, h, _ => by simp at h
  | x :: r, hs, h, he => by
    obtain ⟨h1, h2⟩ := List.pairwise_cons.1 hs
    by_cases hc : cmp x.f0 a < 0
    · have hp : pos a (x :: r) = pos a r + 1 := by rw [pos, if_pos hc]
      have hx : ea x.f0 a = false := by
        rw [ea_ne]
        intro e
        rw [e, cmp_self] at hc
        omega
      simp only [hp, List.length_cons] at h
      have he' : r[pos a r].f0 = a := by simpa [hp] using he
      have ih := rem_pos a r h2 (by omega) he'
      simp only [hp, List.take_succ_cons, List.drop_succ_cons, List.cons_append, ih]
      unfold rem
      rw [List.filter_cons, if_pos (by rw [hx]; rfl)]
    · have hp : pos a (x :: r) = 0 := by rw [pos, if_neg hc]
      have hx : x.f0 = a := by simpa [hp] using he
      simp only [hp, List.take_zero, List.nil_append, List.drop_succ_cons, List.drop_zero]
      have hr : get a r = none := get_none_of_gt a x r h1 hc
      unfold rem
      rw [List.filter_cons, if_neg (by rw [hx, ea_self]; decide)]
      exact (rem_none a r hr).symm
def seenT (l : List S33) (a : S28) : List S33 × Bool × Int × Int × ByteArray × Int × Int × Int × ByteArray × Bool × Int × Int × Bool × Int × Int × Bool × Int × Int × Bool × List S70 × Int × Bool := (rem a l, tup (get a l))
theorem seen_ev (l : List S33) (hl : l.length ≤ 733007751) (hs : Srt l) (a : S28) : Ev (fun k => probe_Seen.f k l a.f0 a.f1 a.f2) (seenT l a) := by
  unfold probe_Seen.f
  refine Ev.bind (place_ev l (by omega) hs a) ?_
  rcases get_at l hs a with ⟨_, hg⟩ | ⟨hp, hg, he⟩
  · unfold seenT
    rw [hg, rem_none a l hg]
    refine Ev_const ?_
    simp only [Option.isSome_none, Bool.false_eq_true, if_false]
    rw [slices_Clone_29.f, if_pos (by omega)]
    rfl
  · unfold seenT
    rw [hg]
    refine Ev_const ?_
    simp only [Option.isSome_some, if_true]
    rw [slices_Clone_29.f, if_pos (by omega), Option.bind_some, wnext (pos a l) (by omega), slices_Delete.f, if_pos (by omega), if_pos (by omega), if_pos (by omega), Option.bind_some, Int.toNat_natCast, Int.toNat_natCast, if_pos (by omega), if_pos (by omega), rdAt l _ hp, rem_pos a l hs hp he]
    rfl
theorem rseen_from (l : List S33) (hl : l.length ≤ 733007751) (a : S28) (o : Option S33) : ∀ (r : List S33) (i : Nat), l.drop i = r → Ev (fun k => ddiref40_Seen.l0 k (l.map cv) (tup o).2.2.2.2.2.2.2.2.2.2.2.2.2.2.2.2.2.2.2.2 ((rem a (l.take i)).map cv) (i : Int) a.f0 a.f1 a.f2 (tup o).1 (tup o).2.1 (tup o).2.2.1 (tup o).2.2.2.1 (tup o).2.2.2.2.1 (tup o).2.2.2.2.2.1 (tup o).2.2.2.2.2.2.1 (tup o).2.2.2.2.2.2.2.1 (tup o).2.2.2.2.2.2.2.2.1 (tup o).2.2.2.2.2.2.2.2.2.1 (tup o).2.2.2.2.2.2.2.2.2.2.1 (tup o).2.2.2.2.2.2.2.2.2.2.2.1 (tup o).2.2.2.2.2.2.2.2.2.2.2.2.1 (tup o).2.2.2.2.2.2.2.2.2.2.2.2.2.1 (tup o).2.2.2.2.2.2.2.2.2.2.2.2.2.2.1 (tup o).2.2.2.2.2.2.2.2.2.2.2.2.2.2.2.1 (tup o).2.2.2.2.2.2.2.2.2.2.2.2.2.2.2.2.1 (tup o).2.2.2.2.2.2.2.2.2.2.2.2.2.2.2.2.2.1 (tup o).2.2.2.2.2.2.2.2.2.2.2.2.2.2.2.2.2.2.1 (tup o).2.2.2.2.2.2.2.2.2.2.2.2.2.2.2.2.2.2.2.1) ((rem a l).map cv, tup o)
  | [], i, h => by
    have := drop_end h
    refine Ev_shift 1 (f := fun _ => some ((rem a l).map cv, tup o)) (fun k => ?_) (Ev_const rfl)
    rw [ddiref40_Seen.l0, if_neg (by rw [List.length_map]; omega), List.take_of_length_le (by omega)]
  | y :: r, i, h => by
    obtain ⟨hi, hx, hr⟩ := rd54 l i y r h
    have hlm : ((l.map cv).length : Int) = (l.length : Int) := by rw [List.length_map]
    have hi' : i < l.length := by rw [List.length_map] at hi; exact hi
    have hyi : l[i] = y := (drop_at h).2.1
    have ih := rseen_from l hl a o r (i + 1) hr
    have hlen : ((rem a (l.take i)).map cv).length < 733007751850 := by
      have := List.length_filter_le (fun x : S33 => !ea x.f0 a) (l.take i)
      rw [List.length_map]
      unfold rem
      rw [List.length_take] at this
      omega
    have hst : rem a (l.take (i + 1)) = if (!ea y.f0 a) = true then rem a (l.take i) ++ [y] else rem a (l.take i) := by
      rw [List.take_succ_eq_append_getElem hi', hyi]
      unfold rem
      rw [List.filter_append, List.filter_cons]
      split
      · rfl
      · simp
    have hne : (!((cv y).f0.f0 == a.f0) || (!((cv y).f0.f1 == a.f1) || (!((cv y).f0.f2 == a.f2)))) = !ea y.f0 a := by
      show (!(y.f0.f0 == a.f0) || (!(y.f0.f1 == a.f1) || (!(y.f0.f2 == a.f2)))) = _
      unfold ea
      cases y.f0.f0 == a.f0 <;> cases y.f0.f1 == a.f1 <;> cases y.f0.f2 == a.f2 <;> rfl
    rw [hst] at ih
    cases he : ea y.f0 a with
    | true =>
      rw [he] at hne ih
      refine Ev_shift 1 (fun k => ?_) ih
      rw [ddiref40_Seen.l0, hlm, if_pos (by omega), if_pos (by omega), hx, hne, next i l.length hi' (by omega)]
      rfl
    | false =>
      rw [he] at hne ih
      refine Ev_shift 1 (fun k => ?_) ih
      rw [ddiref40_Seen.l0, hlm, if_pos (by omega), if_pos (by omega), hx, hne, Bool.not_false, if_pos rfl, if_pos hlen, next i l.length hi' (by omega), if_pos rfl, List.map_append]
      rfl
theorem rseen_ev (l : List S33) (hl : l.length ≤ 733007751) (a : S28) : Ev (fun k => ddiref40_Seen.f k (l.map cv) a.f0 a.f1 a.f2) ((seenT l a).1.map cv, (seenT l a).2) := by
  unfold ddiref40_Seen.f seenT
  refine Ev.bind (rpend_ev l (by omega) a) ?_
  exact rseen_from l hl a (get a l) l 0 rfl
/-! ### Finish -/
def onB (t : Int) (x : S33) : Bool := decide (x.f3 > t)
def finT (l : List S33) (t : Int) : List S33 × List S33 := (l.filter (onB t), l.filter fun x => !onB t x)
theorem fin_len (l : List S33) (t : Int) (i : Nat) : ((l.take i).filter (onB t)).length ≤ l.length ∧ ((l.take i).filter fun x => !onB t x).length ≤ l.length := by
  have h1 := List.length_filter_le (onB t) (l.take i)
  have h2 := List.length_filter_le (fun x => !onB t x) (l.take i)
  rw [List.length_take] at h1 h2
  omega
theorem fin_from (l : List S33) (hl : l.length ≤ 733007751) (t : Int) : ∀ (r : List S33) (i : Nat), l.drop i = r → Ev (fun k => probe_Finish.l0 k t (finT (l.take i) t).1 (finT (l.take i) t).2 l (l.length : Int) (i : Int)) (finT l t)
  | [], i, h => by
    have := drop_end h
    refine Ev_shift 1 (f := fun _ => some (finT l t)) (fun k => ?_) (Ev_const rfl)
    rw [probe_Finish.l0, if_neg (by omega), List.take_of_length_le (by omega)]
  | y :: r, i, h => by
    obtain ⟨hi, hx, hr⟩ := rd33 l i y r h
    have hyi : l[i] = y := (drop_at h).2.1
    have ih := fin_from l hl t r (i + 1) hr
    have hlen := fin_len l t i
    rw [List.take_succ_eq_append_getElem hi, hyi] at ih
    unfold finT at ih ⊢
    simp only [List.filter_append, List.filter_cons, List.filter_nil] at ih
    refine Ev_shift 1 (fun k => ?_) ih
    rw [probe_Finish.l0, if_pos (by omega), if_pos (by omega), if_pos (by omega), hx, next i l.length hi (by omega)]
    by_cases hc : y.f3 > t
    · have hb : onB t y = true := decide_eq_true hc
      simp only [if_pos hc, if_pos (show (List.filter (onB t) (List.take i l)).length < 733007751850 by omega), hb, Bool.not_true, Bool.false_eq_true, if_true, if_false, List.append_nil]
    · have hb : onB t y = false := decide_eq_false hc
      simp only [if_neg hc, if_pos (show (List.filter (fun x => !onB t x) (List.take i l)).length < 733007751850 by omega), hb, Bool.not_false, Bool.false_eq_true, if_true, if_false, List.append_nil]
theorem fin_ev (l : List S33) (hl : l.length ≤ 733007751) (t : Int) : Ev (fun k => probe_Finish.f k l t) (finT l t) := by
  unfold probe_Finish.f
  exact fin_from l hl t l 0 rfl
theorem rfin_from (l : List S33) (hl : l.length ≤ 733007751) (t : Int) : ∀ (r : List S33) (i : Nat), l.drop i = r → Ev (fun k => ddiref40_Finish.l0 k (l.map cv) t ((finT (l.take i) t).1.map cv) ((finT (l.take i) t).2.map cv) (i : Int)) ((finT l t).1.map cv, (finT l t).2.map cv)
  | [], i, h => by
    have := drop_end h
    refine Ev_shift 1 (f := fun _ => some ((finT l t).1.map cv, (finT l t).2.map cv)) (fun k => ?_) (Ev_const rfl)
    rw [ddiref40_Finish.l0, if_neg (by rw [List.length_map]; omega), List.take_of_length_le (by omega)]
  | y :: r, i, h => by
    obtain ⟨hi, hx, hr⟩ := rd54 l i y r h
    have hlm : ((l.map cv).length : Int) = (l.length : Int) := by rw [List.length_map]
    have hi' : i < l.length := by rw [List.length_map] at hi; exact hi
    have hyi : l[i] = y := (drop_at h).2.1
    have ih := rfin_from l hl t r (i + 1) hr
    have hlen := fin_len l t i
    rw [List.take_succ_eq_append_getElem hi', hyi] at ih
    unfold finT at ih ⊢
    simp only [List.filter_append, List.filter_cons, List.filter_nil] at ih
    refine Ev_shift 1 (fun k => ?_) ih
    rw [ddiref40_Finish.l0, hlm, if_pos (by omega), if_pos (by omega), hx, next i l.length hi' (by omega), show (cv y).f3 = y.f3 from rfl]
    by_cases hc : y.f3 > t
    · have hb : onB t y = true := decide_eq_true hc
      simp only [if_pos hc, if_pos (show (List.map cv (List.filter (onB t) (List.take i l))).length < 733007751850 by rw [List.length_map]; omega), hb, Bool.not_true, Bool.false_eq_true, if_true, if_false, List.append_nil, List.map_append, List.map_cons, List.map_nil]
      rfl
    · have hb : onB t y = false := decide_eq_false hc
      simp only [if_neg hc, if_pos (show (List.map cv (List.filter (fun x => !onB t x) (List.take i l))).length < 733007751850 by rw [List.length_map]; omega), hb, Bool.not_false, Bool.false_eq_true, if_true, if_false, List.append_nil, List.map_append, List.map_cons, List.map_nil]
      rfl
theorem rfin_ev (l : List S33) (hl : l.length ≤ 733007751) (t : Int) : Ev (fun k => ddiref40_Finish.f k (l.map cv) t) ((finT l t).1.map cv, (finT l t).2.map cv) := by
  unfold ddiref40_Finish.f
  exact rfin_from l hl t l 0 rfl
end Go.Proofs.Ytioopjondjfchaa.Ma
namespace Go.Proofs.Ytioopjondjfchaa.Ma
open Go.RowKit Go.Proofs.YtioopjondjfchaaW.PrintWords Go.Proofs.YtioopjondjfchaaW.PrintLast Go.Proofs.YtioopjondjfchaaW.PrintMore Go.Proofs.Ytioopjondjfchaa.XP Go.Proofs.Ytioopjondjfchaa.QA Go.Proofs.Ytioopjondjfchaa.Cm
set_option linter.unusedVariables false
set_option linter.unusedSimpArgs false
end Go.Proofs.Ytioopjondjfchaa.Ma
namespace Go.Proofs.Ytioopjondjfchaa.Ma
open Go.RowKit Go.Proofs.YtioopjondjfchaaW.PrintWords Go.Proofs.YtioopjondjfchaaW.PrintLast Go.Proofs.YtioopjondjfchaaW.PrintMore Go.Proofs.Ytioopjondjfchaa.XP Go.Proofs.Ytioopjondjfchaa.QA Go.Proofs.Ytioopjondjfchaa.Cm
set_option linter.unusedVariables false
set_option linter.unusedSimpArgs false
theorem fit_ins (x : S33) (l : List S33) (hx : fit x) (hl : ∀ y ∈ l, fit y) : ∀ y ∈ ins x l, fit y := fun y hy => by
  rcases mem_ins x y l hy with rfl | h
  · exact hx
  · exact hl y h
theorem fit_get (l : List S33) (hl : ∀ y ∈ l, fit y) (a : S28) (y : S33) (h : get a l = some y) : fit y := hl y (List.mem_of_find?_eq_some h)
end Go.Proofs.Ytioopjondjfchaa.Ma
namespace Go.Proofs.Ytioopjondjfchaa.Ma
open Go.RowKit Go.Proofs.YtioopjondjfchaaW.PrintWords Go.Proofs.YtioopjondjfchaaW.PrintLast Go.Proofs.YtioopjondjfchaaW.PrintMore Go.Proofs.Ytioopjondjfchaa.XP Go.Proofs.Ytioopjondjfchaa.QA Go.Proofs.Ytioopjondjfchaa.Cm
set_option linter.unusedVariables false
set_option linter.unusedSimpArgs false
def Inv (l : List S33) : Prop := l.length ≤ 512 ∧ Srt l ∧ ∀ y ∈ l, fit y
theorem inv_filter (l : List S33) (h : Inv l) (q : S33 → Bool) : Inv (l.filter q) := by
  have := List.length_filter_le q l
  exact ⟨by have := h.1; omega, h.2.1.sublist List.filter_sublist, fun y hy => h.2.2 y (List.mem_filter.1 hy).1⟩
theorem j5_ev (acts : List S43) (l : List S33) (i : Int) (a : S28) (ih : Ev (fun k => ddilaw40_ProbePlays.l0 k acts l (l.map cv) (wrap64 (i + 1)) a.f0 a.f1 a.f2) true) : Ev (fun k => ddilaw40_ProbePlays.j5 k acts l (l.map cv) i (!true) a.f0 a.f1 a.f2) true :=
  Ev_shift 1 (fun k => by rw [ddilaw40_ProbePlays.j5, Bool.not_true, if_neg Bool.false_ne_true]) ih
theorem j4_ev (acts : List S43) (l : List S33) (hI : Inv l) (i : Int) (a : S28) (ih : Ev (fun k => ddilaw40_ProbePlays.l0 k acts l (l.map cv) (wrap64 (i + 1)) a.f0 a.f1 a.f2) true) : Ev (fun k => ddilaw40_ProbePlays.j4 k acts l (l.map cv) i a.f0 a.f1 a.f2) true := by
  obtain ⟨hl, hs, ok⟩ := hI
  have h5 := j5_ev acts l i a ih
  refine Ev_shift 1 (fun k => by rw [ddilaw40_ProbePlays.j4]) ?_
  refine Ev.bind (pend_ev l (by omega) hs a) ?_
  refine Ev.bind (rpend_ev l (by omega) a) ?_
  rw [bne_self_eq_false]
  simp only [Bool.false_eq_true, if_false]
  cases hg : get a l with
  | none => exact Ev.bind (same_ev ⟨⟨false, 0, 0⟩, ⟨#[]⟩, ⟨0, 0, 0, ⟨#[]⟩, ⟨false, 0, 0⟩, ⟨false, 0, 0⟩, ⟨false, 0, 0⟩, false, []⟩, 0⟩ (by simp [fit])) h5
  | some y => exact Ev.bind (same_ev y (fit_get l ok a y hg)) h5
theorem plays_from (acts : List S43) (hn : acts.length ≤ 40) (ok : ∀ x ∈ acts, okS43 x) (a : S28) : ∀ (r : List S43) (i : Nat) (l : List S33), acts.drop i = r → Inv l → Ev (fun k => ddilaw40_ProbePlays.l0 k acts l (l.map cv) (i : Int) a.f0 a.f1 a.f2) true
  | [], i, l, h, _ => by
    have := drop_end h
    exact Ev_shift 1 (f := fun _ => some true) (fun k => by rw [ddilaw40_ProbePlays.l0, if_neg (by omega)]) (Ev_const rfl)
  | x :: r, i, l, h, hI => by
    obtain ⟨hi, hx0, hr⟩ := drop_at h
    have hx : rd_T43 acts (i : Int) = x := by simp [rd_T43, List.getD_eq_getElem?_getD, List.getElem?_eq_getElem hi, hx0]
    have hxl : x ∈ acts := List.mem_of_mem_drop (i := i) (by rw [h]; exact List.mem_cons_self ..)
    have hp : x.f2.f8.length * 24 ≤ 140737488351232 := (ok x hxl).2.2.1.2.2.2.2.2.2.2.2.1
    have go : ∀ m : List S33, Inv m → Ev (fun k => ddilaw40_ProbePlays.j4 k acts m (m.map cv) (i : Int) a.f0 a.f1 a.f2) true := fun m hm => j4_ev acts m hm (i : Int) a (by
      rw [next i acts.length hi (by omega)]
      exact plays_from acts hn ok a r (i + 1) m hr hm)
    obtain ⟨hl, hs, okl⟩ := id hI
    have e0 : (i : Int) < (acts.length : Int) := by omega
    have e1 : (0 : Int) ≤ (i : Int) := by omega
    by_cases h2 : Int.tmod x.f0 4 = 2
    · refine Ev_shift 1 (fun k => by rw [ddilaw40_ProbePlays.l0, if_pos e0, if_pos e1, hx, if_pos h2]) ?_
      refine Ev.bind (seen_ev l (by omega) hs x.f1) ?_
      refine Ev.bind (rseen_ev l (by omega) x.f1) ?_
      unfold seenT
      rw [bne_self_eq_false]
      simp only [Bool.false_eq_true, if_false]
      have hI2 : Inv (rem x.f1 l) := inv_filter l hI _
      have h1 : Ev (fun k => ddilaw40_ProbePlays.j1 k acts (i : Int) (rem x.f1 l) ((rem x.f1 l).map cv) (!true) a.f0 a.f1 a.f2) true := Ev_shift 1 (fun k => by rw [ddilaw40_ProbePlays.j1, Bool.not_true, if_neg Bool.false_ne_true]) (go (rem x.f1 l) hI2)
      have ht : Ev (fun k => (ddilaw40_tables.f k (rem x.f1 l) ((rem x.f1 l).map cv)).bind fun t => ddilaw40_ProbePlays.j1 k acts (i : Int) (rem x.f1 l) ((rem x.f1 l).map cv) (!t) a.f0 a.f1 a.f2) true := Ev.bind (tab_ev (rem x.f1 l) (by have := hI2.1; omega) hI2.2.2) h1
      cases hg : get x.f1 l with
      | none =>
        refine Ev.bind (same_ev ⟨⟨false, 0, 0⟩, ⟨#[]⟩, ⟨0, 0, 0, ⟨#[]⟩, ⟨false, 0, 0⟩, ⟨false, 0, 0⟩, ⟨false, 0, 0⟩, false, []⟩, 0⟩ (by simp [fit])) ?_
        simp only [if_true]
        exact ht
      | some y =>
        refine Ev.bind (same_ev y (fit_get l okl x.f1 y hg)) ?_
        simp only [if_true]
        exact ht
    · by_cases h3 : Int.tmod x.f0 4 = 3
      · refine Ev_shift 1 (fun k => by rw [ddilaw40_ProbePlays.l0, if_pos e0, if_pos e1, hx, if_neg h2, if_pos h3]) ?_
        refine Ev.bind (fin_ev l (by omega) x.f3) ?_
        refine Ev.bind (rfin_ev l (by omega) x.f3) ?_
        have hA : Inv (l.filter (onB x.f3)) := inv_filter l hI _
        have hB : Inv (l.filter fun y => !onB x.f3 y) := inv_filter l hI _
        refine Ev.bind (a := true) (tab_ev (l.filter (onB x.f3)) (by have := hA.1; omega) hA.2.2) ?_
        simp only [if_true]
        refine Ev.bind (a := true) (tab_ev (l.filter fun y => !onB x.f3 y) (by have := hB.1; omega) hB.2.2) ?_
        exact Ev_shift 1 (fun k => by rw [ddilaw40_ProbePlays.j2, Bool.not_true, if_neg Bool.false_ne_true]; rfl) (go (l.filter (onB x.f3)) hA)
      · refine Ev_shift 1 (fun k => by rw [ddilaw40_ProbePlays.l0, if_pos e0, if_pos e1, hx, if_neg h2, if_neg h3]) ?_
        refine Ev.bind (start_ev l hl hs x.f1 x.f2 hp x.f3 x.f4) ?_
        refine Ev.bind (rstart_ev l hl x.f1 x.f2 x.f3 x.f4) ?_
        simp only [if_true]
        have hst : Inv (staT l x.f1 x.f2 x.f3 x.f4).1 := by
          have hnil : Inv [] := ⟨by simp, List.Pairwise.nil, fun y hy => absurd hy List.not_mem_nil⟩
          unfold staT
          split
          · cases hg : get x.f1 l with
            | some y => exact hnil
            | none =>
              simp only [Option.isSome_none, Bool.false_eq_true, if_false]
              split
              · exact hnil
              · split
                · exact hnil
                · have hm := ins_len (mk x.f1 x.f2 x.f3 x.f4) l
                  exact ⟨by show (ins _ l).length ≤ _; omega, srt_ins (mk x.f1 x.f2 x.f3 x.f4) l hs hg, fit_ins _ l (by unfold fit mk; show x.f2.f8.length ≤ _; omega) okl⟩
          · exact hnil
        refine Ev.bind (a := true) (tab_ev (staT l x.f1 x.f2 x.f3 x.f4).1 (by have := hst.1; omega) hst.2.2) ?_
        refine Ev_shift 1 (fun k => by rw [ddilaw40_ProbePlays.j3, Bool.not_true, if_neg Bool.false_ne_true]) ?_
        by_cases h0 : (staT l x.f1 x.f2 x.f3 x.f4).2 = 0
        · simp only [if_pos h0]
          exact go _ hst
        · simp only [if_neg h0]
          exact go l hI
theorem probePlays : ddilaw40_ProbePlays.Pure := by
  intro acts a0 a1 a2 ⟨hl, _, ok⟩ _
  refine Ev.rounds (?_ : Ev (fun k => ddilaw40_ProbePlays.f k acts a0 a1 a2) true)
  unfold ddilaw40_ProbePlays.f
  refine Ev.bind awake_ev ?_
  simp only [if_true]
  by_cases h : (acts.length : Int) > 40
  · simp only [if_pos h]
    exact Ev_const rfl
  · simp only [if_neg h]
    exact plays_from acts (by omega) ok ⟨a0, a1, a2⟩ acts 0 [] rfl ⟨by simp, List.Pairwise.nil, fun y hy => absurd hy List.not_mem_nil⟩
end Go.Proofs.Ytioopjondjfchaa.Ma
namespace Go.Proofs.Ytioopjondjfchaa.Pure
theorem ProbePlays : QA.ddilaw40_ProbePlays.Pure := Ma.probePlays
end Go.Proofs.Ytioopjondjfchaa.Pure
