/- after Start the probe is pending, other addresses are unchanged, and Seen gives the table before: the pure statement of ProbeStarts (no condition but the sizes that every argument has). -/
import Derived.Test.YtioopjondjfchaaQAd1
import Derived.Test.YtioopjondjfchaaXP
import Derived.Test.YtioopjondjfchaaQAd3
import Derived.Test.YtioopjondjfchaaQAd2
namespace Go.Proofs.Ytioopjondjfchaa.Cm
open Go.RowKit Go.Proofs.YtioopjondjfchaaW.PrintWords Go.Proofs.YtioopjondjfchaaW.PrintLast Go.Proofs.YtioopjondjfchaaW.PrintMore Go.Proofs.Ytioopjondjfchaa.XP Go.Proofs.Ytioopjondjfchaa.QA
set_option linter.unusedVariables false
set_option linter.unusedSimpArgs false
def ea (a x : S28) : Bool := a.f0 == x.f0 && (a.f1 == x.f1 && (a.f2 == x.f2))
theorem ea_iff (a x : S28) : ea a x = true ↔ a = x := by
  obtain ⟨a0, a1, a2⟩ := a
  obtain ⟨x0, x1, x2⟩ := x
  simp [ea]
theorem ea_self (a : S28) : ea a a = true := (ea_iff a a).2 rfl
theorem ea_ne (a x : S28) : ea a x = false ↔ a ≠ x := by
  rw [← Bool.not_eq_true, ea_iff]
def cmp (a b : S28) : Int := if (a.f0 != b.f0) = true then (if b.f0 = true then -1 else 1) else (if a.f1 = b.f1 then (if a.f2 < b.f2 then -1 else (if a.f2 > b.f2 then 1 else 0)) else (if a.f1 < b.f1 then -1 else 1))
theorem num (a b : Int) : addr_number.f a b = some (if a < b then -1 else (if a > b then 1 else 0)) := by
  unfold addr_number.f
  repeat' split
  all_goals rfl
theorem ucmp (a b : S28) : Ev (fun k => addr_Compare.f k a.f0 a.f1 a.f2 b.f0 b.f1 b.f2) (cmp a b) := by
  refine Ev_shift 1 (f := fun _ => some (cmp a b)) (fun k => ?_) (Ev_const rfl)
  unfold addr_Compare.f addr_Compare.j0 cmp
  simp only [num]
  cases h0 : a.f0 <;> cases h1 : b.f0 <;> simp
  all_goals
    by_cases h : a.f1 = b.f1
    · simp [h]
    · simp only [h, if_false]
      by_cases h2 : a.f1 < b.f1
      · simp [h2]
      · simp [h2]
        omega
theorem cmp_zero (a b : S28) : cmp a b = 0 ↔ a = b := by
  obtain ⟨a0, a1, a2⟩ := a
  obtain ⟨b0, b1, b2⟩ := b
  simp only [cmp, S28.mk.injEq]
  cases a0 <;> cases b0 <;> simp <;> repeat' split
  all_goals omega
theorem cmp_self (a : S28) : cmp a a = 0 := (cmp_zero a a).2 rfl
theorem cmp_flip (a b : S28) : cmp b a = -cmp a b := by
  obtain ⟨a0, a1, a2⟩ := a
  obtain ⟨b0, b1, b2⟩ := b
  simp only [cmp]
  cases a0 <;> cases b0 <;> simp <;> repeat' split
  all_goals omega
theorem cmp_trans {a b c : S28} : cmp a b < 0 → cmp b c < 0 → cmp a c < 0 := by
  obtain ⟨a0, a1, a2⟩ := a
  obtain ⟨b0, b1, b2⟩ := b
  obtain ⟨c0, c1, c2⟩ := c
  simp only [cmp]
  cases a0 <;> cases b0 <;> cases c0 <;> simp <;> repeat' split
  all_goals omega
end Go.Proofs.Ytioopjondjfchaa.Cm
namespace Go.Proofs.Ytioopjondjfchaa.Ma
open Go.RowKit Go.Proofs.YtioopjondjfchaaW.PrintWords Go.Proofs.YtioopjondjfchaaW.PrintLast Go.Proofs.YtioopjondjfchaaW.PrintMore Go.Proofs.Ytioopjondjfchaa.XP Go.Proofs.Ytioopjondjfchaa.QA Go.Proofs.Ytioopjondjfchaa.Cm
set_option linter.unusedVariables false
set_option linter.unusedSimpArgs false
def adB (x : S28) : Bool := x.f0 || (decide (x.f1 = 0) && decide (x.f2 ≤ 4294967295))
theorem ad_v (x : S28) : addr_Valid.f x.f0 x.f1 x.f2 = some (adB x) := by
  unfold addr_Valid.f adB
  by_cases h : x.f0 = true
  · rw [if_pos h, h]; rfl
  · have : x.f0 = false := by simpa using h
    rw [if_neg h, this, Bool.false_or]
    by_cases h1 : x.f1 = 0
    · rw [if_pos h1, decide_eq_true h1, Bool.true_and]
    · rw [if_neg h1, decide_eq_false h1]; rfl
/-- The same probe, as the reference has it. -/
def cv (x : S33) : S54 := ⟨x.f0, x.f1, x.f2, x.f3⟩
theorem rd33 (l : List S33) (i : Nat) (x : S33) (r : List S33) (h : l.drop i = x :: r) : i < l.length ∧ rd_T33 l (i : Int) = x ∧ l.drop (i + 1) = r := by
  obtain ⟨hi, hx, hr⟩ := drop_at h
  refine ⟨hi, ?_, hr⟩
  simp [rd_T33, List.getD_eq_getElem?_getD, List.getElem?_eq_getElem hi, hx]
theorem rd54 (l : List S33) (i : Nat) (x : S33) (r : List S33) (h : l.drop i = x :: r) : i < (l.map cv).length ∧ rd_T54 (l.map cv) (i : Int) = cv x ∧ l.drop (i + 1) = r := by
  obtain ⟨hi, hx, hr⟩ := drop_at h
  refine ⟨by rw [List.length_map]; exact hi, ?_, hr⟩
  simp [rd_T54, List.getD_eq_getElem?_getD, List.getElem?_eq_getElem hi, hx]
theorem rdAt (l : List S33) (q : Nat) (h : q < l.length) : rd_T33 l (q : Int) = l[q] := by
  simp [rd_T33, List.getD_eq_getElem?_getD, List.getElem?_eq_getElem h]
theorem model_from (l : List S33) (hl : l.length ≤ 600) : ∀ (r : List S33) (i : Nat), l.drop i = r → Ev (fun k => ddilaw40_model.l0 k l ((l.take i).map cv) (i : Int)) (l.map cv)
  | [], i, h => by
    have := drop_end h
    refine Ev_shift 1 (f := fun _ => some (l.map cv)) (fun k => ?_) (Ev_const rfl)
    rw [ddilaw40_model.l0, if_neg (by omega), List.take_of_length_le (by omega)]
  | x :: r, i, h => by
    obtain ⟨hi, hx, hr⟩ := rd33 l i x r h
    have ih := model_from l hl r (i + 1) hr
    have hlen : ((l.take i).map cv).length < 733007751850 := by rw [List.length_map, List.length_take]; omega
    refine Ev_shift 1 (fun k => ?_) ih
    rw [ddilaw40_model.l0, if_pos (by omega), if_pos (by omega), if_pos hlen, next i l.length hi (by omega), hx]
    have hx2 : l[i] = x := by rw [← rdAt l i hi]; exact hx
    rw [List.take_succ_eq_append_getElem hi, List.map_append, hx2]
    rfl
theorem model_ev (l : List S33) (hl : l.length ≤ 600) : Ev (fun k => ddilaw40_model.f k l) (l.map cv) := by
  unfold ddilaw40_model.f
  exact model_from l hl l 0 rfl
def upB : Option S28 → S28 → Bool
  | none, _ => true
  | some p, a => decide (cmp p a < 0)
def chk (p : Option S28) : List S33 → Int
  | [] => 0
  | x :: r => if adB x.f0 = true then (if upB p x.f0 = true then chk (some x.f0) r else 7) else 3
theorem check_from (l : List S33) (hl : l.length ≤ 140737488351232) : ∀ (r : List S33) (i : Nat) (p : Option S28), l.drop i = r → (i = 0 → p = none) → (∀ j : Nat, i = j + 1 → p = some (rd_T33 l (j : Int)).f0) → Ev (fun k => probe_Check.l0 k l l (l.length : Int) (i : Int)) (chk p r)
  | [], i, p, h, _, _ => by
    have := drop_end h
    exact Ev_shift 1 (f := fun _ => some 0) (fun k => by rw [probe_Check.l0, if_neg (by omega)]) (Ev_const rfl)
  | x :: r, i, p, h, hp0, hp1 => by
    obtain ⟨hi, hx, hr⟩ := rd33 l i x r h
    have ih := check_from l hl r (i + 1) (some x.f0) hr (fun e => by omega) (fun j e => by
      have : j = i := by omega
      rw [this, hx])
    rw [← next i l.length hi (by omega)] at ih
    unfold chk
    cases had : adB x.f0 with
    | false => exact Ev_shift 1 (f := fun _ => some 3) (fun k => by rw [probe_Check.l0, if_pos (by omega), if_pos (by omega), if_pos (by omega), hx, ad_v, had]; rfl) (Ev_const rfl)
    | true =>
      rw [if_pos rfl]
      have h1 : ∀ b : Bool, b = !upB p x.f0 → Ev (fun k => probe_Check.j1 k l l (l.length : Int) (i : Int) b) (if upB p x.f0 = true then chk (some x.f0) r else 7) := by
        rintro b rfl
        cases upB p x.f0 with
        | false => exact Ev_shift 1 (f := fun _ => some 7) (fun k => by rw [probe_Check.j1, Bool.not_false, if_pos rfl]) (Ev_const rfl)
        | true => exact Ev_shift 1 (fun k => by rw [probe_Check.j1, Bool.not_true, if_neg Bool.false_ne_true]) ih
      cases i with
      | zero =>
        refine Ev_shift 1 (fun k => by rw [probe_Check.l0, if_pos (by omega), if_pos (by omega), if_pos (by omega), hx, ad_v, had, Option.bind_some, if_pos rfl, if_neg (by omega)]) ?_
        exact h1 false (by rw [hp0 rfl]; rfl)
      | succ j =>
        have hpj := hp1 j rfl
        have hj : (wrap64 (((j + 1 : Nat) : Int) - 1)) = (j : Int) := by rw [wrap_id (by omega) (by omega)]; omega
        have e0 : (0 : Int) ≤ (j : Int) := by omega
        have e1 : (j : Int) < (l.length : Int) := by omega
        have e2 : ((j + 1 : Nat) : Int) > 0 := by omega
        refine Ev_shift 1 (fun k => by rw [probe_Check.l0, if_pos (by omega), if_pos (by omega), if_pos (by omega), hx, ad_v, had, Option.bind_some, if_pos rfl, if_pos e2, hj, if_pos e0, if_pos e1]) ?_
        refine Ev.bind (ucmp (rd_T33 l (j : Int)).f0 x.f0) ?_
        refine h1 _ ?_
        rw [hpj]
        unfold upB
        rw [Bool.eq_iff_iff]
        simp
/-- The check of a table. -/
def chkT (l : List S33) : Int := if l.length > 512 then 9 else chk none l
theorem check_ev (l : List S33) (hl : l.length ≤ 140737488351232) : Ev (fun k => probe_Check.f k l) (chkT l) := by
  unfold probe_Check.f chkT
  by_cases h : l.length > 512
  · simp only [if_pos h, if_pos (show (l.length : Int) > 512 by omega)]
    exact Ev_const rfl
  · simp only [if_neg h, if_neg (show ¬ (l.length : Int) > 512 by omega)]
    exact check_from l hl l 0 none rfl (fun _ => rfl) (fun j e => by omega)
end Go.Proofs.Ytioopjondjfchaa.Ma
namespace Go.Proofs.Ytioopjondjfchaa.Ma
open Go.RowKit Go.Proofs.YtioopjondjfchaaW.PrintWords Go.Proofs.YtioopjondjfchaaW.PrintLast Go.Proofs.YtioopjondjfchaaW.PrintMore Go.Proofs.Ytioopjondjfchaa.XP Go.Proofs.Ytioopjondjfchaa.QA Go.Proofs.Ytioopjondjfchaa.Cm
set_option linter.unusedVariables false
set_option linter.unusedSimpArgs false
def Srt (l : List S33) : Prop := l.Pairwise fun x y => cmp x.f0 y.f0 < 0
theorem chk_srt : ∀ (l : List S33) (p : Option S28), chk p l = 0 → (∀ q, p = some q → ∀ x ∈ l, cmp q x.f0 < 0) ∧ Srt l ∧ ∀ x ∈ l, adB x.f0 = true
  | [], p, _ => ⟨fun _ _ x hx => absurd hx List.not_mem_nil, List.Pairwise.nil, fun x hx => absurd hx List.not_mem_nil⟩
  | x :: r, p, h => by
    unfold chk at h
    split at h
    · split at h
      · rename_i h1 h2
        obtain ⟨i1, i2, i3⟩ := chk_srt r (some x.f0) h
        refine ⟨?_, List.pairwise_cons.2 ⟨fun y hy => i1 _ rfl y hy, i2⟩, fun y hy => ?_⟩
        · rintro q rfl y hy
          have hq : cmp q x.f0 < 0 := of_decide_eq_true h2
          rcases List.mem_cons.1 hy with rfl | hy
          · exact hq
          · exact cmp_trans hq (i1 _ rfl y hy)
        · rcases List.mem_cons.1 hy with rfl | hy
          · exact h1
          · exact i3 y hy
      · cases h
    · cases h
theorem srt_chk : ∀ (l : List S33) (p : Option S28), (∀ q, p = some q → ∀ x ∈ l, cmp q x.f0 < 0) → Srt l → (∀ x ∈ l, adB x.f0 = true) → chk p l = 0
  | [], p, _, _, _ => rfl
  | x :: r, p, h1, h2, h3 => by
    obtain ⟨g1, g2⟩ := List.pairwise_cons.1 h2
    unfold chk
    rw [if_pos (h3 x (List.mem_cons_self ..))]
    have hu : upB p x.f0 = true := by
      cases p with
      | none => rfl
      | some q => exact decide_eq_true (h1 q rfl x (List.mem_cons_self ..))
    rw [if_pos hu]
    exact srt_chk r (some x.f0) (fun q hq y hy => by injection hq with hq; subst hq; exact g1 y hy) g2 (fun y hy => h3 y (List.mem_cons_of_mem _ hy))
theorem chkT_zero (l : List S33) (h : chkT l = 0) : l.length ≤ 512 ∧ Srt l ∧ ∀ x ∈ l, adB x.f0 = true := by
  unfold chkT at h
  split at h
  · cases h
  · exact ⟨by omega, (chk_srt l none h).2⟩
theorem chkT_of (l : List S33) (hl : l.length ≤ 512) (hs : Srt l) (ha : ∀ x ∈ l, adB x.f0 = true) : chkT l = 0 := by
  unfold chkT
  rw [if_neg (by omega)]
  exact srt_chk l none (fun q hq => by cases hq) hs ha
def pos (a : S28) : List S33 → Nat
  | [] => 0
  | x :: r => if cmp x.f0 a < 0 then pos a r + 1 else 0
theorem pos_le (a : S28) : ∀ l : List S33, pos a l ≤ l.length
  | [] => Nat.le_refl _
  | x :: r => by
    have := pos_le a r
    unfold pos
    split
    · simp; omega
    · simp
theorem pos_iff (a : S28) : ∀ (l : List S33) (_ : Srt l) (q : Nat) (h : q < l.length), cmp (l[q]).f0 a < 0 ↔ q < pos a l
  | [], _, q, h => by simp at h
  | x :: r, hs, q, h => by
    obtain ⟨h1, h2⟩ := List.pairwise_cons.1 hs
    unfold pos
    cases q with
    | zero =>
      simp only [List.getElem_cons_zero]
      split
      · rename_i hc; exact ⟨fun _ => by omega, fun _ => hc⟩
      · rename_i hc; exact ⟨fun h => absurd h hc, fun h => absurd h (by omega)⟩
    | succ q =>
      simp only [List.getElem_cons_succ]
      have hq : q < r.length := by simpa using h
      have ih := pos_iff a r h2 q hq
      split
      · rw [ih]; omega
      · rename_i hc
        exact ⟨fun h => absurd (cmp_trans (h1 _ (List.getElem_mem hq)) h) hc, fun h => absurd h (by omega)⟩
def get (a : S28) (l : List S33) : Option S33 := l.find? fun x => ea x.f0 a
theorem get_none_of_gt (a : S28) (x : S33) : ∀ r : List S33, (∀ y ∈ r, cmp x.f0 y.f0 < 0) → ¬ cmp x.f0 a < 0 → get a r = none := by
  intro r h hn
  unfold get
  rw [List.find?_eq_none]
  intro y hy he
  have := (ea_iff _ _).1 he
  have h1 := h y hy
  rw [this] at h1
  exact hn h1
theorem get_pos (a : S28) : ∀ (l : List S33), Srt l → get a l = match l[pos a l]? with | some x => if ea x.f0 a = true then some x else none | none => none
  | [], _ => rfl
  | x :: r, hs => by
    obtain ⟨h1, h2⟩ := List.pairwise_cons.1 hs
    have ih := get_pos a r h2
    by_cases hc : cmp x.f0 a < 0
    · have he : ea x.f0 a = false := by
        rw [ea_ne]
        intro e
        rw [e, cmp_self] at hc
        omega
      have hp : pos a (x :: r) = pos a r + 1 := by rw [pos, if_pos hc]
      rw [hp, List.getElem?_cons_succ, ← ih]
      unfold get
      rw [List.find?_cons, he]
    · have hp : pos a (x :: r) = 0 := by rw [pos, if_neg hc]
      rw [hp, List.getElem?_cons_zero]
      have hr := get_none_of_gt a x r h1 hc
      unfold get at hr ⊢
      rw [List.find?_cons]
      cases he : ea x.f0 a with
      | true => simp only [he, if_true]
      | false => simp only [hr, he, Bool.false_eq_true, if_false]
theorem mid (i j : Nat) (h : i + j ≤ 1000000000000000) : wrap64 ((IntKind.u64.wrap (wrap64 ((i : Int) + (j : Int)))) / 2) = (((i + j) / 2 : Nat) : Int) := by
  rw [wrap_id (x := (i : Int) + (j : Int)) (by omega) (by omega), IntKind.wrap_u64]
  rw [wrap_id (by omega) (by omega)]
  omega
theorem pl1 (x : S33) (a : S28) : Ev (fun k => probe_find_1.f k x.f0.f0 x.f0.f1 x.f0.f2 x.f1 x.f2.f0 x.f2.f1 x.f2.f2 x.f2.f3 x.f2.f4.f0 x.f2.f4.f1 x.f2.f4.f2 x.f2.f5.f0 x.f2.f5.f1 x.f2.f5.f2 x.f2.f6.f0 x.f2.f6.f1 x.f2.f6.f2 x.f2.f7 x.f2.f8 x.f3 a.f0 a.f1 a.f2) (cmp x.f0 a) := by
  unfold probe_find_1.f
  exact Ev.bind (ucmp x.f0 a) (Ev_const rfl)
theorem wnext (q : Nat) (h : q ≤ 1000000000000000) : wrap64 ((q : Int) + 1) = ((q + 1 : Nat) : Int) := by
  rw [wrap_id (by omega) (by omega)]
  omega
theorem bs_from (l : List S33) (hl : l.length ≤ 140737488351232) (hs : Srt l) (a : S28) : ∀ (d i j : Nat), j - i ≤ d → i ≤ pos a l → pos a l ≤ j → j ≤ l.length → Ev (fun k => slices_BinarySearchFunc_34.l0 k l (l.length : Int) (i : Int) (j : Int) a.f0 a.f1 a.f2) ((pos a l : Int), (get a l).isSome)
  | d, i, j, hd, hi, hj, hjl => by
    by_cases hij : i < j
    · have hm : (i + j) / 2 < l.length := by omega
      have e0 : (i : Int) < (j : Int) := by omega
      have e1 : (0 : Int) ≤ (((i + j) / 2 : Nat) : Int) := by omega
      have e2 : (((i + j) / 2 : Nat) : Int) < (l.length : Int) := by omega
      have hmw := mid i j (by omega)
      have hpi := pos_iff a l hs ((i + j) / 2) hm
      have hwn := wnext ((i + j) / 2) (by omega)
      cases d with
      | zero => exact absurd hd (by omega)
      | succ d =>
        have ihl : ((i + j) / 2 < pos a l) → Ev (fun k => slices_BinarySearchFunc_34.l0 k l (l.length : Int) (((i + j) / 2 + 1 : Nat) : Int) (j : Int) a.f0 a.f1 a.f2) ((pos a l : Int), (get a l).isSome) := fun h => bs_from l hl hs a d _ j (by clear hmw hwn; omega) (by clear hmw hwn; omega) hj hjl
        have ihr : ¬ ((i + j) / 2 < pos a l) → Ev (fun k => slices_BinarySearchFunc_34.l0 k l (l.length : Int) (i : Int) (((i + j) / 2 : Nat) : Int) a.f0 a.f1 a.f2) ((pos a l : Int), (get a l).isSome) := fun h => bs_from l hl hs a d i _ (by clear hmw hwn; omega) hi (by clear hmw hwn; omega) (by clear hmw hwn; omega)
        refine Ev_shift 1 (fun k => by rw [slices_BinarySearchFunc_34.l0, if_pos e0, hmw, if_pos e1, if_pos e2, rdAt l _ hm]) ?_
        refine Ev.bind (pl1 (l[(i + j) / 2]) a) ?_
        by_cases hc : cmp (l[(i + j) / 2]).f0 a < 0
        · simp only [if_pos hc, hwn]
          exact ihl (hpi.1 hc)
        · simp only [if_neg hc]
          exact ihr (fun h => hc (hpi.2 h))
    · have hip : pos a l = i := by omega
      have e0 : ¬ (i : Int) < (j : Int) := by omega
      rw [get_pos a l hs, hip]
      by_cases hil : i < l.length
      · have e1 : (i : Int) < (l.length : Int) := by omega
        have e2 : (0 : Int) ≤ (i : Int) := by omega
        refine Ev_shift 1 (fun k => by rw [slices_BinarySearchFunc_34.l0, if_neg e0, if_pos e1, if_pos e2, if_pos e1, rdAt l _ hil]) ?_
        refine Ev.bind (pl1 (l[i]) a) (Ev_const ?_)
        rw [List.getElem?_eq_getElem hil]
        congr 2
        show (cmp (l[i]).f0 a == 0) = _
        simp only []
        cases he : ea (l[i]).f0 a with
        | true =>
          rw [(ea_iff _ _).1 he, cmp_self]
          rfl
        | false =>
          have := (ea_ne _ _).1 he
          have h0 : ¬ cmp (l[i]).f0 a = 0 := fun h => this ((cmp_zero _ _).1 h)
          simpa using h0
      · have e1 : ¬ (i : Int) < (l.length : Int) := by omega
        refine Ev_shift 1 (f := fun _ => some ((i : Int), false)) (fun k => by rw [slices_BinarySearchFunc_34.l0, if_neg e0, if_neg e1]) (Ev_const ?_)
        rw [List.getElem?_eq_none (by omega)]
        rfl
theorem place_ev (l : List S33) (hl : l.length ≤ 140737488351232) (hs : Srt l) (a : S28) : Ev (fun k => probe_find.f k l a.f0 a.f1 a.f2) ((pos a l : Int), (get a l).isSome) := by
  unfold probe_find.f slices_BinarySearchFunc_34.f
  exact Ev.bind (bs_from l hl hs a l.length 0 l.length (by omega) (by omega) (pos_le a l) (Nat.le_refl _)) (Ev_const rfl)
theorem get_at (l : List S33) (hs : Srt l) (a : S28) : ((get a l).isSome = false ∧ get a l = none) ∨ (∃ h : pos a l < l.length, get a l = some l[pos a l] ∧ l[pos a l].f0 = a) := by
  have hg := get_pos a l hs
  by_cases hp : pos a l < l.length
  · rw [List.getElem?_eq_getElem hp] at hg
    simp only [] at hg
    split at hg
    · rename_i he
      exact .inr ⟨hp, hg, (ea_iff _ _).1 he⟩
    · exact .inl ⟨by rw [hg]; rfl, hg⟩
  · rw [List.getElem?_eq_none (by omega)] at hg
    exact .inl ⟨by rw [hg]; rfl, hg⟩
/-- A found probe as Pending hands it back. -/
def tup : Option S33 → Bool × Int × Int × ByteArray × Int × Int × Int × ByteArray × Bool × Int × Int × Bool × Int × Int × Bool × Int × Int × Bool × List S70 × Int × Bool
  | some x => (x.f0.f0, x.f0.f1, x.f0.f2, x.f1, x.f2.f0, x.f2.f1, x.f2.f2, x.f2.f3, x.f2.f4.f0, x.f2.f4.f1, x.f2.f4.f2, x.f2.f5.f0, x.f2.f5.f1, x.f2.f5.f2, x.f2.f6.f0, x.f2.f6.f1, x.f2.f6.f2, x.f2.f7, x.f2.f8, x.f3, true)
  | none => (false, 0, 0, ⟨#[]⟩, 0, 0, 0, ⟨#[]⟩, false, 0, 0, false, 0, 0, false, 0, 0, false, [], 0, false)
theorem pend_ev (l : List S33) (hl : l.length ≤ 140737488351232) (hs : Srt l) (a : S28) : Ev (fun k => probe_Pending.f k l a.f0 a.f1 a.f2) (tup (get a l)) := by
  unfold probe_Pending.f
  refine Ev.bind (place_ev l hl hs a) ?_
  rcases get_at l hs a with ⟨_, hg⟩ | ⟨hp, hg, _⟩
  · rw [hg]
    exact Ev_const rfl
  · rw [hg]
    simp only [Option.isSome_some, if_true, if_pos (show (0 : Int) ≤ (pos a l : Int) by omega), if_pos (show (pos a l : Int) < (l.length : Int) by omega), rdAt l _ hp]
    exact Ev_const rfl
end Go.Proofs.Ytioopjondjfchaa.Ma
namespace Go.Proofs.Ytioopjondjfchaa.Ma
open Go.RowKit Go.Proofs.YtioopjondjfchaaW.PrintWords Go.Proofs.YtioopjondjfchaaW.PrintLast Go.Proofs.YtioopjondjfchaaW.PrintMore Go.Proofs.Ytioopjondjfchaa.XP Go.Proofs.Ytioopjondjfchaa.QA Go.Proofs.Ytioopjondjfchaa.Cm
set_option linter.unusedVariables false
set_option linter.unusedSimpArgs false
/-- Of a size that a machine has. -/
def fit (x : S33) : Prop := x.f2.f8.length ≤ 140737488351232
theorem pk_from (a : S31) (hl : a.f8.length ≤ 140737488351232) : ∀ (d i : Nat), a.f8.length - i ≤ d → i ≤ a.f8.length → Ev (fun k => ddilaw40_packets.l0 k (i : Int) a.f0 a.f1 a.f2 a.f3 a.f4.f0 a.f4.f1 a.f4.f2 a.f5.f0 a.f5.f1 a.f5.f2 a.f6.f0 a.f6.f1 a.f6.f2 a.f7 a.f8 a.f0 a.f1 a.f2 a.f3 a.f4.f0 a.f4.f1 a.f4.f2 a.f5.f0 a.f5.f1 a.f5.f2 a.f6.f0 a.f6.f1 a.f6.f2 a.f7 a.f8) true
  | d, i, hd, hi => by
    by_cases h : i < a.f8.length
    · cases d with
      | zero => exact absurd hd (by omega)
      | succ d =>
        have ih := pk_from a hl d (i + 1) (by omega) h
        refine Ev_shift 1 (fun k => ?_) ih
        rw [ddilaw40_packets.l0, if_pos (by omega), if_pos (by omega), if_pos (by omega), if_neg (by simp), next i a.f8.length h (by omega)]
    · exact Ev_shift 1 (f := fun _ => some true) (fun k => by rw [ddilaw40_packets.l0, if_neg (by omega)]) (Ev_const rfl)
theorem pk_ev (a : S31) (hl : a.f8.length ≤ 140737488351232) : Ev (fun k => ddilaw40_packets.f k a.f0 a.f1 a.f2 a.f3 a.f4.f0 a.f4.f1 a.f4.f2 a.f5.f0 a.f5.f1 a.f5.f2 a.f6.f0 a.f6.f1 a.f6.f2 a.f7 a.f8 a.f0 a.f1 a.f2 a.f3 a.f4.f0 a.f4.f1 a.f4.f2 a.f5.f0 a.f5.f1 a.f5.f2 a.f6.f0 a.f6.f1 a.f6.f2 a.f7 a.f8) true := by
  unfold ddilaw40_packets.f
  simp only [if_true, beq_self_eq_true, Bool.not_true, Bool.or_self, Bool.false_eq_true, if_false, bne_self_eq_false]
  exact Ev_shift 1 (fun k => by rw [ddilaw40_packets.j0, if_neg Bool.false_ne_true]; rfl) (pk_from a hl a.f8.length 0 (by omega) (by omega))
theorem same_ev (x : S33) (hl : fit x) : Ev (fun k => ddilaw40_same.f k x.f0.f0 x.f0.f1 x.f0.f2 x.f1 x.f2.f0 x.f2.f1 x.f2.f2 x.f2.f3 x.f2.f4.f0 x.f2.f4.f1 x.f2.f4.f2 x.f2.f5.f0 x.f2.f5.f1 x.f2.f5.f2 x.f2.f6.f0 x.f2.f6.f1 x.f2.f6.f2 x.f2.f7 x.f2.f8 x.f3 x.f0.f0 x.f0.f1 x.f0.f2 x.f1 x.f2.f0 x.f2.f1 x.f2.f2 x.f2.f3 x.f2.f4.f0 x.f2.f4.f1 x.f2.f4.f2 x.f2.f5.f0 x.f2.f5.f1 x.f2.f5.f2 x.f2.f6.f0 x.f2.f6.f1 x.f2.f6.f2 x.f2.f7 x.f2.f8 x.f3) true := by
  unfold ddilaw40_same.f
  simp only [if_true, beq_self_eq_true, Bool.and_self]
  exact Ev.bind (pk_ev x.f2 hl) (Ev_const rfl)
theorem tab_from (l : List S33) (hl : l.length ≤ 140737488351232) (ok : ∀ x ∈ l, fit x) : ∀ (r : List S33) (i : Nat), l.drop i = r → Ev (fun k => ddilaw40_tables.l0 k l (l.map cv) (i : Int)) true
  | [], i, h => by
    have := drop_end h
    exact Ev_shift 1 (f := fun _ => some true) (fun k => by rw [ddilaw40_tables.l0, if_neg (by omega)]) (Ev_const rfl)
  | x :: r, i, h => by
    obtain ⟨hi, hx, hr⟩ := rd33 l i x r h
    obtain ⟨_, hx5, _⟩ := rd54 l i x r h
    have hxl : x ∈ l := List.mem_of_mem_drop (i := i) (by rw [h]; exact List.mem_cons_self ..)
    have ih := tab_from l hl ok r (i + 1) hr
    have hlm : ((l.map cv).length : Int) = (l.length : Int) := by rw [List.length_map]
    refine Ev_shift 1 (fun k => by rw [ddilaw40_tables.l0, hlm, if_pos (by omega), if_pos (by omega), if_pos (by omega), hx, hx5, next i l.length hi (by omega)]) ?_
    refine Ev.bind (a := true) (same_ev x (ok x hxl)) ?_
    simp only [if_true]
    exact ih
theorem tab_ev (l : List S33) (hl : l.length ≤ 140737488351232) (ok : ∀ x ∈ l, fit x) : Ev (fun k => ddilaw40_tables.f k l (l.map cv)) true := by
  unfold ddilaw40_tables.f
  have hlm : ((l.map cv).length : Int) = (l.length : Int) := by rw [List.length_map]
  simp only [hlm, if_true]
  exact tab_from l hl ok l 0 rfl
/-! ### Start -/
def ins (x : S33) : List S33 → List S33
  | [] => [x]
  | y :: r => if cmp y.f0 x.f0 < 0 then y :: ins x r else x :: y :: r
theorem ins_eq (x : S33) : ∀ l : List S33, ins x l = l.take (pos x.f0 l) ++ [x] ++ l.drop (pos x.f0 l)
  | [] => rfl
  | y :: r => by
    unfold ins pos
    split
    · rw [ins_eq x r]; rfl
    · rfl
theorem ins_len (x : S33) (l : List S33) : (ins x l).length = l.length + 1 := by
  have := pos_le x.f0 l
  rw [ins_eq, List.length_append, List.length_append, List.length_take, List.length_drop]
  simp
  omega
theorem mem_ins (x y : S33) : ∀ l : List S33, y ∈ ins x l → y = x ∨ y ∈ l
  | [], h => .inl (by simpa [ins] using h)
  | z :: r, h => by
    unfold ins at h
    split at h
    · rcases List.mem_cons.1 h with rfl | h
      · exact .inr (List.mem_cons_self ..)
      · rcases mem_ins x y r h with h | h
        · exact .inl h
        · exact .inr (List.mem_cons_of_mem _ h)
    · rcases List.mem_cons.1 h with rfl | h
      · exact .inl rfl
      · exact .inr h
theorem srt_ins (x : S33) : ∀ l : List S33, Srt l → get x.f0 l = none → Srt (ins x l)
  | [], _, _ => by unfold ins; exact List.pairwise_singleton _ _
  | y :: r, hs, hg => by
    obtain ⟨h1, h2⟩ := List.pairwise_cons.1 hs
    have hy : ea y.f0 x.f0 = false := by
      unfold get at hg
      have := List.find?_eq_none.1 hg y (List.mem_cons_self ..)
      simpa using this
    have hgr : get x.f0 r = none := by
      unfold get at hg ⊢
      rw [List.find?_cons, hy] at hg
      exact hg
    unfold ins
    split
    · rename_i hc
      refine List.pairwise_cons.2 ⟨fun z hz => ?_, srt_ins x r h2 hgr⟩
      rcases mem_ins x z r hz with rfl | hz
      · exact hc
      · exact h1 z hz
    · rename_i hc
      have hxy : cmp x.f0 y.f0 < 0 := by
        have h0 : ¬ cmp y.f0 x.f0 = 0 := fun h => (ea_ne _ _).1 hy ((cmp_zero _ _).1 h)
        have := cmp_flip y.f0 x.f0
        omega
      refine List.pairwise_cons.2 ⟨fun z hz => ?_, hs⟩
      rcases List.mem_cons.1 hz with rfl | hz
      · exact hxy
      · exact cmp_trans hxy (h1 z hz)
def unt (n w : Int) : Int := if w > wrap64 (4294967295 - n) then 4294967295 else wrap64 (n + w)
def mk (a : S28) (p : S31) (n w : Int) : S33 := ⟨a, p.f3, p, unt n w⟩
def staT (l : List S33) (a : S28) (p : S31) (n w : Int) : List S33 × Int :=
  if adB a = true then (if (get a l).isSome = true then ([], 23) else (if (decide (n < 0) || (decide (n > 4294967295) || decide (w < 0))) = true then ([], 1) else (if 512 ≤ l.length then ([], 9) else (ins (mk a p n w) l, 0)))) else ([], 3)
theorem sta0_ev (l : List S33) (hl : l.length ≤ 512) (a : S28) (p : S31) (hp : p.f8.length * 24 ≤ 140737488351232) (n w : Int) (b : Bool) : Ev (fun k => probe_Start.j0 k l n w (pos a l : Int) b a.f0 a.f1 a.f2 p.f0 p.f1 p.f2 p.f3 p.f4.f0 p.f4.f1 p.f4.f2 p.f5.f0 p.f5.f1 p.f5.f2 p.f6.f0 p.f6.f1 p.f6.f2 p.f7 p.f8) (if b = true then ([], 1) else (if 512 ≤ l.length then ([], 9) else (ins (mk a p n w) l, 0))) := by
  cases b with
  | true => exact Ev_shift 1 (f := fun _ => some ([], 1)) (fun k => by rw [probe_Start.j0, if_pos rfl]) (Ev_const rfl)
  | false =>
    simp only [Bool.false_eq_true, if_false]
    have hpl := pos_le a l
    by_cases h : 512 ≤ l.length
    · rw [if_pos h]
      exact Ev_shift 1 (f := fun _ => some ([], 9)) (fun k => by rw [probe_Start.j0, if_neg Bool.false_ne_true, if_pos (by omega)]) (Ev_const rfl)
    · rw [if_neg h]
      refine Ev_shift 1 (f := fun _ => some (ins (mk a p n w) l, 0)) (fun k => ?_) (Ev_const rfl)
      have hu : probe_until.f n w = some (unt n w) := by
        unfold probe_until.f unt
        split <;> rfl
      rw [probe_Start.j0, if_neg Bool.false_ne_true, if_neg (by omega), slices_Clone_27.f, if_pos (by omega), Option.bind_some, slices_Clone_29.f, if_pos (by omega), Option.bind_some, hu, Option.bind_some, slices_Insert.f, if_pos (by omega), if_pos (by omega), if_pos (by simp; omega), Int.toNat_natCast, Option.bind_some, ins_eq]
      rfl
theorem start_ev (l : List S33) (hl : l.length ≤ 512) (hs : Srt l) (a : S28) (p : S31) (hp : p.f8.length * 24 ≤ 140737488351232) (n w : Int) : Ev (fun k => probe_Start.f k l a.f0 a.f1 a.f2 p.f0 p.f1 p.f2 p.f3 p.f4.f0 p.f4.f1 p.f4.f2 p.f5.f0 p.f5.f1 p.f5.f2 p.f6.f0 p.f6.f1 p.f6.f2 p.f7 p.f8 n w) (staT l a p n w) := by
  unfold probe_Start.f staT
  refine Ev.bind (place_ev l (by omega) hs a) ?_
  simp only [ad_v, Option.bind_some]
  cases adB a with
  | false => exact Ev_const rfl
  | true =>
    simp only [if_true]
    cases (get a l).isSome with
    | true => exact Ev_const rfl
    | false =>
      simp only [Bool.false_eq_true, if_false]
      have h0 := sta0_ev l hl a p hp n w
      by_cases h1 : n < 0
      · simp only [if_pos h1, decide_eq_true h1, Bool.true_or, if_true]
        exact h0 true
      · simp only [if_neg h1, decide_eq_false h1, Bool.false_or]
        by_cases h2 : n > 4294967295
        · simp only [if_pos h2, decide_eq_true h2, Bool.true_or, if_true]
          exact h0 true
        · simp only [if_neg h2, decide_eq_false h2, Bool.false_or]
          exact h0 (decide (w < 0))
theorem tup_some (o : Option S33) : (tup o).2.2.2.2.2.2.2.2.2.2.2.2.2.2.2.2.2.2.2.2 = o.isSome := by cases o <;> rfl
end Go.Proofs.Ytioopjondjfchaa.Ma
namespace Go.Proofs.Ytioopjondjfchaa.Ma
open Go.RowKit Go.Proofs.YtioopjondjfchaaW.PrintWords Go.Proofs.YtioopjondjfchaaW.PrintLast Go.Proofs.YtioopjondjfchaaW.PrintMore Go.Proofs.Ytioopjondjfchaa.XP Go.Proofs.Ytioopjondjfchaa.QA Go.Proofs.Ytioopjondjfchaa.Cm
set_option linter.unusedVariables false
set_option linter.unusedSimpArgs false
theorem awake_ev : Ev (fun k => ddilaw40_awake.f k) true := ⟨60, fun k hk => at_rounds ddilaw40_awake.mono hk (by decide +kernel)⟩
/-! ### Seen -/
def rem (a : S28) (l : List S33) : List S33 := l.filter fun x => !ea x.f0 a
theorem rem_none (a : S28) (l : List S33) (h : get a l = none) : rem a l = l := by
  unfold rem
  unfold get at h
  rw [List.filter_eq_self]
  intro x hx
  have := List.find?_eq_none.1 h x hx
  simpa using this
theorem rem_pos (a : S28) : ∀ l : List S33, Srt l → ∀ h : pos a l < l.length, l[pos a l].f0 = a → l.take (pos a l) ++ l.drop (pos a l + 1) = rem a l
  | [], _, h, _ => by simp at h
  | x :: r, hs, h, he => by
    obtain ⟨h1, h2⟩ := List.pairwise_cons.1 hs
    by_cases hc : cmp x.f0 a < 0
    · have hp : pos a (x :: r) = pos a r + 1 := by rw [pos, if_pos hc]
      have hx : ea x.f0 a = false := by
        rw [ea_ne]
        intro e
        rw [e, cmp_self] at hc
        omega
      simp only [hp, List.length_cons] at h
      have he' : r[pos a r].f0 = a := by simpa [hp] using he
      have ih := rem_pos a r h2 (by omega) he'
      simp only [hp, List.take_succ_cons, List.drop_succ_cons, List.cons_append, ih]
      unfold rem
      rw [List.filter_cons, if_pos (by rw [hx]; rfl)]
    · have hp : pos a (x :: r) = 0 := by rw [pos, if_neg hc]
      have hx : x.f0 = a := by simpa [hp] using he
      simp only [hp, List.take_zero, List.nil_append, List.drop_succ_cons, List.drop_zero]
      have hr : get a r = none := get_none_of_gt a x r h1 hc
      unfold rem
      rw [List.filter_cons, if_neg (by rw [hx, ea_self]; decide)]
      exact (rem_none a r hr).symm
def seenT (l : List S33) (a : S28) : List S33 × Bool × Int × Int × ByteArray × Int × Int × Int × ByteArray × Bool × Int × Int × Bool × Int × Int × Bool × Int × Int × Bool × List S70 × Int × Bool := (rem a l, tup (get a l))
theorem seen_ev (l : List S33) (hl : l.length ≤ 733007751) (hs : Srt l) (a : S28) : Ev (fun k => probe_Seen.f k l a.f0 a.f1 a.f2) (seenT l a) := by
  unfold probe_Seen.f
  refine Ev.bind (place_ev l (by omega) hs a) ?_
  rcases get_at l hs a with ⟨_, hg⟩ | ⟨hp, hg, he⟩
  · unfold seenT
    rw [hg, rem_none a l hg]
    refine Ev_const ?_
    simp only [Option.isSome_none, Bool.false_eq_true, if_false]
    rw [slices_Clone_29.f, if_pos (by omega)]
    rfl
  · unfold seenT
    rw [hg]
    refine Ev_const ?_
    simp only [Option.isSome_some, if_true]
    rw [slices_Clone_29.f, if_pos (by omega), Option.bind_some, wnext (pos a l) (by omega), slices_Delete.f, if_pos (by omega), if_pos (by omega), if_pos (by omega), Option.bind_some, Int.toNat_natCast, Int.toNat_natCast, if_pos (by omega), if_pos (by omega), rdAt l _ hp, rem_pos a l hs hp he]
    rfl
/-! ### Finish -/
end Go.Proofs.Ytioopjondjfchaa.Ma
namespace Go.Proofs.Ytioopjondjfchaa.Ma
open Go.RowKit Go.Proofs.YtioopjondjfchaaW.PrintWords Go.Proofs.YtioopjondjfchaaW.PrintLast Go.Proofs.YtioopjondjfchaaW.PrintMore Go.Proofs.Ytioopjondjfchaa.XP Go.Proofs.Ytioopjondjfchaa.QA Go.Proofs.Ytioopjondjfchaa.Cm
set_option linter.unusedVariables false
set_option linter.unusedSimpArgs false
theorem fit_of {x : S33} (h : okS33 x) : fit x := by
  have := h.2.2.1.2.2.2.2.2.2.2.2.1
  unfold fit
  omega
end Go.Proofs.Ytioopjondjfchaa.Ma
namespace Go.Proofs.Ytioopjondjfchaa.Ma
open Go.RowKit Go.Proofs.YtioopjondjfchaaW.PrintWords Go.Proofs.YtioopjondjfchaaW.PrintLast Go.Proofs.YtioopjondjfchaaW.PrintMore Go.Proofs.Ytioopjondjfchaa.XP Go.Proofs.Ytioopjondjfchaa.QA Go.Proofs.Ytioopjondjfchaa.Cm
set_option linter.unusedVariables false
set_option linter.unusedSimpArgs false
theorem get_ins_same (x : S33) : ∀ l : List S33, get x.f0 l = none → get x.f0 (ins x l) = some x
  | [], _ => by
    unfold ins get
    rw [List.find?_cons, ea_self]
  | y :: r, h => by
    have hy : ea y.f0 x.f0 = false := by
      unfold get at h
      have := List.find?_eq_none.1 h y (List.mem_cons_self ..)
      simpa using this
    have hr : get x.f0 r = none := by
      unfold get at h ⊢
      rw [List.find?_cons, hy] at h
      exact h
    have ih := get_ins_same x r hr
    unfold ins
    split
    · unfold get at ih ⊢
      rw [List.find?_cons, hy]
      exact ih
    · unfold get
      rw [List.find?_cons, ea_self]
theorem get_ins_other (x : S33) (o : S28) (ho : o ≠ x.f0) : ∀ l : List S33, get o (ins x l) = get o l
  | [] => by
    unfold ins get
    rw [List.find?_cons, (ea_ne _ _).2 (Ne.symm ho)]
  | y :: r => by
    have ih := get_ins_other x o ho r
    unfold ins
    split
    · unfold get at ih ⊢
      rw [List.find?_cons, List.find?_cons, ih]
    · unfold get
      rw [List.find?_cons, (ea_ne _ _).2 (Ne.symm ho)]
theorem rem_ins (x : S33) : ∀ l : List S33, get x.f0 l = none → rem x.f0 (ins x l) = l
  | [], _ => by
    unfold ins rem
    rw [List.filter_cons, ea_self]
    rfl
  | y :: r, h => by
    have hy : ea y.f0 x.f0 = false := by
      unfold get at h
      have := List.find?_eq_none.1 h y (List.mem_cons_self ..)
      simpa using this
    have hr : get x.f0 r = none := by
      unfold get at h ⊢
      rw [List.find?_cons, hy] at h
      exact h
    have ih := rem_ins x r hr
    have h0 := rem_none x.f0 (y :: r) h
    unfold ins
    split
    · unfold rem at ih ⊢
      rw [List.filter_cons, if_pos (by rw [hy]; rfl), ih]
    · unfold rem at h0 ⊢
      rw [List.filter_cons, if_neg (by rw [ea_self]; decide), h0]
theorem fit_get (l : List S33) (hl : ∀ y ∈ l, fit y) (a : S28) (y : S33) (h : get a l = some y) : fit y := hl y (List.mem_of_find?_eq_some h)
theorem st3_ev (l : List S33) (hl : l.length ≤ 511) (hs : Srt l) (ok : ∀ y ∈ l, fit y) (x : S33) (hx : fit x) (hg : get x.f0 l = none) (c : Int) (p : S31) (n w : Int) : Ev (fun k => ddilaw40_ProbeStarts.j3 k l (ins x l) c x.f0.f0 x.f0.f1 x.f0.f2 p.f0 p.f1 p.f2 p.f3 p.f4.f0 p.f4.f1 p.f4.f2 p.f5.f0 p.f5.f1 p.f5.f2 p.f6.f0 p.f6.f1 p.f6.f2 p.f7 p.f8 n w) true := by
  have hm := ins_len x l
  have hsm := srt_ins x l hs hg
  refine Ev_shift 1 (fun k => by rw [ddilaw40_ProbeStarts.j3]) ?_
  refine Ev.bind (seen_ev (ins x l) (by omega) hsm x.f0) ?_
  unfold seenT
  rw [get_ins_same x l hg, rem_ins x l hg]
  refine Ev.bind (model_ev l (by omega)) ?_
  exact Ev.bind (tab_ev l (by omega) ok) (Ev_const rfl)
theorem st1_ev (l : List S33) (hl : l.length ≤ 511) (hs : Srt l) (ok : ∀ y ∈ l, fit y) (x : S33) (hx : fit x) (hg : get x.f0 l = none) (c : Int) (p : S31) (n w : Int) (o : S28) : Ev (fun k => ddilaw40_ProbeStarts.j1 k l (ins x l) false c x.f0.f0 x.f0.f1 x.f0.f2 p.f0 p.f1 p.f2 p.f3 p.f4.f0 p.f4.f1 p.f4.f2 p.f5.f0 p.f5.f1 p.f5.f2 p.f6.f0 p.f6.f1 p.f6.f2 p.f7 p.f8 n w o.f0 o.f1 o.f2) true := by
  have hm := ins_len x l
  have hsm := srt_ins x l hs hg
  have h3 := st3_ev l hl hs ok x hx hg c p n w
  have hne : (!(o.f0 == x.f0.f0) || (!(o.f1 == x.f0.f1) || (!(o.f2 == x.f0.f2)))) = !ea o x.f0 := by
    unfold ea
    cases o.f0 == x.f0.f0 <;> cases o.f1 == x.f0.f1 <;> cases o.f2 == x.f0.f2 <;> rfl
  cases he : ea o x.f0 with
  | true =>
    rw [he] at hne
    exact Ev_shift 1 (fun k => by rw [ddilaw40_ProbeStarts.j1, if_neg Bool.false_ne_true, hne, Bool.not_true, if_neg Bool.false_ne_true]) h3
  | false =>
    rw [he] at hne
    have ho : o ≠ x.f0 := (ea_ne _ _).1 he
    refine Ev_shift 1 (fun k => by rw [ddilaw40_ProbeStarts.j1, if_neg Bool.false_ne_true, hne, Bool.not_false, if_pos rfl]) ?_
    refine Ev.bind (pend_ev l (by omega) hs o) ?_
    refine Ev.bind (pend_ev (ins x l) (by omega) hsm o) ?_
    rw [get_ins_other x o ho l, bne_self_eq_false]
    simp only [Bool.false_eq_true, if_false]
    have h2 : Ev (fun k => ddilaw40_ProbeStarts.j2 k l (ins x l) (!true) c x.f0.f0 x.f0.f1 x.f0.f2 p.f0 p.f1 p.f2 p.f3 p.f4.f0 p.f4.f1 p.f4.f2 p.f5.f0 p.f5.f1 p.f5.f2 p.f6.f0 p.f6.f1 p.f6.f2 p.f7 p.f8 n w) true := Ev_shift 1 (fun k => by rw [ddilaw40_ProbeStarts.j2, Bool.not_true, if_neg Bool.false_ne_true]) h3
    cases hgo : get o l with
    | none => exact Ev.bind (same_ev ⟨⟨false, 0, 0⟩, ⟨#[]⟩, ⟨0, 0, 0, ⟨#[]⟩, ⟨false, 0, 0⟩, ⟨false, 0, 0⟩, ⟨false, 0, 0⟩, false, []⟩, 0⟩ (by simp [fit])) h2
    | some y => exact Ev.bind (same_ev y (fit_get l ok o y hgo)) h2
theorem st0_ev (l : List S33) (hl : l.length ≤ 512) (hs : Srt l) (ha : ∀ y ∈ l, adB y.f0 = true) (ok : ∀ y ∈ l, fit y) (c : Int) (a : S28) (p : S31) (hp : p.f8.length * 24 ≤ 140737488351232) (n w : Int) (o : S28) : Ev (fun k => ddilaw40_ProbeStarts.j0 k l false c a.f0 a.f1 a.f2 p.f0 p.f1 p.f2 p.f3 p.f4.f0 p.f4.f1 p.f4.f2 p.f5.f0 p.f5.f1 p.f5.f2 p.f6.f0 p.f6.f1 p.f6.f2 p.f7 p.f8 n w o.f0 o.f1 o.f2) true := by
  refine Ev_shift 1 (fun k => by rw [ddilaw40_ProbeStarts.j0, if_neg Bool.false_ne_true]) ?_
  refine Ev.bind (pend_ev l (by omega) hs a) ?_
  refine Ev.bind (start_ev l hl hs a p hp n w) ?_
  rw [tup_some]
  unfold staT
  cases had : adB a with
  | false =>
    simp only [Bool.false_eq_true, if_false]
    refine Ev_const ?_
    cases (get a l).isSome <;> rfl
  | true =>
    simp only [if_true]
    cases hg : get a l with
    | some y => exact Ev_const rfl
    | none =>
      simp only [Option.isSome_none, Bool.false_eq_true, if_false]
      by_cases hb : (decide (n < 0) || (decide (n > 4294967295) || decide (w < 0))) = true
      · simp only [if_pos hb]
        exact Ev_const rfl
      · simp only [if_neg hb]
        simp only [Bool.or_eq_true, decide_eq_true_eq, not_or] at hb
        by_cases h5 : 512 ≤ l.length
        · simp only [if_pos h5]
          exact Ev_const rfl
        · simp only [if_neg h5, if_true]
          have hx : fit (mk a p n w) := by unfold fit mk; show p.f8.length ≤ _; omega
          have hsm := srt_ins (mk a p n w) l hs hg
          have hm := ins_len (mk a p n w) l
          have hc := chkT_of (ins (mk a p n w) l) (by omega) hsm (fun y hy => by
            rcases mem_ins _ y l hy with rfl | h
            · exact had
            · exact ha y h)
          refine Ev.bind (pend_ev (ins (mk a p n w) l) (by omega) hsm a) ?_
          have hgs : get a (ins (mk a p n w) l) = some (mk a p n w) := get_ins_same (mk a p n w) l hg
          rw [hgs]
          refine Ev.bind (pk_ev p (by omega)) ?_
          have hu1 : ¬ unt n w < n := by
            unfold unt
            rw [wrap_id (x := 4294967295 - n) (by omega) (by omega)]
            split
            · omega
            · rw [wrap_id (by omega) (by omega)]; omega
          have hu2 : ¬ unt n w > 4294967295 := by
            unfold unt
            rw [wrap_id (x := 4294967295 - n) (by omega) (by omega)]
            split
            · omega
            · rw [wrap_id (by omega) (by omega)]; omega
          show Ev (fun k => if true = true then (if p.f3.toList = p.f3.toList then (if unt n w < n then _ else (if unt n w > 4294967295 then _ else (probe_Check.f k (ins (mk a p n w) l)).bind fun t => if t = 0 then ddilaw40_ProbeStarts.j1 k l (ins (mk a p n w) l) (((ins (mk a p n w) l).length : Int) != wrap64 ((l.length : Int) + 1)) c a.f0 a.f1 a.f2 p.f0 p.f1 p.f2 p.f3 p.f4.f0 p.f4.f1 p.f4.f2 p.f5.f0 p.f5.f1 p.f5.f2 p.f6.f0 p.f6.f1 p.f6.f2 p.f7 p.f8 n w o.f0 o.f1 o.f2 else _)) else _) else _) true
          simp only [if_true, if_neg hu1, if_neg hu2]
          refine Ev.bind (check_ev (ins (mk a p n w) l) (by omega)) ?_
          rw [hc]
          simp only [if_true]
          have hlen : (((ins (mk a p n w) l).length : Int) != wrap64 ((l.length : Int) + 1)) = false := by
            rw [hm, wnext l.length (by omega)]
            exact bne_self_eq_false _
          rw [hlen]
          exact st1_ev l (by omega) hs ok (mk a p n w) hx hg c p n w o
theorem probeStarts : ddilaw40_ProbeStarts.Pure := by
  intro l c a0 a1 a2 p0 p1 p2 p3 q0 q1 q2 q3 q4 q5 q6 q7 q8 p7 p8 n w o0 o1 o2 ⟨hl, _, ok⟩ hx _
  have hp : p8.length * 24 ≤ 140737488351232 := hx.2.2.1.2.2.2.2.2.2.2.2.1
  refine Ev.rounds (?_ : Ev (fun k => ddilaw40_ProbeStarts.f k l c a0 a1 a2 p0 p1 p2 p3 q0 q1 q2 q3 q4 q5 q6 q7 q8 p7 p8 n w o0 o1 o2) true)
  unfold ddilaw40_ProbeStarts.f
  refine Ev.bind awake_ev ?_
  simp only [if_true]
  have hskip : Ev (fun k => ddilaw40_ProbeStarts.j0 k l true c a0 a1 a2 p0 p1 p2 p3 q0 q1 q2 q3 q4 q5 q6 q7 q8 p7 p8 n w o0 o1 o2) true := Ev_shift 1 (f := fun _ => some true) (fun k => by rw [ddilaw40_ProbeStarts.j0, if_pos rfl]) (Ev_const rfl)
  by_cases h : (l.length : Int) > 600
  · simp only [if_pos h]
    exact hskip
  · simp only [if_neg h]
    refine Ev.bind (check_ev l (by omega)) ?_
    by_cases hc : chkT l = 0
    · obtain ⟨h1, h2, h3⟩ := chkT_zero l hc
      rw [hc, bne_self_eq_false]
      exact st0_ev l h1 h2 h3 (fun x hx => fit_of (ok x hx)) c ⟨a0, a1, a2⟩ ⟨p0, p1, p2, p3, ⟨q0, q1, q2⟩, ⟨q3, q4, q5⟩, ⟨q6, q7, q8⟩, p7, p8⟩ hp n w ⟨o0, o1, o2⟩
    · rw [show (chkT l != 0) = true from bne_iff_ne.2 hc]
      exact hskip
end Go.Proofs.Ytioopjondjfchaa.Ma
namespace Go.Proofs.Ytioopjondjfchaa.Pure
theorem ProbeStarts : QA.ddilaw40_ProbeStarts.Pure := Ma.probeStarts
end Go.Proofs.Ytioopjondjfchaa.Pure
