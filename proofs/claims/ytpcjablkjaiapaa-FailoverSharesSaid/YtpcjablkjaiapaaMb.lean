/- A peer and a subnet: the program's half (as in the Door seat). -/
import Derived.Test.YtpcjablkjaiapaaQAd
import Derived.Test.YtpcjablkjaiapaaCadr
namespace Go.Proofs.Ytpcjablkjaiapaa.Mz
open Go.RowKit Go.Proofs.YtpcjablkjaiapaaW.PrintWords Go.Proofs.YtpcjablkjaiapaaW.PrintLast Go.Proofs.YtpcjablkjaiapaaW.PrintMore Go.Proofs.Ytpcjablkjaiapaa.XP Go.Proofs.Ytpcjablkjaiapaa.QA Go.Proofs.Ytpcjablkjaiapaa.Cm
set_option linter.unusedVariables false
set_option linter.unusedSimpArgs false
def adB (x : S26) : Bool := x.f0 || (decide (x.f1 = 0) && decide (x.f2 ≤ 4294967295))
theorem ad_v (x : S26) : addr_Valid.f x.f0 x.f1 x.f2 = some (adB x) := by
  unfold addr_Valid.f adB
  by_cases h : x.f0 = true
  · rw [if_pos h, h]; rfl
  · have : x.f0 = false := by simpa using h
    rw [if_neg h, this, Bool.false_or]
    by_cases h1 : x.f1 = 0
    · rw [if_pos h1, decide_eq_true h1, Bool.true_and]
    · rw [if_neg h1, decide_eq_false h1]; rfl
theorem rad_v (x : S26) : ddiref02_Valid.f x.f0 x.f1 x.f2 = some (adB x) := by
  rw [← ad_v]
  unfold ddiref02_Valid.f addr_Valid.f
  split
  · rfl
  · split
    · congr 1
      rw [Bool.eq_iff_iff]
      simp
      omega
    · rfl
theorem u64_id (v : Int) (h0 : 0 ≤ v) (h1 : v < 18446744073709551616) : IntKind.u64.wrap v = v := by
  simp [IntKind.wrap, IntKind.signed, IntKind.bits]
  omega
def stN (n : Int) : Int := if n < 0 then 0 else (if n > 4 then 0 else n)
theorem state_ev (b : Bool) (n u m : Int) : Ev (fun k => failover_state.f k b n u m) (stN n) := by
  unfold failover_state.f stN
  split
  · exact Ev_shift 1 (f := fun _ => some 0) (fun k => by rw [failover_state.j0, if_pos rfl]) (Ev_const rfl)
  · by_cases h : n > 4
    · rw [if_pos h, decide_eq_true h]
      exact Ev_shift 1 (f := fun _ => some 0) (fun k => by rw [failover_state.j0, if_pos rfl]) (Ev_const rfl)
    · rw [if_neg h, decide_eq_false h]
      exact Ev_shift 1 (f := fun _ => some n) (fun k => by rw [failover_state.j0, if_neg Bool.false_ne_true]) (Ev_const rfl)
theorem st_eq (n : Int) (m : Int) (h1 : 1 ≤ m) (h2 : m ≤ 4) : stN n = m ↔ n = m := by
  unfold stN
  split
  · omega
  · split <;> omega
def Tot {α : Type} (g : Nat → Option α) : Prop := ∃ v, Ev g v
theorem tconst {α : Type} {x : Option α} {v : α} (h : x = some v) : Tot (fun _ => x) := ⟨v, Ev_const h⟩
theorem tbind {α β : Type} {g : Nat → Option α} {f : Nat → α → Option β} (h : Tot g) (k : ∀ a, Tot (fun n => f n a)) : Tot (fun n => (g n).bind (f n)) := by
  obtain ⟨v, hv⟩ := h
  obtain ⟨w, hw⟩ := k v
  exact ⟨w, Ev.bind hv hw⟩
theorem tshift {α : Type} {g f : Nat → Option α} (c : Nat) (h : ∀ k, g (k + c) = f k) (e : Tot f) : Tot g := by
  obtain ⟨v, hv⟩ := e
  exact ⟨v, Ev_shift c h hv⟩
def idx {α : Type} (p : α → Bool) : List α → Nat → Int
  | [], _ => -1
  | x :: r, i => if p x = true then (i : Int) else idx p r (i + 1)
theorem idx_any {α : Type} (p : α → Bool) : ∀ (l : List α) (i : Nat), decide (idx p l i ≥ 0) = l.any p
  | [], _ => rfl
  | x :: r, i => by
    unfold idx
    rw [List.any_cons]
    cases hp : p x with
    | true =>
      rw [if_pos rfl, Bool.true_or]
      exact decide_eq_true (by omega)
    | false =>
      rw [if_neg Bool.false_ne_true, Bool.false_or]
      exact idx_any p r (i + 1)
theorem rd57 (l : List S64) (i : Nat) (x : S64) (r : List S64) (h : l.drop i = x :: r) : i < l.length ∧ rd_T64 l (i : Int) = x ∧ l.drop (i + 1) = r := by
  obtain ⟨hi, hx, hr⟩ := drop_at h
  exact ⟨hi, by simp [rd_T64, List.getD_eq_getElem?_getD, List.getElem?_eq_getElem hi, hx], hr⟩
theorem rd53 (l : List S55) (i : Nat) (x : S55) (r : List S55) (h : l.drop i = x :: r) : i < l.length ∧ rd_T55 l (i : Int) = x ∧ l.drop (i + 1) = r := by
  obtain ⟨hi, hx, hr⟩ := drop_at h
  exact ⟨hi, by simp [rd_T55, List.getD_eq_getElem?_getD, List.getElem?_eq_getElem hi, hx], hr⟩
theorem rd83 (l : List S57) (i : Nat) (x : S57) (r : List S57) (h : l.drop i = x :: r) : i < l.length ∧ rd_T57 l (i : Int) = x ∧ l.drop (i + 1) = r := by
  obtain ⟨hi, hx, hr⟩ := drop_at h
  exact ⟨hi, by simp [rd_T57, List.getD_eq_getElem?_getD, List.getElem?_eq_getElem hi, hx], hr⟩
def pin (r : S64) (a : S26) : Bool := decide (cmp r.f0 a ≤ 0) && decide (cmp a r.f1 ≤ 0)
theorem pin_ev (r : S64) (a : S26) : Ev (fun k => pool_in.f k r.f0.f0 r.f0.f1 r.f0.f2 r.f1.f0 r.f1.f1 r.f1.f2 a.f0 a.f1 a.f2) (pin r a) := by
  unfold pool_in.f pin
  refine Ev.bind (ucmp r.f0 a) ?_
  split
  · rename_i h
    rw [decide_eq_true h, Bool.true_and]
    exact Ev.bind (ucmp a r.f1) (Ev_const rfl)
  · rename_i h
    rw [decide_eq_false h, Bool.false_and]
    exact Ev_const rfl
def ovB (x r : S64) : Bool := pin x r.f0 || pin r x.f0
def goodP (p : S26) (y : S64) : Prop := (y.f0.f0 = p.f0 ∧ adB y.f0 = true) ∧ (y.f1.f0 = p.f0 ∧ adB y.f1 = true) ∧ cmp y.f0 y.f1 ≤ 0
def PO (p : S26) : List S64 → List S64 → Prop
  | _, [] => True
  | pre, y :: r => goodP p y ∧ pre.any (fun x => ovB x y) = false ∧ PO p (pre ++ [y]) r
theorem rdI (l : List Int) (i : Nat) (x : Int) (r : List Int) (h : l.drop i = x :: r) : i < l.length ∧ rd l (i : Int) = x ∧ l.drop (i + 1) = r := by
  obtain ⟨hi, hx, hr⟩ := drop_at h
  exact ⟨hi, by simp [rd, List.getD_eq_getElem?_getD, List.getElem?_eq_getElem hi, hx], hr⟩
theorem index_from (l : List Int) (hl : l.length ≤ 140737488351232) (v : Int) : ∀ (r : List Int) (i : Nat), l.drop i = r → Ev (fun k => slices_Index.l0 k l v (l.length : Int) (i : Int)) (idx (fun x => decide (v = x)) r i)
  | [], i, h => by
    have := drop_end h
    exact Ev_shift 1 (f := fun _ => some (-1)) (fun k => by rw [slices_Index.l0, if_neg (by omega)]) (Ev_const rfl)
  | x :: r, i, h => by
    obtain ⟨hi, hx, hr⟩ := rdI l i x r h
    have ih := index_from l hl v r (i + 1) hr
    refine Ev_shift 1 (fun k => by rw [slices_Index.l0, if_pos (by omega), if_pos (by omega), if_pos (by omega), hx, next i l.length hi (by omega)]) ?_
    unfold idx
    by_cases hv : v = x
    · rw [if_pos (decide_eq_true hv)]
      simp only [if_pos hv]
      exact Ev_const rfl
    · rw [if_neg (by rw [decide_eq_false hv]; exact Bool.false_ne_true)]
      simp only [if_neg hv]
      exact ih
theorem is_ev (b : Bool) (n u m : Int) (l : List Int) (hl : l.length ≤ 140737488351232) : Ev (fun k => failover_is.f k b n u m l) (l.any (fun x => decide (stN n = x))) := by
  unfold failover_is.f
  refine Ev.bind (state_ev b n u m) ?_
  have : Ev (fun k => slices_Contains.f k l (stN n)) (l.any (fun x => decide (stN n = x))) := by
    unfold slices_Contains.f slices_Index.f
    rw [← idx_any (fun x => decide (stN n = x)) l 0]
    exact Ev.bind (index_from l hl (stN n) l 0 rfl) (Ev_const rfl)
  exact Ev.bind this (Ev_const rfl)
def atB (q : List S55) (a : S26) : Bool := q.any (fun y => ea y.f1 a)
theorem at_from (q : List S55) (hq : q.length ≤ 140737488351232) (a : S26) : ∀ (r : List S55) (i : Nat), q.drop i = r → ∃ v, Ev (fun k => pool_At.l0 k q (q.length : Int) (i : Int) a.f0 a.f1 a.f2) v ∧ v.2.2.2.2.2 = atB r a
  | [], i, h => by
    have := drop_end h
    exact ⟨(⟨#[]⟩, false, 0, 0, ⟨#[]⟩, false), Ev_shift 1 (f := fun _ => some (⟨#[]⟩, false, 0, 0, ⟨#[]⟩, false)) (fun k => by rw [pool_At.l0, if_neg (by omega)]) (Ev_const rfl), rfl⟩
  | y :: r, i, h => by
    obtain ⟨hi, hy, hr⟩ := rd53 q i y r h
    obtain ⟨v, hv, hvb⟩ := at_from q hq a r (i + 1) hr
    unfold atB
    rw [List.any_cons]
    cases he : ea y.f1 a with
    | true =>
      have he' := he
      unfold ea at he'
      exact ⟨(y.f0, y.f1.f0, y.f1.f1, y.f1.f2, y.f2, true), Ev_shift 1 (f := fun _ => some (y.f0, y.f1.f0, y.f1.f1, y.f1.f2, y.f2, true)) (fun k => by rw [pool_At.l0, if_pos (by omega), if_pos (by omega), if_pos (by omega), hy, if_pos he']) (Ev_const rfl), rfl⟩
    | false =>
      have he' := he
      unfold ea at he'
      exact ⟨v, Ev_shift 1 (fun k => by rw [pool_At.l0, if_pos (by omega), if_pos (by omega), if_pos (by omega), hy, if_neg (by rw [he']; exact Bool.false_ne_true), next i q.length hi (by omega)]) hv, by rw [hvb]; rfl⟩
theorem at_ev (p0 : Bool) (p1 p2 n : Int) (c : ByteArray) (l : List S64) (q : List S55) (hq : q.length ≤ 140737488351232) (o : List S57) (t : Int) (a : S26) : ∃ v, Ev (fun k => pool_At.f k p0 p1 p2 n c l q o t a.f0 a.f1 a.f2) v ∧ v.2.2.2.2.2 = atB q a := by
  unfold pool_At.f
  exact at_from q hq a q 0 rfl
theorem ix80_from (l : List S64) (hl : l.length ≤ 140737488351232) (a : S26) : ∀ (r : List S64) (i : Nat), l.drop i = r → Ev (fun k => slices_IndexFunc_67.l0 k l (l.length : Int) (i : Int) a.f0 a.f1 a.f2) (idx (fun x => pin x a) r i)
  | [], i, h => by
    have := drop_end h
    exact Ev_shift 1 (f := fun _ => some (-1)) (fun k => by rw [slices_IndexFunc_67.l0, if_neg (by omega)]) (Ev_const rfl)
  | x :: r, i, h => by
    obtain ⟨hi, hx, hr⟩ := rd57 l i x r h
    have ih := ix80_from l hl a r (i + 1) hr
    refine Ev_shift 1 (fun k => by rw [slices_IndexFunc_67.l0, if_pos (by omega), if_pos (by omega), if_pos (by omega), hx, next i l.length hi (by omega)]) ?_
    have : Ev (fun k => pool_Has_1.f k x.f0.f0 x.f0.f1 x.f0.f2 x.f1.f0 x.f1.f1 x.f1.f2 a.f0 a.f1 a.f2) (pin x a) := by
      unfold pool_Has_1.f
      exact Ev.bind (pin_ev x a) (Ev_const rfl)
    refine Ev.bind this ?_
    unfold idx
    split
    · exact Ev_const rfl
    · exact ih
def inL (l : List S64) (a : S26) : Bool := l.any (fun x => pin x a)
theorem has_ev (p0 : Bool) (p1 p2 n : Int) (c : ByteArray) (l : List S64) (hl : l.length ≤ 140737488351232) (q : List S55) (hq : q.length ≤ 140737488351232) (o : List S57) (t : Int) (a : S26) : Ev (fun k => pool_Has.f k p0 p1 p2 n c l q o t a.f0 a.f1 a.f2) (!atB q a && inL l a) := by
  unfold pool_Has.f
  obtain ⟨v, hv, hb⟩ := at_ev p0 p1 p2 n c l q hq o t a
  refine Ev.bind hv ?_
  rw [hb]
  cases atB q a with
  | true => exact Ev_const rfl
  | false =>
    have : Ev (fun k => slices_ContainsFunc_67.f k l a.f0 a.f1 a.f2) (inL l a) := by
      unfold slices_ContainsFunc_67.f slices_IndexFunc_67.f inL
      rw [← idx_any (fun x => pin x a) l 0]
      exact Ev.bind (ix80_from l hl a l 0 rfl) (Ev_const rfl)
    exact Ev.bind this (Ev_const rfl)
def start (n : Int) : Bool := [0, 4].any (fun x => decide (stN n = x))
theorem mayl_ev (p0 : Bool) (p1 p2 n : Int) (c : ByteArray) (l : List S64) (hl : l.length ≤ 140737488351232) (q : List S55) (hq : q.length ≤ 140737488351232) (o : List S57) (t : Int) (a : S26) : Ev (fun k => (pool_At.f k p0 p1 p2 n c l q o t a.f0 a.f1 a.f2).bind fun bt459 => (if bt459.2.2.2.2.2 = true then (some true) else ((pool_Has.f k p0 p1 p2 n c l q o t a.f0 a.f1 a.f2).bind fun t466 => (some t466)))) (atB q a || inL l a) := by
  obtain ⟨v, hv, hb⟩ := at_ev p0 p1 p2 n c l q hq o t a
  refine Ev.bind hv ?_
  rw [hb]
  have hh := has_ev p0 p1 p2 n c l hl q hq o t a
  cases hq : atB q a with
  | true => exact Ev_const rfl
  | false =>
    rw [hq] at hh
    exact Ev.bind hh (Ev_const (by simp))
theorem clone76 (o : List S57) (ho : o.length * 24 ≤ 140737488351232) : slices_Clone_40.f o = some o := by
  unfold slices_Clone_40.f
  rw [if_pos (by omega)]
theorem wake_ev : Ev (fun k => ddilaw44_awake.f k) true := ⟨60, fun k hk => at_rounds ddilaw44_awake.mono hk (by decide +kernel)⟩
structure V4 (r : S64) : Prop where
  a : r.f0.f0 = false
  b : r.f0.f1 = 0
  c : r.f1.f0 = false
  d : r.f1.f1 = 0
  e : 0 ≤ r.f0.f2
  f : r.f0.f2 ≤ r.f1.f2
  g : r.f1.f2 ≤ 4294967295
theorem wfu {n : Int} (h : (Lit.int .u64 n).wf = true) : 0 ≤ n := by
  have : 0 ≤ n ∧ n ≤ 18446744073709551615 := by simpa [Lit.wf, IntKind.min, IntKind.max, IntKind.signed, IntKind.bits] using h
  omega
theorem ad4 {x : S26} (h : adB x = true) (h0 : x.f0 = false) : x.f1 = 0 ∧ x.f2 ≤ 4294967295 := by
  unfold adB at h
  rw [h0, Bool.false_or, Bool.and_eq_true, decide_eq_true_eq, decide_eq_true_eq] at h
  exact h
theorem cmp4 (x y : Int) : cmp ⟨false, 0, x⟩ ⟨false, 0, y⟩ = if x < y then -1 else (if x > y then 1 else 0) := by
  unfold cmp
  simp
theorem v4_of {p : S26} {y : S64} (hp : p.f0 = false) (h : goodP p y) (ok : okS64 y) : V4 y := by
  obtain ⟨⟨x0, x1, x2⟩, ⟨y0, y1, y2⟩⟩ := y
  obtain ⟨⟨h1, h2⟩, ⟨h3, h4⟩, h5⟩ := h
  simp only [] at h1 h3
  rw [hp] at h1 h3
  subst h1
  subst h3
  obtain ⟨p1, p2⟩ := ad4 h2 rfl
  obtain ⟨q1, q2⟩ := ad4 h4 rfl
  simp only [] at p1 q1 p2 q2
  subst p1
  subst q1
  have h6 := wfu ok.1.2.2
  simp only [cmp4] at h5 h6
  refine ⟨rfl, rfl, rfl, rfl, h6, ?_, q2⟩
  simp only []
  split at h5
  · omega
  · split at h5
    · omega
    · omega
theorem pin4 (r : S64) (h : V4 r) (a : S26) : pin r a = (!a.f0 && (decide (a.f1 = 0) && (decide (r.f0.f2 ≤ a.f2) && decide (a.f2 ≤ r.f1.f2)))) := by
  obtain ⟨⟨x0, x1, x2⟩, ⟨y0, y1, y2⟩⟩ := r
  obtain ⟨h1, h2, h3, h4, _, _, _⟩ := h
  simp only [] at h1 h2 h3 h4
  subst h1
  subst h2
  subst h3
  subst h4
  obtain ⟨a0, a1, a2⟩ := a
  unfold pin
  cases a0 with
  | true =>
    have : cmp ⟨true, a1, a2⟩ ⟨false, 0, y2⟩ = 1 := by simp [cmp]
    rw [this]
    simp
  | false =>
    by_cases h : a1 = 0
    · subst h
      rw [cmp4, cmp4, decide_eq_true (rfl : (0 : Int) = 0), Bool.not_false, Bool.true_and, Bool.true_and]
      congr 1
      · by_cases g : x2 ≤ a2
        · rw [decide_eq_true g]
          split
          · rfl
          · rw [if_neg (by omega)]; rfl
        · rw [decide_eq_false g, if_neg (by omega), if_pos (by omega)]; rfl
      · by_cases g : a2 ≤ y2
        · rw [decide_eq_true g]
          split
          · rfl
          · rw [if_neg (by omega)]; rfl
        · rw [decide_eq_false g, if_neg (by omega), if_pos (by omega)]; rfl
    · rw [decide_eq_false h, Bool.false_and, Bool.and_false]
      by_cases g : 0 < a1
      · have : cmp ⟨false, a1, a2⟩ ⟨false, 0, y2⟩ = 1 := by
          unfold cmp
          simp [h]
          omega
        rw [this]
        simp
      · have : cmp ⟨false, 0, x2⟩ ⟨false, a1, a2⟩ = 1 := by
          unfold cmp
          simp [Ne.symm h]
          omega
        rw [this]
        simp
def partT (b : Bool) (r : S64) : Option S64 :=
  if b = true then some ⟨r.f0, ⟨false, 0, r.f0.f2 + (r.f1.f2 - r.f0.f2) / 2⟩⟩
  else (if (r.f1.f2 - r.f0.f2) / 2 + 1 > r.f1.f2 - r.f0.f2 then none else some ⟨⟨false, 0, r.f0.f2 + ((r.f1.f2 - r.f0.f2) / 2 + 1)⟩, r.f1⟩)
def tupP : Option S64 → Bool × Int × Int × Bool × Int × Int × Bool
  | some y => (y.f0.f0, y.f0.f1, y.f0.f2, y.f1.f0, y.f1.f1, y.f1.f2, true)
  | none => (false, 0, 0, false, 0, 0, false)
theorem val4 (x : Int) (h : x ≤ 4294967295) : addr_Valid.f false 0 x = some true := by
  rw [ad_v ⟨false, 0, x⟩]
  unfold adB
  simp only [decide_eq_true h, decide_eq_true (rfl : (0 : Int) = 0)]
  rfl
theorem sub_v (x y : Int) (h0 : 0 ≤ x) (h1 : x ≤ y) (h2 : y ≤ 4294967295) : bits_Sub64.f y x 0 = some (y - x, 0) := by
  unfold bits_Sub64.f XC.sub64
  rw [if_pos (by omega), if_pos (by omega), if_pos (by omega), if_pos (by omega), if_pos (by omega), if_neg (by omega)]
  congr 2
  omega
theorem add_v (x y : Int) (h0 : 0 ≤ x) (h1 : 0 ≤ y) (h2 : x + y ≤ 4294967295) : bits_Add64.f x y 0 = some (x + y, 0) := by
  unfold bits_Add64.f XC.add64
  rw [if_pos (by omega), if_pos (by omega), if_pos (by omega), if_pos (by omega)]
  congr 2
  · omega
  · omega
theorem asub_ev (x y : Int) (h0 : 0 ≤ x) (h1 : x ≤ y) (h2 : y ≤ 4294967295) : Ev (fun k => addr_Sub.f k false 0 y false 0 x) (y - x, true) := by
  unfold addr_Sub.f
  simp only [val4 y h2, val4 x (by omega), Option.bind_some, if_true]
  refine Ev_shift 1 (fun k => by rw [show (false != false) = false from rfl, addr_Sub.j0, if_neg Bool.false_ne_true, sub_v x y h0 h1 h2, Option.bind_some, sub_v 0 0 (by omega) (by omega) (by omega), Option.bind_some, if_pos rfl]) ?_
  exact Ev_shift 1 (f := fun _ => some (y - x, true)) (fun k => by rw [show ((0 : Int) - 0 != 0) = false from rfl, addr_Sub.j1, if_neg Bool.false_ne_true]) (Ev_const rfl)
theorem aadd_ev (x n : Int) (h0 : 0 ≤ x) (h1 : 0 ≤ n) (h2 : x + n ≤ 4294967295) : Ev (fun k => addr_Add.f k false 0 x n) (false, 0, x + n, true) := by
  unfold addr_Add.f
  simp only [val4 x (by omega), Option.bind_some, if_true, add_v x n h0 h1 h2, add_v 0 0 (by omega) (by omega) (by omega), Int.add_zero, val4 (x + n) h2]
  exact Ev_shift 1 (f := fun _ => some (false, 0, x + n, true)) (fun k => by rw [Bool.not_true, addr_Add.j0, if_neg Bool.false_ne_true]) (Ev_const rfl)
theorem part_ev (b : Bool) (r : S64) (h : V4 r) : Ev (fun k => failover_part.f k b r.f0.f0 r.f0.f1 r.f0.f2 r.f1.f0 r.f1.f1 r.f1.f2) (tupP (partT b r)) := by
  obtain ⟨⟨x0, x1, x2⟩, ⟨y0, y1, y2⟩⟩ := r
  obtain ⟨h1, h2, h3, h4, h5, h6, h7⟩ := h
  simp only [] at h1 h2 h3 h4 h5 h6 h7
  subst h1
  subst h2
  subst h3
  subst h4
  unfold failover_part.f
  refine Ev.bind (asub_ev x2 y2 h5 h6 h7) ?_
  have hd : Int.tdiv (y2 - x2) 2 = (y2 - x2) / 2 := Int.tdiv_eq_ediv_of_nonneg (by omega)
  have e1 : IntKind.u64.wrap (Int.tdiv (y2 - x2) 2) = (y2 - x2) / 2 := by
    rw [hd]
    exact u64_id _ (by omega) (by omega)
  have e2 : IntKind.u64.wrap ((y2 - x2) / 2 + 1) = (y2 - x2) / 2 + 1 := u64_id _ (by omega) (by omega)
  have e3 : IntKind.u64.wrap ((y2 - x2) / 2 + 1 - 1) = (y2 - x2) / 2 := by
    rw [u64_id _ (by omega) (by omega)]
    omega
  simp only [if_true, e1, e2, e3]
  unfold partT
  cases b with
  | true =>
    simp only [if_true]
    exact Ev.bind (aadd_ev x2 ((y2 - x2) / 2) h5 (by omega) (by omega)) (Ev_const rfl)
  | false =>
    simp only [Bool.false_eq_true, if_false]
    by_cases hg : (y2 - x2) / 2 + 1 > y2 - x2
    · rw [if_pos hg]
      simp only [if_pos hg]
      exact Ev_const rfl
    · rw [if_neg hg]
      simp only [if_neg hg]
      exact Ev.bind (aadd_ev x2 ((y2 - x2) / 2 + 1) h5 (by omega) (by omega)) (Ev_const rfl)
def prT (b : Bool) (l : List S64) : List S64 := l.filterMap (partT b)
theorem parts_from (b : Bool) (m u w : Int) (l : List S64) (hl : l.length * 48 ≤ 140737488351232) (hv : ∀ r ∈ l, V4 r) : ∀ (r : List S64) (i : Nat) (q : List S64), l.drop i = r → q.length ≤ i → Ev (fun k => failover_parts.l0 k q l (l.length : Int) (i : Int) b m u w) (q ++ prT b r)
  | [], i, q, h, _ => by
    have := drop_end h
    exact Ev_shift 1 (f := fun _ => some q) (fun k => by rw [failover_parts.l0, if_neg (by omega)]) (Ev_const (by simp [prT]))
  | y :: r, i, q, h, hq => by
    obtain ⟨hi, hy, hr⟩ := rd57 l i y r h
    have hym : y ∈ l := by
      obtain ⟨h1, h2, _⟩ := drop_at h
      rw [← h2]
      exact List.getElem_mem h1
    have ih := fun q hq => parts_from b m u w l hl hv r (i + 1) q hr hq
    refine Ev_shift 1 (fun k => by rw [failover_parts.l0, if_pos (by omega), if_pos (by omega), if_pos (by omega), hy, next i l.length hi (by omega)]) ?_
    refine Ev.bind (part_ev b y (hv y hym)) ?_
    have e : prT b (y :: r) = (match partT b y with | some z => z :: prT b r | none => prT b r) := by
      unfold prT
      rw [List.filterMap_cons]
      cases partT b y <;> rfl
    rw [e]
    cases partT b y with
    | none =>
      simp only [tupP, Bool.false_eq_true, if_false]
      exact ih q (by omega)
    | some z =>
      simp only [tupP, if_true, if_pos (show q.length < 2932031007402 by omega)]
      have := ih (q ++ [z]) (by simp; omega)
      rw [List.append_assoc] at this
      exact this
theorem parts_ev (b : Bool) (m u w : Int) (p0 : Bool) (p1 p2 n : Int) (c : ByteArray) (l : List S64) (hl : l.length * 48 ≤ 140737488351232) (hv : ∀ r ∈ l, V4 r) (q : List S55) (o : List S57) (t : Int) : Ev (fun k => failover_parts.f k b m u w p0 p1 p2 n c l q o t) (prT b l) := by
  unfold failover_parts.f
  exact parts_from b m u w l hl hv l 0 [] rfl (Nat.le_refl _)
theorem prT_len (b : Bool) (l : List S64) : (prT b l).length ≤ l.length := List.length_filterMap_le _ _
theorem mine1_ev (r : S64) (a : S26) : Ev (fun k => failover_Mine_1.f k r.f0.f0 r.f0.f1 r.f0.f2 r.f1.f0 r.f1.f1 r.f1.f2 a.f0 a.f1 a.f2) (pin r a) := pin_ev r a
theorem ix50_from (l : List S64) (hl : l.length ≤ 140737488351232) (a : S26) : ∀ (r : List S64) (i : Nat), l.drop i = r → Ev (fun k => slices_IndexFunc_35.l0 k l (l.length : Int) (i : Int) a.f0 a.f1 a.f2) (idx (fun x => pin x a) r i)
  | [], i, h => by
    have := drop_end h
    exact Ev_shift 1 (f := fun _ => some (-1)) (fun k => by rw [slices_IndexFunc_35.l0, if_neg (by omega)]) (Ev_const rfl)
  | x :: r, i, h => by
    obtain ⟨hi, hx, hr⟩ := rd57 l i x r h
    have ih := ix50_from l hl a r (i + 1) hr
    refine Ev_shift 1 (fun k => by rw [slices_IndexFunc_35.l0, if_pos (by omega), if_pos (by omega), if_pos (by omega), hx, next i l.length hi (by omega)]) ?_
    refine Ev.bind (mine1_ev x a) ?_
    unfold idx
    split
    · exact Ev_const rfl
    · exact ih
theorem mine_ev (b : Bool) (m u w : Int) (p0 : Bool) (p1 p2 n : Int) (c : ByteArray) (l : List S64) (hl : l.length * 48 ≤ 140737488351232) (hv : ∀ r ∈ l, V4 r) (q : List S55) (hq : q.length ≤ 140737488351232) (o : List S57) (t : Int) (a : S26) : Ev (fun k => failover_Mine.f k b m u w p0 p1 p2 n c l q o t a.f0 a.f1 a.f2) (atB q a || inL (prT b l) a) := by
  unfold failover_Mine.f
  obtain ⟨v, hv', hb⟩ := at_ev p0 p1 p2 n c l q hq o t a
  refine Ev.bind hv' ?_
  rw [hb]
  cases atB q a with
  | true => exact Ev_const rfl
  | false =>
    simp only [Bool.false_eq_true, if_false, Bool.false_or]
    refine Ev.bind (parts_ev b m u w p0 p1 p2 n c l hl hv q o t) ?_
    have : Ev (fun k => slices_ContainsFunc_35.f k (prT b l) a.f0 a.f1 a.f2) (inL (prT b l) a) := by
      unfold slices_ContainsFunc_35.f slices_IndexFunc_35.f inL
      rw [← idx_any (fun x => pin x a) (prT b l) 0]
      exact Ev.bind (ix50_from (prT b l) (by have := prT_len b l; omega) a _ 0 rfl) (Ev_const rfl)
    exact Ev.bind this (Ev_const rfl)
theorem po_all (p : S26) : ∀ (r pre : List S64), PO p pre r → (∀ y ∈ r, goodP p y) ∧ r.Pairwise (fun x y => ovB x y = false) ∧ ∀ x ∈ pre, ∀ y ∈ r, ovB x y = false
  | [], _, _ => ⟨fun y h => absurd h List.not_mem_nil, List.Pairwise.nil, fun _ _ y h => absurd h List.not_mem_nil⟩
  | y :: r, pre, h => by
    obtain ⟨h1, h2, h3⟩ := h
    obtain ⟨g1, g2, g3⟩ := po_all p r (pre ++ [y]) h3
    rw [List.any_eq_false] at h2
    refine ⟨fun z hz => ?_, List.pairwise_cons.2 ⟨fun z hz => g3 y (List.mem_append_right _ (List.mem_singleton.2 rfl)) z hz, g2⟩, fun x hx z hz => ?_⟩
    · rcases List.mem_cons.1 hz with rfl | hz
      · exact h1
      · exact g1 z hz
    · rcases List.mem_cons.1 hz with rfl | hz
      · simpa using h2 x hx
      · exact g3 x (List.mem_append_left _ hx) z hz
theorem small1 (p : S26) (n : Int) (c : ByteArray) (l : List S64) (q : List S55) (o : List S57) (ho : o.length ≤ 140737488351232) (t : Int) : ∀ (r : List S57) (i : Nat), o.drop i = r → Tot (fun k => ddilaw44_small.l1 k (i : Int) p.f0 p.f1 p.f2 n c l q o t)
  | [], i, h => by
    have := drop_end h
    exact tshift 1 (f := fun _ => some true) (fun k => by rw [ddilaw44_small.l1, if_neg (by omega)]) (tconst rfl)
  | y :: r, i, h => by
    obtain ⟨hi, hy, hr⟩ := rd83 o i y r h
    have ih := small1 p n c l q o ho t r (i + 1) hr
    refine tshift 1 (fun k => by rw [ddilaw44_small.l1, if_pos (by omega), if_pos (by omega), next i o.length hi (by omega)]) ?_
    split
    · exact tconst rfl
    · exact ih
theorem small0 (p : S26) (n : Int) (c : ByteArray) (l : List S64) (q : List S55) (hq : q.length ≤ 140737488351232) (o : List S57) (ho : o.length ≤ 140737488351232) (t : Int) : ∀ (r : List S55) (i : Nat), q.drop i = r → Tot (fun k => ddilaw44_small.l0 k (i : Int) p.f0 p.f1 p.f2 n c l q o t)
  | [], i, h => by
    have := drop_end h
    exact tshift 1 (fun k => by rw [ddilaw44_small.l0, if_neg (by omega)]; rfl) (small1 p n c l q o ho t o 0 rfl)
  | y :: r, i, h => by
    obtain ⟨hi, hy, hr⟩ := rd53 q i y r h
    have ih := small0 p n c l q hq o ho t r (i + 1) hr
    have hj : ∀ b : Bool, Tot (fun k => ddilaw44_small.j2 k (i : Int) b p.f0 p.f1 p.f2 n c l q o t) := by
      intro b
      refine tshift 1 (fun k => by rw [ddilaw44_small.j2, next i q.length hi (by omega)]) ?_
      split
      · exact tconst rfl
      · exact ih
    refine tshift 1 (fun k => by rw [ddilaw44_small.l0, if_pos (by omega), if_pos (by omega)]) ?_
    split
    · exact hj _
    · exact hj _
theorem small_tot (p : S26) (n : Int) (c : ByteArray) (l : List S64) (q : List S55) (hq : q.length ≤ 140737488351232) (o : List S57) (ho : o.length ≤ 140737488351232) (t : Int) : Tot (fun k => ddilaw44_small.f k p.f0 p.f1 p.f2 n c l q o t) := by
  have hj : ∀ b : Bool, Tot (fun k => ddilaw44_small.j0 k b p.f0 p.f1 p.f2 n c l q o t) := by
    intro b
    refine tshift 1 (fun k => by rw [ddilaw44_small.j0]) ?_
    split
    · exact tconst rfl
    · exact small0 p n c l q hq o ho t q 0 rfl
  unfold ddilaw44_small.f
  split
  · exact hj _
  · split
    · exact hj _
    · split
      · exact hj _
      · exact hj _
end Go.Proofs.Ytpcjablkjaiapaa.Mz
