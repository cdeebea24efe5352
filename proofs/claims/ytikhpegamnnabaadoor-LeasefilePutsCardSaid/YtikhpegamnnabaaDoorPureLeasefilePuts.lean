/- Put gives what the reference gives, and its table holds the lease: the pure statement of LeasefilePuts (no condition but the sizes that every argument has). -/
import Derived.Test.YtikhpegamnnabaaDoorQAd1
import Derived.Test.YtikhpegamnnabaaDoorXP
import Derived.Test.YtikhpegamnnabaaDoorXB
import Derived.Test.YtikhpegamnnabaaDoorQAd3
namespace Go.Proofs.YtikhpegamnnabaaDoor.Cm
open Go.RowKit Go.Proofs.YtikhpegamnnabaaDoorW.PrintWords Go.Proofs.YtikhpegamnnabaaDoorW.PrintLast Go.Proofs.YtikhpegamnnabaaDoorW.PrintMore Go.Proofs.YtikhpegamnnabaaDoor.XP Go.Proofs.YtikhpegamnnabaaDoor.QA
set_option linter.unusedVariables false
set_option linter.unusedSimpArgs false
/-- A byte of an ordinary label. -/
def okc (c : UInt8) : Bool := (97 ≤ c.toNat && c.toNat ≤ 122) || ((48 ≤ c.toNat && c.toNat ≤ 57) || (c.toNat == 45 || c.toNat == 95))
def ordB (l : List UInt8) : Bool := !l.isEmpty && (decide (l.length ≤ 63) && l.all okc)
theorem bt_at_drop (s : ByteArray) (i : Nat) (c : UInt8) (r : List UInt8) (h : s.data.toList.drop i = c :: r) : i < s.size ∧ bt s (i : Int) = (c.toNat : Int) ∧ s.data.toList.drop (i + 1) = r := by
  obtain ⟨hi, hx, hr⟩ := drop_at h
  refine ⟨by rw [size_data]; exact hi, ?_, hr⟩
  rw [bt_get s i hi, hx]
theorem size_end (s : ByteArray) (i : Nat) (h : s.data.toList.drop i = []) : s.size ≤ i := by rw [size_data]; exact drop_end h
theorem toL (s : ByteArray) : s.toList = s.data.toList := ByteArray.toList_eq s
theorem lab_from (s : ByteArray) (hs : s.size ≤ 140737488351232) : ∀ (r : List UInt8) (i : Nat), s.data.toList.drop i = r → Ev (fun k => ddiref01_isLabel.l0 k s (i : Int)) (r.all okc)
  | [], i, h => by
    have := size_end s i h
    refine Ev_shift 1 (f := fun _ => some true) (fun k => ?_) (Ev_const rfl)
    rw [ddiref01_isLabel.l0, if_neg (by omega)]
  | c :: r, i, h => by
    obtain ⟨hi, hb, hr⟩ := bt_at_drop s i c r h
    have ih := lab_from s hs r (i + 1) hr
    have key : ∀ b : Bool, b = !okc c → Ev (fun k => ddiref01_isLabel.j2 k s (i : Int) b) (List.all (c :: r) okc) := by
      intro b hbc
      rw [List.all_cons]
      cases hc : okc c with
      | false =>
        rw [hc] at hbc
        subst hbc
        refine Ev_shift 1 (f := fun _ => some false) (fun k => ?_) (Ev_const rfl)
        rw [ddiref01_isLabel.j2]
        rfl
      | true =>
        rw [hc] at hbc
        subst hbc
        rw [Bool.true_and]
        refine Ev_shift 1 (fun k => ?_) ih
        rw [ddiref01_isLabel.j2, next i s.size hi (by omega)]
        rfl
    refine Ev_shift 1 (f := fun k => ddiref01_isLabel.j2 k s (i : Int) (!okc c)) (fun k => ?_) (key _ rfl)
    rw [ddiref01_isLabel.l0, if_pos (by omega), if_pos (by omega), hb]
    have hc : okc c = true ↔ (97 ≤ c.toNat ∧ c.toNat ≤ 122) ∨ ((48 ≤ c.toNat ∧ c.toNat ≤ 57) ∨ (c.toNat = 45 ∨ c.toNat = 95)) := by simp [okc]
    have hbn : ((c.toNat : Int) == 95) = decide (c.toNat = 95) := by
      rw [Bool.eq_iff_iff]
      simp
      omega
    rw [hbn]
    cases hk : okc c with
    | true =>
      have := hc.1 hk
      repeat' split
      all_goals first | rfl | omega | (congr 1; simp; omega)
    | false =>
      have hn : ¬ _ := fun h => Bool.false_ne_true (hk.symm.trans (hc.2 h))
      repeat' split
      all_goals first | rfl | (exfalso; omega) | (congr 1; simp; omega)
def labB (l : List UInt8) : Bool := decide (l = [42]) || ordB l
theorem lab_ev (s : ByteArray) (hs : s.size ≤ 140737488351232) : Ev (fun k => ddiref01_isLabel.f k s) (labB s.data.toList) := by
  have hl := size_data s
  unfold ddiref01_isLabel.f labB
  rw [toL]
  have hj : ∀ b : Bool, b = !(!s.data.toList.isEmpty && decide (s.data.toList.length ≤ 63)) → Ev (fun k => ddiref01_isLabel.j0 k s b) (ordB s.data.toList) := by
    intro b hb
    unfold ordB
    cases h : (!s.data.toList.isEmpty && decide (s.data.toList.length ≤ 63)) with
    | false =>
      rw [h] at hb
      subst hb
      refine Ev_shift 1 (f := fun _ => some false) (fun k => ?_) (Ev_const (by rw [← Bool.and_assoc, h]; rfl))
      rw [ddiref01_isLabel.j0]
      rfl
    | true =>
      rw [h] at hb
      subst hb
      rw [← Bool.and_assoc, h, Bool.true_and]
      refine Ev_shift 1 (fun k => ?_) (lab_from s hs s.data.toList 0 rfl)
      rw [ddiref01_isLabel.j0]
      rfl
  by_cases h42 : s.data.toList = [42]
  · simp only [if_pos h42, h42, decide_true, Bool.true_or]
    exact Ev_const rfl
  · simp only [if_neg h42, h42, decide_false, Bool.false_or]
    by_cases h0 : (s.size : Int) < 1
    · simp only [if_pos h0]
      refine hj true ?_
      have : s.data.toList = [] := List.length_eq_zero_iff.1 (by rw [← hl]; omega)
      rw [this]
      rfl
    · simp only [if_neg h0]
      refine hj _ ?_
      have : s.data.toList.isEmpty = false := by
        cases h : s.data.toList with
        | nil => rw [h, List.length_nil] at hl; exfalso; omega
        | cons => rfl
      rw [this, hl]
      simp only [Bool.not_false, Bool.true_and]
      by_cases h : s.data.toList.length ≤ 63
      · rw [decide_eq_true h, decide_eq_false (by omega)]; rfl
      · rw [decide_eq_false h, decide_eq_true (by omega)]; rfl
end Go.Proofs.YtikhpegamnnabaaDoor.Cm
namespace Go.Proofs.YtikhpegamnnabaaDoor.Cm
open Go.RowKit Go.Proofs.YtikhpegamnnabaaDoorW.PrintWords Go.Proofs.YtikhpegamnnabaaDoorW.PrintLast Go.Proofs.YtikhpegamnnabaaDoorW.PrintMore Go.Proofs.YtikhpegamnnabaaDoor.XP Go.Proofs.YtikhpegamnnabaaDoor.QA
set_option linter.unusedVariables false
set_option linter.unusedSimpArgs false
/-- What lies between the periods; cur is what was read since the last one. -/
def pcs : List UInt8 → List UInt8 → List (List UInt8)
  | cur, [] => [cur]
  | cur, c :: r => if c = 46 then cur :: pcs [] r else pcs (cur ++ [c]) r
def dots (l : List UInt8) : Nat := l.count 46
/-- The labels, each by its place. -/
def oks : Bool → List (List UInt8) → Bool
  | _, [] => true
  | first, x :: r => (ordB x || (first && decide (x = [42]))) && oks false r
end Go.Proofs.YtikhpegamnnabaaDoor.Cm
namespace Go.Proofs.YtikhpegamnnabaaDoor.Cm
open Go.RowKit Go.Proofs.YtikhpegamnnabaaDoorW.PrintWords Go.Proofs.YtikhpegamnnabaaDoorW.PrintLast Go.Proofs.YtikhpegamnnabaaDoorW.PrintMore Go.Proofs.YtikhpegamnnabaaDoor.XP Go.Proofs.YtikhpegamnnabaaDoor.QA
set_option linter.unusedVariables false
set_option linter.unusedSimpArgs false
/-- A domain name, by its bytes. -/
def nameB (l : List UInt8) : Bool := decide (l = [46]) || (decide (2 ≤ l.length ∧ l.length ≤ 254) && (decide (l.getLast? = some 46) && oks true (pcs [] l.dropLast)))
theorem wsub1 (n : Nat) (h : 1 ≤ n) (h2 : n ≤ 140737488351232) : wrap64 ((n : Int) - 1) = ((n - 1 : Nat) : Int) := by
  rw [wrap_id (by omega) (by omega)]
  omega
theorem last_iff (s : ByteArray) (h1 : 1 ≤ s.size) (hs : s.size ≤ 1000000) : (bt s ((s.size - 1 : Nat) : Int) = 46) ↔ s.data.toList.getLast? = some 46 := by
  have hsz := size_data s
  have hi : s.size - 1 < s.data.toList.length := by omega
  rw [bt_get s (s.size - 1) hi, List.getLast?_eq_getElem?, ← hsz, List.getElem?_eq_getElem hi]
  constructor
  · intro h
    have : (s.data.toList[s.size - 1]).toNat = 46 := by omega
    have h2 : s.data.toList[s.size - 1] = 46 := UInt8.toNat.inj this
    rw [h2]
  · intro h
    injection h with h
    rw [h]
    rfl
/-! ### the reference's -/
theorem rsplit_from (s : ByteArray) (hs : s.size ≤ 254) : ∀ (r : List UInt8) (i st : Nat) (l : List ByteArray), s.data.toList.drop i = r → st ≤ i → dots ((s.data.toList.drop st).take (i - st)) = 0 → l.length ≤ i → (s.data.toList.getLast? = some 46) →
    ∃ q : List ByteArray, Ev (fun k => ddiref01_split.l0 k s l (st : Int) (i : Int)) (q, if r = [] then true else oks (decide (st = 0)) (pcs ((s.data.toList.drop st).take (i - st)) r.dropLast))
  | [], i, st, l, h, hst, hd, hl, hlast => by
    have := size_end s i h
    refine ⟨l, Ev_shift 1 (f := fun _ => some (l, true)) (fun k => ?_) (Ev_const rfl)⟩
    rw [ddiref01_split.l0, if_neg (by omega)]
  | c :: r, i, st, l, h, hst, hd, hl, hlast => by
    have hsz := size_data s
    obtain ⟨hi, hb, hr⟩ := bt_at_drop s i c r h
    have hlen : r.length = s.size - (i + 1) := by rw [← hr, List.length_drop]; omega
    have hsb : s.size ≤ 140737488351232 := by omega
    have hcur : (s.data.toList.drop st).take (i + 1 - st) = (s.data.toList.drop st).take (i - st) ++ [c] := by
      have : i - st < (s.data.toList.drop st).length := by rw [List.length_drop]; omega
      rw [show i + 1 - st = (i - st) + 1 by omega, List.take_succ_eq_append_getElem this]
      congr 2
      rw [List.getElem_drop]
      have h2 := (drop_at h).2.1
      rw [← h2]
      congr 1
      omega
    by_cases hc : c = 46
    · subst hc
      have hx : (s.extract st i).data.toList = (s.data.toList.drop st).take (i - st) := data_ext s st i
      generalize hcr : (s.data.toList.drop st).take (i - st) = cur at hx hd hcur
      have hxs : (s.extract st i).size ≤ 140737488351232 := by
        rw [size_data, hx, ← hcr, List.length_take, List.length_drop]
        omega
      have hgo : (labB cur && !(decide (cur = [42]) && decide (0 < st))) = (ordB cur || (decide (st = 0) && decide (cur = [42]))) := by
        unfold labB
        by_cases h42 : cur = [42]
        · have ho : ordB cur = false := by rw [h42]; decide
          by_cases h0 : st = 0
          · simp [h42, h0]
          · have : 0 < st := by omega
            rw [ho]
            simp [h42, h0, this]
        · simp [h42]
          skip
      have hpc : (if ((46 : UInt8) :: r) = [] then true else oks (decide (st = 0)) (pcs cur ((46 : UInt8) :: r).dropLast)) = ((ordB cur || (decide (st = 0) && decide (cur = [42]))) && (if r = [] then true else oks false (pcs [] r.dropLast))) := by
        rw [if_neg (List.cons_ne_nil _ _)]
        cases r with
        | nil => rw [if_pos rfl, show ([46] : List UInt8).dropLast = [] from rfl, pcs, oks, oks]
        | cons c2 r2 => rw [if_neg (List.cons_ne_nil _ _), List.dropLast_cons_of_ne_nil (List.cons_ne_nil _ _), pcs, if_pos rfl, oks]
      rw [hpc]
      have hj : ∀ b : Bool, b = !(ordB cur || (decide (st = 0) && decide (cur = [42]))) → ∃ q : List ByteArray, Ev (fun k => ddiref01_split.j2 k s l (i : Int) (s.extract st i) b) (q, (ordB cur || (decide (st = 0) && decide (cur = [42]))) && (if r = [] then true else oks false (pcs [] r.dropLast))) := by
        intro b hbk
        cases hk : (ordB cur || (decide (st = 0) && decide (cur = [42]))) with
        | false =>
          rw [hk] at hbk
          subst hbk
          refine ⟨[], Ev_shift 1 (f := fun _ => some ([], false)) (fun k => ?_) (Ev_const rfl)⟩
          rw [ddiref01_split.j2]
          rfl
        | true =>
          rw [hk] at hbk
          subst hbk
          obtain ⟨q, ih⟩ := rsplit_from s hs r (i + 1) (i + 1) (l ++ [s.extract st i]) hr (Nat.le_refl _) (by rw [Nat.sub_self, List.take_zero]; rfl) (by simp; omega) hlast
          rw [Nat.sub_self, List.take_zero, show decide (i + 1 = 0) = false from decide_eq_false (by omega)] at ih
          refine ⟨q, Ev_shift 1 (fun k => ?_) (by rw [Bool.true_and]; exact ih)⟩
          rw [ddiref01_split.j2, Bool.not_true, if_neg (by decide), if_pos (by omega), next i s.size hi (by omega)]
      have hlab := lab_ev (s.extract st i) hxs
      rw [hx] at hlab
      have hfst : ∃ b : Bool, b = !(ordB cur || (decide (st = 0) && decide (cur = [42]))) ∧ ∀ q v, Ev (fun k => ddiref01_split.j2 k s l (i : Int) (s.extract st i) b) (q, v) → Ev (fun k => ddiref01_split.l0 k s l (st : Int) (i : Int)) (q, v) := by
        refine ⟨_, rfl, fun q v hq => ?_⟩
        refine Ev_shift 1 (fun k => by rw [ddiref01_split.l0, if_pos (by omega), if_pos (by omega), hb, if_pos (by rfl), if_pos (by omega), if_pos (by omega), if_pos (by omega), Int.toNat_natCast, Int.toNat_natCast]) ?_
        refine Ev.bind hlab ?_
        rw [toL, hx]
        rw [← hgo] at hq
        cases hl2 : labB cur with
        | false =>
          rw [hl2] at hq
          simp only [Bool.false_eq_true, if_false]
          exact hq
        | true =>
          rw [hl2] at hq
          simp only [if_true]
          by_cases h42 : cur = [42]
          · simp only [if_pos h42]
            rw [show decide ((st : Int) > 0) = decide (0 < st) from by rw [Bool.eq_iff_iff]; simp]
            simpa [h42] using hq
          · simp only [if_neg h42]
            simpa [h42] using hq
      obtain ⟨b, hb1, hb2⟩ := hfst
      obtain ⟨q, hq⟩ := hj b hb1
      exact ⟨q, hb2 q _ hq⟩
    · have hcn : ¬ (c.toNat : Int) = 46 := by
        intro e
        exact hc (UInt8.toNat.inj (by show c.toNat = 46; omega))
      have hd2 : dots ((s.data.toList.drop st).take (i + 1 - st)) = 0 := by
        rw [hcur, dots, List.count_append, List.count_singleton]
        have : (c == 46) = false := by simpa using hc
        rw [this]
        simpa [dots] using hd
      have hrn : r ≠ [] := by
        rintro rfl
        have : s.data.toList.getLast? = some c := by
          rw [← List.take_append_drop i s.data.toList, h]
          simp
        rw [this] at hlast
        injection hlast with hlast
        exact hc hlast
      obtain ⟨q, ih⟩ := rsplit_from s hs r (i + 1) st l hr (by omega) hd2 (by omega) hlast
      refine ⟨q, Ev_shift 1 (f := fun k => ddiref01_split.l0 k s l (st : Int) ((i + 1 : Nat) : Int)) (fun k => ?_) ?_⟩
      · rw [ddiref01_split.l0, if_pos (by omega), if_pos (by omega), hb, if_neg hcn, next i s.size hi (by omega)]
      · rw [if_neg (List.cons_ne_nil _ _), List.dropLast_cons_of_ne_nil hrn, pcs, if_neg hc, ← hcur]
        rw [if_neg hrn] at ih
        exact ih
theorem rname_ev (s : ByteArray) (hs : s.size ≤ 140737488351232) : Ev (fun k => ddiref01_Valid.f k s) (nameB s.data.toList) := by
  have hsz := size_data s
  unfold ddiref01_Valid.f ddiref01_split.f nameB
  rw [toL]
  have hbad : ∀ v : Bool, v = false → Ev (fun k => (ddiref01_split.j0 k s true).bind fun bt => some bt.2) v := by
    rintro v rfl
    refine Ev.bind (a := (([] : List ByteArray), false)) ?_ (Ev_const rfl)
    exact Ev_shift 1 (f := fun _ => some ([], false)) (fun k => by rw [ddiref01_split.j0, if_pos rfl]) (Ev_const rfl)
  by_cases h46 : s.data.toList = [46]
  · simp only [if_pos h46, h46, decide_true, Bool.true_or, Option.bind_some]
    exact Ev_const rfl
  · simp only [h46, if_false, decide_false, Bool.false_or]
    by_cases h2 : (s.size : Int) < 2
    · simp only [if_pos h2]
      exact hbad _ (by rw [show decide (2 ≤ s.data.toList.length ∧ s.data.toList.length ≤ 254) = false from decide_eq_false (by omega)]; rfl)
    · simp only [if_neg h2]
      by_cases h254 : (s.size : Int) > 254
      · simp only [if_pos h254]
        exact hbad _ (by rw [show decide (2 ≤ s.data.toList.length ∧ s.data.toList.length ≤ 254) = false from decide_eq_false (by omega)]; rfl)
      · simp only [if_neg h254]
        simp only [wsub1 s.size (by omega) hs, if_pos (show (0 : Int) ≤ ((s.size - 1 : Nat) : Int) by omega), if_pos (show ((s.size - 1 : Nat) : Int) < (s.size : Int) by omega)]
        rw [show decide (2 ≤ s.data.toList.length ∧ s.data.toList.length ≤ 254) = true from decide_eq_true (by omega), Bool.true_and]
        have hli := last_iff s (by omega) (by omega)
        by_cases hl : s.data.toList.getLast? = some 46
        · have hb : (bt s ((s.size - 1 : Nat) : Int) != 46) = false := by simpa using hli.2 hl
          rw [hb, hl, decide_eq_true rfl, Bool.true_and]
          obtain ⟨q, hq⟩ := rsplit_from s (by omega) s.data.toList 0 0 [] rfl (Nat.le_refl _) (by rw [Nat.sub_self, List.take_zero]; rfl) (by simp) hl
          have hne : s.data.toList ≠ [] := by
            intro e
            rw [e] at hl
            cases hl
          rw [if_neg hne, Nat.sub_self, List.take_zero] at hq
          refine Ev.bind (Ev_shift 1 (fun k => by rw [ddiref01_split.j0, if_neg (by decide)]; rfl) hq) (Ev_const rfl)
        · have hb : (bt s ((s.size - 1 : Nat) : Int) != 46) = true := by
            rw [bne_iff_ne]
            exact fun e => hl (hli.1 e)
          rw [hb]
          exact hbad _ (by rw [decide_eq_false hl]; rfl)
end Go.Proofs.YtikhpegamnnabaaDoor.Cm
namespace Go.Proofs.YtikhpegamnnabaaDoor.Cm
open Go.RowKit Go.Proofs.YtikhpegamnnabaaDoorW.PrintWords Go.Proofs.YtikhpegamnnabaaDoorW.PrintLast Go.Proofs.YtikhpegamnnabaaDoorW.PrintMore Go.Proofs.YtikhpegamnnabaaDoor.XP Go.Proofs.YtikhpegamnnabaaDoor.QA
set_option linter.unusedVariables false
set_option linter.unusedSimpArgs false
def ea (a x : S24) : Bool := a.f0 == x.f0 && (a.f1 == x.f1 && (a.f2 == x.f2))
theorem ea_iff (a x : S24) : ea a x = true ↔ a = x := by
  obtain ⟨a0, a1, a2⟩ := a
  obtain ⟨x0, x1, x2⟩ := x
  simp [ea]
theorem ea_self (a : S24) : ea a a = true := (ea_iff a a).2 rfl
theorem ea_ne (a x : S24) : ea a x = false ↔ a ≠ x := by
  rw [← Bool.not_eq_true, ea_iff]
def cmp (a b : S24) : Int := if (a.f0 != b.f0) = true then (if b.f0 = true then -1 else 1) else (if a.f1 = b.f1 then (if a.f2 < b.f2 then -1 else (if a.f2 > b.f2 then 1 else 0)) else (if a.f1 < b.f1 then -1 else 1))
theorem rcmp (a b : S24) : ddiref02_Compare.f a.f0 a.f1 a.f2 b.f0 b.f1 b.f2 = some (cmp a b) := by
  unfold ddiref02_Compare.f cmp
  repeat' split
  all_goals first | rfl | omega
theorem num (a b : Int) : addr_number.f a b = some (if a < b then -1 else (if a > b then 1 else 0)) := by
  unfold addr_number.f
  repeat' split
  all_goals rfl
theorem ucmp (a b : S24) : Ev (fun k => addr_Compare.f k a.f0 a.f1 a.f2 b.f0 b.f1 b.f2) (cmp a b) := by
  refine Ev_shift 1 (f := fun _ => some (cmp a b)) (fun k => ?_) (Ev_const rfl)
  unfold addr_Compare.f addr_Compare.j0 cmp
  simp only [num]
  cases h0 : a.f0 <;> cases h1 : b.f0 <;> simp
  all_goals
    by_cases h : a.f1 = b.f1
    · simp [h]
    · simp only [h, if_false]
      by_cases h2 : a.f1 < b.f1
      · simp [h2]
      · simp [h2]
        omega
theorem cmp_zero (a b : S24) : cmp a b = 0 ↔ a = b := by
  obtain ⟨a0, a1, a2⟩ := a
  obtain ⟨b0, b1, b2⟩ := b
  simp only [cmp, S24.mk.injEq]
  cases a0 <;> cases b0 <;> simp <;> repeat' split
  all_goals omega
theorem cmp_self (a : S24) : cmp a a = 0 := (cmp_zero a a).2 rfl
theorem cmp_flip (a b : S24) : cmp b a = -cmp a b := by
  obtain ⟨a0, a1, a2⟩ := a
  obtain ⟨b0, b1, b2⟩ := b
  simp only [cmp]
  cases a0 <;> cases b0 <;> simp <;> repeat' split
  all_goals omega
theorem cmp_trans {a b c : S24} : cmp a b < 0 → cmp b c < 0 → cmp a c < 0 := by
  obtain ⟨a0, a1, a2⟩ := a
  obtain ⟨b0, b1, b2⟩ := b
  obtain ⟨c0, c1, c2⟩ := c
  simp only [cmp]
  cases a0 <;> cases b0 <;> cases c0 <;> simp <;> repeat' split
  all_goals omega
end Go.Proofs.YtikhpegamnnabaaDoor.Cm
namespace Go.Proofs.YtikhpegamnnabaaDoor.Ma
open Go.RowKit Go.Proofs.YtikhpegamnnabaaDoorW.PrintWords Go.Proofs.YtikhpegamnnabaaDoorW.PrintLast Go.Proofs.YtikhpegamnnabaaDoorW.PrintMore Go.Proofs.YtikhpegamnnabaaDoor.XP Go.Proofs.YtikhpegamnnabaaDoor.QA Go.Proofs.YtikhpegamnnabaaDoor.Cm
set_option linter.unusedVariables false
set_option linter.unusedSimpArgs false
def vis (c : UInt8) : Bool := decide (33 ≤ c.toNat) && decide (c.toNat ≤ 126)
def szB (n : Nat) : Bool := decide (1 ≤ n) && decide (n ≤ 32)
theorem vis_at (c : UInt8) {β : Type} (g : Bool → β) : (if (c.toNat : Int) < 33 then g true else g (decide ((c.toNat : Int) > 126))) = g (!vis c) := by
  unfold vis
  split
  · rw [decide_eq_false (show ¬ 33 ≤ c.toNat by omega)]; rfl
  · rw [decide_eq_true (show 33 ≤ c.toNat by omega), Bool.true_and]
    congr 1
    rw [Bool.eq_iff_iff]
    simp
    omega
theorem rcli_from (s : ByteArray) (hs : s.size ≤ 140737488351232) : ∀ (r : List UInt8) (i : Nat), s.data.toList.drop i = r → Ev (fun k => ddiref38_Client.l0 k s (i : Int)) (r.all vis)
  | [], i, h => by
    have := size_end s i h
    exact Ev_shift 1 (f := fun _ => some true) (fun k => by rw [ddiref38_Client.l0, if_neg (by omega)]) (Ev_const rfl)
  | c :: r, i, h => by
    obtain ⟨hi, hb, hr⟩ := bt_at_drop s i c r h
    have ih := rcli_from s hs r (i + 1) hr
    refine Ev_shift 1 (f := fun k => ddiref38_Client.j2 k s (i : Int) (!vis c)) (fun k => ?_) ?_
    · rw [ddiref38_Client.l0, if_pos (by omega), if_pos (by omega), hb]
      exact vis_at c (fun b => ddiref38_Client.j2 k s (i : Int) b)
    · rw [List.all_cons]
      cases vis c with
      | false => exact Ev_shift 1 (f := fun _ => some false) (fun k => by rw [ddiref38_Client.j2]; rfl) (Ev_const rfl)
      | true =>
        rw [Bool.true_and]
        exact Ev_shift 1 (fun k => by rw [ddiref38_Client.j2, next i s.size hi (by omega)]; rfl) ih
def cliB (s : ByteArray) : Bool := s.data.toList.all vis && szB s.size
theorem rcli_ev (s : ByteArray) (hs : s.size ≤ 140737488351232) : Ev (fun k => ddiref38_Client.f k s) (cliB s) := by
  unfold ddiref38_Client.f cliB
  have hj : ∀ b : Bool, b = !szB s.size → Ev (fun k => ddiref38_Client.j0 k s b) (s.data.toList.all vis && szB s.size) := by
    intro b hb
    cases h : szB s.size with
    | false =>
      rw [h] at hb
      subst hb
      rw [Bool.and_false]
      exact Ev_shift 1 (f := fun _ => some false) (fun k => by rw [ddiref38_Client.j0]; rfl) (Ev_const rfl)
    | true =>
      rw [h] at hb
      subst hb
      rw [Bool.and_true]
      exact Ev_shift 1 (fun k => by rw [ddiref38_Client.j0]; rfl) (rcli_from s hs s.data.toList 0 rfl)
  by_cases h : (s.size : Int) < 1
  · simp only [if_pos h]
    exact hj true (by unfold szB; rw [decide_eq_false (by omega)]; rfl)
  · simp only [if_neg h]
    refine hj _ ?_
    unfold szB
    rw [decide_eq_true (show 1 ≤ s.size by omega), Bool.true_and, Bool.eq_iff_iff]
    simp
    omega
def hostB (s : ByteArray) : Bool := decide (s.data.toList = []) || nameB s.data.toList
def timeB (t : Int) : Bool := decide (0 ≤ t) && decide (t ≤ 4294967295)
theorem time_v (t : Int) : lease_isTime.f t = some (timeB t) := by
  unfold lease_isTime.f timeB
  by_cases h : t ≥ 0
  · rw [if_pos h, decide_eq_true h, Bool.true_and]
  · rw [if_neg h, decide_eq_false h]; rfl
theorem rtime_v (t : Int) : ddiref38_Time.f t = some (timeB t) := time_v t
def adB (x : S24) : Bool := x.f0 || (decide (x.f1 = 0) && decide (x.f2 ≤ 4294967295))
theorem ad_v (x : S24) : addr_Valid.f x.f0 x.f1 x.f2 = some (adB x) := by
  unfold addr_Valid.f adB
  by_cases h : x.f0 = true
  · rw [if_pos h, h]; rfl
  · have : x.f0 = false := by simpa using h
    rw [if_neg h, this, Bool.false_or]
    by_cases h1 : x.f1 = 0
    · rw [if_pos h1, decide_eq_true h1, Bool.true_and]
    · rw [if_neg h1, decide_eq_false h1]; rfl
theorem rad_v (x : S24) : ddiref02_Valid.f x.f0 x.f1 x.f2 = some (adB x) := by
  rw [← ad_v]
  unfold ddiref02_Valid.f addr_Valid.f
  split
  · rfl
  · split
    · congr 1
      rw [Bool.eq_iff_iff]
      simp
      omega
    · rfl
/-- A lease's own form: 3 the address, 1 the arguments, 2 the name, 0 in order. -/
def argB (x : S26) : Bool := decide (1 ≤ x.f2) && (decide (x.f2 ≤ 5) && (cliB x.f1 && (timeB x.f6 && (timeB x.f3 && (timeB x.f4 && decide (x.f3 ≤ x.f4))))))
def one (x : S26) : Int := if adB x.f0 = true then (if argB x = true then (if hostB x.f5 = true then 0 else 2) else 1) else 3
def upB : Option S24 → S24 → Bool
  | none, _ => true
  | some p, a => decide (cmp p a < 0)
def chk (p : Option S24) : List S26 → Int
  | [] => 0
  | x :: r => if adB x.f0 = true then (if upB p x.f0 = true then (if one x = 0 then chk (some x.f0) r else one x) else 7) else 3
end Go.Proofs.YtikhpegamnnabaaDoor.Ma
namespace Go.Proofs.YtikhpegamnnabaaDoor.Ma
open Go.RowKit Go.Proofs.YtikhpegamnnabaaDoorW.PrintWords Go.Proofs.YtikhpegamnnabaaDoorW.PrintLast Go.Proofs.YtikhpegamnnabaaDoorW.PrintMore Go.Proofs.YtikhpegamnnabaaDoor.XP Go.Proofs.YtikhpegamnnabaaDoor.QA Go.Proofs.YtikhpegamnnabaaDoor.Cm
set_option linter.unusedVariables false
set_option linter.unusedSimpArgs false
theorem rd26 (l : List S26) (i : Nat) (x : S26) (r : List S26) (h : l.drop i = x :: r) : i < l.length ∧ rd_T26 l (i : Int) = x ∧ l.drop (i + 1) = r := by
  obtain ⟨hi, hx, hr⟩ := drop_at h
  refine ⟨hi, ?_, hr⟩
  simp [rd_T26, List.getD_eq_getElem?_getD, List.getElem?_eq_getElem hi, hx]
theorem one_true (x : S26) (h1 : adB x.f0 = true) : one x = if argB x = true then (if hostB x.f5 = true then 0 else 2) else 1 := by
  unfold one
  rw [if_pos h1]
theorem rone_ev (x : S26) (hx : okS26 x) : Ev (fun k => ddiref38_One.f k x.f0.f0 x.f0.f1 x.f0.f2 x.f1 x.f2 x.f3 x.f4 x.f5 x.f6) (one x) := by
  unfold ddiref38_One.f
  simp only [rad_v, Option.bind_some]
  cases had : adB x.f0 with
  | false => exact Ev_const (by unfold one; rw [had]; rfl)
  | true =>
    rw [one_true x had]
    have hj1 : ∀ b : Bool, Ev (fun k => ddiref38_One.j1 k b) (if b = true then 2 else 0) := by
      intro b
      refine Ev_shift 1 (f := fun _ => some (if b = true then 2 else 0)) (fun k => ?_) (Ev_const rfl)
      rw [ddiref38_One.j1]
      cases b <;> rfl
    have hj0 : ∀ b : Bool, b = !argB x → Ev (fun k => ddiref38_One.j0 k b x.f0.f0 x.f0.f1 x.f0.f2 x.f1 x.f2 x.f3 x.f4 x.f5 x.f6) (if argB x = true then (if hostB x.f5 = true then 0 else 2) else 1) := by
      rintro b rfl
      cases argB x with
      | false => exact Ev_shift 1 (f := fun _ => some 1) (fun k => by rw [ddiref38_One.j0, Bool.not_false, if_pos rfl]) (Ev_const rfl)
      | true =>
        refine Ev_shift 1 (fun k => by rw [ddiref38_One.j0, Bool.not_true, if_neg Bool.false_ne_true, toL]) ?_
        unfold hostB
        by_cases h : x.f5.data.toList = []
        · simp only [h, decide_true, Bool.true_or, if_true]
          exact hj1 false
        · simp only [h, decide_false, Bool.false_or, if_false]
          refine Ev.bind (rname_ev x.f5 hx.2.2.2.2.2.1) ?_
          have := hj1 (!nameB x.f5.data.toList)
          cases hn : nameB x.f5.data.toList <;> rw [hn] at this <;> exact this
    simp only [if_true, rtime_v, Option.bind_some]
    by_cases h1 : x.f2 < 1
    · simp only [if_pos h1]
      exact hj0 true (by unfold argB; rw [decide_eq_false (show ¬ 1 ≤ x.f2 by omega)]; rfl)
    · simp only [if_neg h1]
      have a1 : decide (1 ≤ x.f2) = true := decide_eq_true (by omega)
      by_cases h5 : x.f2 > 5
      · simp only [if_pos h5]
        exact hj0 true (by unfold argB; rw [a1, decide_eq_false (show ¬ x.f2 ≤ 5 by omega)]; rfl)
      · simp only [if_neg h5]
        have a5 : decide (x.f2 ≤ 5) = true := decide_eq_true (by omega)
        refine Ev.bind (rcli_ev x.f1 hx.2.1) ?_
        have hab : argB x = (cliB x.f1 && (timeB x.f6 && (timeB x.f3 && (timeB x.f4 && decide (x.f3 ≤ x.f4))))) := by
          unfold argB
          rw [a1, a5, Bool.true_and, Bool.true_and]
        cases hc : cliB x.f1 with
        | false =>
          simp only [Bool.false_eq_true, if_false]
          exact hj0 true (by rw [hab, hc]; rfl)
        | true =>
          cases h3 : timeB x.f3 with
          | false =>
            simp only [Bool.false_eq_true, if_false, if_true]
            exact hj0 true (by rw [hab, h3]; cases cliB x.f1 <;> cases timeB x.f6 <;> rfl)
          | true =>
            cases h4 : timeB x.f4 with
            | false =>
              simp only [Bool.false_eq_true, if_false, if_true]
              exact hj0 true (by rw [hab, h4]; cases cliB x.f1 <;> cases timeB x.f6 <;> cases timeB x.f3 <;> rfl)
            | true =>
              by_cases h : x.f3 > x.f4
              · simp only [if_true, if_pos h]
                exact hj0 true (by rw [hab, decide_eq_false (show ¬ x.f3 ≤ x.f4 by omega)]; cases cliB x.f1 <;> cases timeB x.f6 <;> cases timeB x.f3 <;> cases timeB x.f4 <;> rfl)
              · simp only [if_true, if_neg h]
                exact hj0 _ (by rw [hab, hc, h3, h4, decide_eq_true (show x.f3 ≤ x.f4 by omega)]; cases timeB x.f6 <;> rfl)
theorem rcheck_from (l : List S26) (hl : l.length ≤ 140737488351232) (ok : ∀ y ∈ l, okS26 y) : ∀ (r : List S26) (i : Nat) (p : Option S24), l.drop i = r → (i = 0 → p = none) → (∀ j : Nat, i = j + 1 → p = some (rd_T26 l (j : Int)).f0) → Ev (fun k => ddiref38_Check.l0 k l (i : Int)) (chk p r)
  | [], i, p, h, _, _ => by
    have := drop_end h
    exact Ev_shift 1 (f := fun _ => some 0) (fun k => by rw [ddiref38_Check.l0, if_neg (by omega)]) (Ev_const rfl)
  | x :: r, i, p, h, hp0, hp1 => by
    obtain ⟨hi, hx, hr⟩ := rd26 l i x r h
    have hxl : x ∈ l := List.mem_of_mem_drop (i := i) (by rw [h]; exact List.mem_cons_self ..)
    have ih := rcheck_from l hl ok r (i + 1) (some x.f0) hr (fun e => by omega) (fun j e => by
      have : j = i := by omega
      rw [this, hx])
    rw [← next i l.length hi (by omega)] at ih
    unfold chk
    cases had : adB x.f0 with
    | false => exact Ev_shift 1 (f := fun _ => some 3) (fun k => by rw [ddiref38_Check.l0, if_pos (by omega), if_pos (by omega), hx, rad_v, had]; rfl) (Ev_const rfl)
    | true =>
      rw [if_pos rfl]
      have h1 : ∀ b : Bool, b = !upB p x.f0 → Ev (fun k => ddiref38_Check.j1 k l (i : Int) b) (if upB p x.f0 = true then (if one x = 0 then chk (some x.f0) r else one x) else 7) := by
        rintro b rfl
        cases upB p x.f0 with
        | false => exact Ev_shift 1 (f := fun _ => some 7) (fun k => by rw [ddiref38_Check.j1, Bool.not_false, if_pos rfl]) (Ev_const rfl)
        | true =>
          refine Ev_shift 1 (fun k => by rw [ddiref38_Check.j1, Bool.not_true, if_neg Bool.false_ne_true, if_pos (by omega), if_pos (by omega), hx]) ?_
          refine Ev.bind (rone_ev x (ok x hxl)) ?_
          by_cases h0 : one x = 0
          · simp only [if_pos h0, if_true]
            exact ih
          · simp only [if_neg h0, if_true]
            exact Ev_const rfl
      cases i with
      | zero =>
        refine Ev_shift 1 (fun k => by rw [ddiref38_Check.l0, if_pos (by omega), if_pos (by omega), hx, rad_v, had, Option.bind_some, if_pos rfl, if_neg (by omega)]) ?_
        exact h1 false (by rw [hp0 rfl]; rfl)
      | succ j =>
        have hpj := hp1 j rfl
        have hj : (wrap64 (((j + 1 : Nat) : Int) - 1)) = (j : Int) := wsub1 (j + 1) (by omega) (by omega)
        have e0 : (0 : Int) ≤ (j : Int) := by omega
        have e1 : (j : Int) < (l.length : Int) := by omega
        have e2 : ((j + 1 : Nat) : Int) > 0 := by omega
        refine Ev_shift 1 (fun k => by rw [ddiref38_Check.l0, if_pos (by omega), if_pos (by omega), hx, rad_v, had, Option.bind_some, if_pos rfl, if_pos e2, hj, if_pos e0, if_pos e1, rcmp, Option.bind_some]) ?_
        refine h1 _ ?_
        rw [hpj]
        unfold upB
        rw [Bool.eq_iff_iff]
        simp
/-- The check of a table. -/
def chkT (l : List S26) : Int := if l.length > 512 then 9 else chk none l
theorem rcheck_ev (l : List S26) (hl : l.length ≤ 140737488351232) (ok : ∀ y ∈ l, okS26 y) : Ev (fun k => ddiref38_Check.f k l) (chkT l) := by
  unfold ddiref38_Check.f chkT
  by_cases h : l.length > 512
  · simp only [if_pos h, if_pos (show (l.length : Int) > 512 by omega)]
    exact Ev_const rfl
  · simp only [if_neg h, if_neg (show ¬ (l.length : Int) > 512 by omega)]
    exact rcheck_from l hl ok l 0 none rfl (fun _ => rfl) (fun j e => by omega)
end Go.Proofs.YtikhpegamnnabaaDoor.Ma
namespace Go.Proofs.YtikhpegamnnabaaDoor.Ma
open Go.RowKit Go.Proofs.YtikhpegamnnabaaDoorW.PrintWords Go.Proofs.YtikhpegamnnabaaDoorW.PrintLast Go.Proofs.YtikhpegamnnabaaDoorW.PrintMore Go.Proofs.YtikhpegamnnabaaDoor.XP Go.Proofs.YtikhpegamnnabaaDoor.QA Go.Proofs.YtikhpegamnnabaaDoor.Cm
set_option linter.unusedVariables false
set_option linter.unusedSimpArgs false
theorem awake_k : ddilaw45_awake.f 400 = some true := by decide +kernel
theorem awake_ev : Ev (fun k => ddilaw45_awake.f k) true := ⟨400, fun k hk => at_rounds (g := fun k => ddilaw45_awake.f k) ddilaw45_awake.mono hk awake_k⟩
def Srt (l : List S26) : Prop := l.Pairwise fun x y => cmp x.f0 y.f0 < 0
theorem chk_srt : ∀ (l : List S26) (p : Option S24), chk p l = 0 → (∀ q, p = some q → ∀ x ∈ l, cmp q x.f0 < 0) ∧ Srt l
  | [], p, _ => ⟨fun _ _ x hx => absurd hx List.not_mem_nil, List.Pairwise.nil⟩
  | x :: r, p, h => by
    unfold chk at h
    split at h
    · split at h
      · split at h
        · rename_i h1 h2 h3
          obtain ⟨i1, i2⟩ := chk_srt r (some x.f0) h
          refine ⟨?_, List.pairwise_cons.2 ⟨fun y hy => i1 _ rfl y hy, i2⟩⟩
          rintro q rfl y hy
          have hq : cmp q x.f0 < 0 := of_decide_eq_true h2
          rcases List.mem_cons.1 hy with rfl | hy
          · exact hq
          · exact cmp_trans hq (i1 _ rfl y hy)
        · rename_i h3
          exact absurd h h3
      · cases h
    · cases h
theorem chkT_zero (l : List S26) (h : chkT l = 0) : l.length ≤ 512 ∧ Srt l := by
  unfold chkT at h
  split at h
  · cases h
  · exact ⟨by omega, (chk_srt l none h).2⟩
theorem same_from (l : List S26) (hl : l.length ≤ 1000000) : ∀ (d i : Nat), l.length - i ≤ d → i ≤ l.length → Ev (fun k => ddiref38_Same.l0 k l l (i : Int)) true
  | d, i, hd, hi => by
    by_cases h : i < l.length
    · cases d with
      | zero => exact absurd hd (by omega)
      | succ d =>
        have ih := same_from l hl d (i + 1) (by omega) (by omega)
        refine Ev_shift 1 (fun k => ?_) ih
        rw [ddiref38_Same.l0, if_pos (by omega), if_pos (by omega), if_pos (by omega), next i l.length h (by omega)]
        simp only [beq_self_eq_true, Bool.not_true, Bool.or_false, Bool.false_eq_true, if_false]
    · exact Ev_shift 1 (f := fun _ => some true) (fun k => by rw [ddiref38_Same.l0, if_neg (by omega)]) (Ev_const rfl)
theorem same_ev (l : List S26) (hl : l.length ≤ 1000000) : Ev (fun k => ddiref38_Same.f k l l) true := by
  unfold ddiref38_Same.f
  simp only [if_true]
  exact same_from l hl l.length 0 (by omega) (by omega)
/-! ### Put -/
def fa (x : S26) : List S26 → List S26 × List S26
  | [] => ([], [])
  | y :: r => if cmp y.f0 x.f0 = 0 then ([], r) else (if cmp y.f0 x.f0 > 0 then ([], y :: r) else (y :: (fa x r).1, (fa x r).2))
def putE (x : S26) (l : List S26) : List S26 := (fa x l).1 ++ x :: (fa x l).2
theorem putE_len (x : S26) : ∀ l : List S26, (putE x l).length ≤ l.length + 1
  | [] => by simp [putE, fa]
  | y :: r => by
    have ih := putE_len x r
    unfold putE at *
    unfold fa
    split
    · simp
    · split
      · simp
      · simp only [List.cons_append, List.length_cons]
        omega
theorem put_from (x : S26) (l : List S26) (hl : l.length ≤ 512) : ∀ (r : List S26) (i : Nat), l.drop i = r → Ev (fun k => leasefile_Put.l0 k x l i r) (l.take i ++ putE x r)
  | [], i, h => by
    have hi := drop_end h
    simp only [leasefile_Put.l0, if_pos (show (l.length + 1) * 88 ≤ 140737488355328 by omega)]
    refine Ev_const ?_
    rw [List.take_of_length_le (by omega)]
    rfl
  | y :: r, i, h => by
    obtain ⟨hi, hy, hr⟩ := drop_at h
    have ih := put_from x l hl r (i + 1) hr
    simp only [leasefile_Put.l0]
    refine Ev_bind (ucmp y.f0 x.f0) ?_
    unfold putE fa
    by_cases h0 : cmp y.f0 x.f0 = 0
    · simp only [if_pos h0]
      refine Ev_const ?_
      rw [List.set_eq_take_append_cons_drop, if_pos hi, hr]
      rfl
    · by_cases h1 : cmp y.f0 x.f0 > 0
      · simp only [if_neg h0, if_pos h1]
        unfold slices_Insert.f
        simp only [if_pos (show (0 : Int) ≤ (i : Int) by omega), if_pos (show (i : Int) ≤ (l.length : Int) by omega), if_pos (show (l.length + [x].length) * 88 ≤ 140737488355328 by simp only [List.length_cons, List.length_nil]; omega), Int.toNat_natCast, h]
        refine Ev_const ?_
        simp
      · simp only [if_neg h0, if_neg h1]
        rw [List.take_succ_eq_append_getElem hi, hy] at ih
        unfold putE at ih
        simpa using ih
theorem put_ev (x : S26) (l : List S26) (hl : l.length ≤ 512) : Ev (fun k => leasefile_Put.f k l x.f0.f0 x.f0.f1 x.f0.f2 x.f1 x.f2 x.f3 x.f4 x.f5 x.f6) (putE x l) := by
  unfold leasefile_Put.f slices_Clone.f
  simp only [if_pos (show l.length * 88 ≤ 140737488355328 by omega), Option.bind_some]
  exact put_from x l hl l 0 rfl
def loopP (x : S26) : List S26 → Bool → List S26
  | [], pl => if pl = true then [] else [x]
  | y :: r, pl => (if pl = false ∧ cmp y.f0 x.f0 ≥ 0 then [x] else []) ++ ((if cmp y.f0 x.f0 = 0 then [] else [y]) ++ loopP x r (pl || decide (cmp y.f0 x.f0 ≥ 0)))
theorem rput_from (l : List S26) (hl : l.length ≤ 512) (x : S26) : ∀ (r : List S26) (i : Nat) (q : List S26) (pl : Bool), l.drop i = r → q.length ≤ 2 * i → i ≤ 512 → Ev (fun k => ddiref45_Put.l0 k l q pl (i : Int) x.f0.f0 x.f0.f1 x.f0.f2 x.f1 x.f2 x.f3 x.f4 x.f5 x.f6) (q ++ loopP x r pl)
  | [], i, q, pl, h, hq, hi5 => by
    have hi := drop_end h
    unfold loopP
    cases pl with
    | true => exact Ev_shift 1 (f := fun _ => some q) (fun k => by rw [ddiref45_Put.l0, if_neg (by omega), if_pos rfl]) (Ev_const (by simp))
    | false =>
      have hb : q.length < 1599289640401 := by omega
      exact Ev_shift 1 (f := fun _ => some (q ++ [x])) (fun k => by rw [ddiref45_Put.l0, if_neg (by omega), if_neg Bool.false_ne_true, if_pos hb]) (Ev_const (by simp))
  | y :: r, i, q, pl, h, hq, _ => by
    obtain ⟨hi, hy, hr⟩ := rd26 l i y r h
    have ih := fun q pl h => rput_from l hl x r (i + 1) q pl hr h (by omega)
    have h4 : ∀ (q2 : List S26) (pl2 : Bool), q2.length ≤ 2 * i + 1 → Ev (fun k => ddiref45_Put.j2 k l q2 pl2 (i : Int) (cmp y.f0 x.f0) x.f0.f0 x.f0.f1 x.f0.f2 x.f1 x.f2 x.f3 x.f4 x.f5 x.f6) ((q2 ++ (if cmp y.f0 x.f0 = 0 then [] else [y])) ++ loopP x r pl2) := by
      intro q2 pl2 hq2
      by_cases h0 : cmp y.f0 x.f0 = 0
      · rw [if_pos h0]
        have := ih q2 pl2 (by omega)
        exact Ev_shift 1 (fun k => by rw [ddiref45_Put.j2, if_pos h0, next i l.length hi (by omega)]) (by rw [List.append_nil]; exact this)
      · rw [if_neg h0]
        have := ih (q2 ++ [y]) pl2 (by simp; omega)
        exact Ev_shift 1 (fun k => by rw [ddiref45_Put.j2, if_neg h0, if_pos (by omega), if_pos (by omega), if_pos (by omega), hy, next i l.length hi (by omega)]) this
    have hgo : ∀ b : Bool, b = (!pl && decide (cmp y.f0 x.f0 ≥ 0)) → Ev (fun k => ddiref45_Put.j1 k l q pl (i : Int) (cmp y.f0 x.f0) b x.f0.f0 x.f0.f1 x.f0.f2 x.f1 x.f2 x.f3 x.f4 x.f5 x.f6) (q ++ loopP x (y :: r) (pl)) := by
      rintro b rfl
      have hq1 : q.length < 1599289640401 := by omega
      unfold loopP
      cases pl with
      | true =>
        rw [if_neg (by simp), List.nil_append, ← List.append_assoc]
        exact Ev_shift 1 (fun k => by rw [ddiref45_Put.j1, Bool.not_true, Bool.false_and, if_neg Bool.false_ne_true]) (h4 q true (by omega))
      | false =>
        by_cases hc : cmp y.f0 x.f0 ≥ 0
        · rw [if_pos ⟨rfl, hc⟩, decide_eq_true hc]
          have := h4 (q ++ [x]) true (by simp; omega)
          rw [List.append_assoc, List.append_assoc] at this
          exact Ev_shift 1 (fun k => by rw [ddiref45_Put.j1, Bool.not_false, Bool.true_and, if_pos rfl, if_pos hq1]) this
        · rw [if_neg (fun h => hc h.2), decide_eq_false hc, List.nil_append, ← List.append_assoc]
          exact Ev_shift 1 (fun k => by rw [ddiref45_Put.j1, Bool.not_false, Bool.true_and, if_neg Bool.false_ne_true]) (h4 q false (by omega))
    by_cases hc : cmp y.f0 x.f0 ≥ 0
    · exact Ev_shift 1 (fun k => by rw [ddiref45_Put.l0, if_pos (by omega), if_pos (by omega), hy, rcmp, Option.bind_some, if_pos hc]) (hgo (!pl) (by rw [decide_eq_true hc, Bool.and_true]))
    · exact Ev_shift 1 (fun k => by rw [ddiref45_Put.l0, if_pos (by omega), if_pos (by omega), hy, rcmp, Option.bind_some, if_neg hc]) (hgo false (by rw [decide_eq_false hc, Bool.and_false]))
theorem loop_keep (x : S26) : ∀ (r : List S26), (∀ y ∈ r, cmp x.f0 y.f0 < 0) → loopP x r true = r
  | [], _ => rfl
  | y :: r, h => by
    have h1 := h y List.mem_cons_self
    have h2 := cmp_flip x.f0 y.f0
    unfold loopP
    rw [if_neg (by simp), if_neg (by omega), Bool.true_or, loop_keep x r (fun z hz => h z (List.mem_cons_of_mem _ hz))]
    rfl
theorem loop_put (x : S26) : ∀ (l : List S26), Srt l → loopP x l false = putE x l
  | [], _ => rfl
  | y :: r, hs => by
    obtain ⟨h1, h2⟩ := List.pairwise_cons.1 hs
    unfold loopP putE fa
    by_cases h0 : cmp y.f0 x.f0 = 0
    · have he : y.f0 = x.f0 := (cmp_zero _ _).1 h0
      rw [if_pos ⟨rfl, by omega⟩, if_pos h0, if_pos h0, decide_eq_true (by omega), Bool.or_true, loop_keep x r (fun z hz => by rw [← he]; exact h1 z hz)]
      rfl
    · by_cases h3 : cmp y.f0 x.f0 > 0
      · have hf := cmp_flip y.f0 x.f0
        rw [if_pos ⟨rfl, by omega⟩, if_neg h0, if_neg h0, if_pos h3, decide_eq_true (by omega), Bool.or_true, loop_keep x r (fun z hz => cmp_trans (by omega) (h1 z hz))]
        rfl
      · rw [if_neg (by omega), if_neg h0, if_neg h0, if_neg h3, decide_eq_false (by omega), Bool.or_false, loop_put x r h2]
        rfl
theorem rput_ev (x : S26) (l : List S26) (hl : l.length ≤ 512) (hs : Srt l) : Ev (fun k => ddiref45_Put.f k l x.f0.f0 x.f0.f1 x.f0.f2 x.f1 x.f2 x.f3 x.f4 x.f5 x.f6) (putE x l) := by
  have := rput_from l hl x l 0 [] false rfl (Nat.zero_le _) (Nat.zero_le _)
  rw [List.nil_append, loop_put x l hs] at this
  exact this
/-! ### the law -/
def cntA (x : S26) (r : List S26) : Nat := (r.filter (fun y => ea y.f0 x.f0)).length
theorem cnt_none (x : S26) (r : List S26) (h : ∀ y ∈ r, ea y.f0 x.f0 = false) : cntA x r = 0 := by
  unfold cntA
  rw [List.filter_eq_nil_iff.2 (fun y hy => by rw [h y hy]; simp)]
  rfl
theorem put_cnt (x : S26) : ∀ (l : List S26), Srt l → cntA x (putE x l) = 1 ∧ ∀ y ∈ putE x l, ea y.f0 x.f0 = true → y = x
  | [], _ => by
    refine ⟨by simp [cntA, putE, fa, ea_self], fun y hy _ => ?_⟩
    simpa [putE, fa] using hy
  | y :: r, hs => by
    obtain ⟨h1, h2⟩ := List.pairwise_cons.1 hs
    have far : ∀ z : S26, cmp x.f0 z.f0 < 0 → ea z.f0 x.f0 = false := fun z hz => by
      rw [ea_ne]
      intro e
      rw [e, cmp_self] at hz
      omega
    have one_ : ∀ B : List S26, (∀ z ∈ B, cmp x.f0 z.f0 < 0) → cntA x (x :: B) = 1 ∧ ∀ z ∈ x :: B, ea z.f0 x.f0 = true → z = x := fun B hB => by
      refine ⟨?_, fun z hz he => ?_⟩
      · have := cnt_none x B (fun z hz => far z (hB z hz))
        unfold cntA at *
        rw [List.filter_cons, if_pos (ea_self _), List.length_cons, this]
      · rcases List.mem_cons.1 hz with rfl | hz
        · rfl
        · rw [far z (hB z hz)] at he
          cases he
    unfold putE fa
    by_cases h0 : cmp y.f0 x.f0 = 0
    · have he : y.f0 = x.f0 := (cmp_zero _ _).1 h0
      simp only [if_pos h0, List.nil_append]
      exact one_ r (fun z hz => by rw [← he]; exact h1 z hz)
    · by_cases h3 : cmp y.f0 x.f0 > 0
      · have hf := cmp_flip y.f0 x.f0
        simp only [if_neg h0, if_pos h3, List.nil_append]
        refine one_ (y :: r) (fun z hz => ?_)
        rcases List.mem_cons.1 hz with rfl | hz
        · omega
        · exact cmp_trans (by omega) (h1 z hz)
      · obtain ⟨i1, i2⟩ := put_cnt x r h2
        have hy : ea y.f0 x.f0 = false := by
          rw [ea_ne]
          intro e
          rw [e, cmp_self] at h0
          exact h0 rfl
        simp only [if_neg h0, if_neg h3]
        unfold putE at i1 i2
        refine ⟨?_, fun z hz he => ?_⟩
        · unfold cntA at *
          rw [List.cons_append, List.filter_cons, if_neg (by rw [hy]; simp)]
          exact i1
        · rw [List.cons_append] at hz
          rcases List.mem_cons.1 hz with rfl | hz
          · rw [hy] at he; cases he
          · exact i2 z hz he
theorem put_mem (x : S26) : ∀ (l : List S26) (y : S26), y ∈ l → ea y.f0 x.f0 = true ∨ y ∈ putE x l
  | [], y, h => absurd h List.not_mem_nil
  | z :: r, y, h => by
    unfold putE fa
    by_cases h0 : cmp z.f0 x.f0 = 0
    · have he : z.f0 = x.f0 := (cmp_zero _ _).1 h0
      simp only [if_pos h0, List.nil_append]
      rcases List.mem_cons.1 h with rfl | h
      · exact .inl (by rw [he]; exact ea_self _)
      · exact .inr (List.mem_cons_of_mem _ h)
    · by_cases h3 : cmp z.f0 x.f0 > 0
      · simp only [if_neg h0, if_pos h3, List.nil_append]
        exact .inr (List.mem_cons_of_mem _ h)
      · simp only [if_neg h0, if_neg h3]
        rcases List.mem_cons.1 h with rfl | h
        · exact .inr List.mem_cons_self
        · rcases put_mem x r y h with e | e
          · exact .inl e
          · exact .inr (List.mem_cons_of_mem _ e)
theorem law2 (x : S26) (l P : List S26) (hl : l.length ≤ 512) (hP : P.length ≤ 513) (j : Nat) (y : S26) (hy : rd_T26 l (j : Int) = y) (hj : j < l.length) (ih : Ev (fun k => ddilaw45_LeasefilePuts.l1 k l P 1 ((j + 1 : Nat) : Int) x.f0.f0 x.f0.f1 x.f0.f2 x.f1 x.f2 x.f3 x.f4 x.f5 x.f6) true) : ∀ (r : List S26) (i : Nat) (b : Bool), P.drop i = r → (b = true ∨ y ∈ r) → Ev (fun k => ddilaw45_LeasefilePuts.l2 k l P 1 (j : Int) b (i : Int) x.f0.f0 x.f0.f1 x.f0.f2 x.f1 x.f2 x.f3 x.f4 x.f5 x.f6) true
  | [], i, b, h, hb => by
    have hi := drop_end h
    have hb' : b = true := hb.resolve_right List.not_mem_nil
    subst hb'
    exact Ev_shift 1 (fun k => by rw [ddilaw45_LeasefilePuts.l2, if_neg (by omega), if_pos rfl, next j l.length hj (by omega)]) ih
  | z :: r, i, b, h, hb => by
    obtain ⟨hi, hz, hr⟩ := rd26 P i z r h
    cases b with
    | true => exact Ev_shift 1 (fun k => by rw [ddilaw45_LeasefilePuts.l2, if_pos (by omega), if_pos rfl, next i P.length hi (by omega)]) (law2 x l P hl hP j y hy hj ih r (i + 1) true hr (.inl rfl))
    | false =>
      have hm : y ∈ z :: r := hb.resolve_left Bool.false_ne_true
      refine Ev_shift 1 (fun k => by rw [ddilaw45_LeasefilePuts.l2, if_pos (by omega), if_neg Bool.false_ne_true, if_pos (by omega), if_pos (by omega), if_pos (by omega), hz, hy, next i P.length hi (by omega)]) (law2 x l P hl hP j y hy hj ih r (i + 1) _ hr ?_)
      rcases List.mem_cons.1 hm with rfl | hm
      · exact .inl (by simp)
      · exact .inr hm
theorem law1 (x : S26) (l P : List S26) (hl : l.length ≤ 512) (hP : P.length ≤ 513) (hm : ∀ y ∈ l, ea y.f0 x.f0 = true ∨ y ∈ P) : ∀ (r : List S26) (j : Nat), l.drop j = r → Ev (fun k => ddilaw45_LeasefilePuts.l1 k l P 1 (j : Int) x.f0.f0 x.f0.f1 x.f0.f2 x.f1 x.f2 x.f3 x.f4 x.f5 x.f6) true
  | [], j, h => by
    have hj := drop_end h
    exact Ev_shift 1 (fun k => by rw [ddilaw45_LeasefilePuts.l1, if_neg (by omega), if_pos rfl]) (Ev_bind (f := fun _ t => some t) awake_ev (Ev_const rfl))
  | y :: r, j, h => by
    obtain ⟨hj, hy, hr⟩ := rd26 l j y r h
    have hml : y ∈ l := by
      have := (drop_at h).2.1
      rw [← this]
      exact List.getElem_mem hj
    have ih := law1 x l P hl hP hm r (j + 1) hr
    refine Ev_shift 1 (fun k => by rw [ddilaw45_LeasefilePuts.l1, if_pos (by omega), if_pos (by omega), hy]) ?_
    exact law2 x l P hl hP j y hy hj ih P 0 _ rfl (hm y hml)
theorem law0 (x : S26) (l P : List S26) (hl : l.length ≤ 512) (hP : P.length ≤ 513) (hm : ∀ y ∈ l, ea y.f0 x.f0 = true ∨ y ∈ P) : ∀ (r : List S26) (i n : Nat), P.drop i = r → (∀ y ∈ r, ea y.f0 x.f0 = true → y = x) → n + cntA x r = 1 → Ev (fun k => ddilaw45_LeasefilePuts.l0 k l P (n : Int) (i : Int) x.f0.f0 x.f0.f1 x.f0.f2 x.f1 x.f2 x.f3 x.f4 x.f5 x.f6) true
  | [], i, n, h, _, hn => by
    have hi := drop_end h
    have hn1 : n = 1 := by simpa [cntA] using hn
    subst hn1
    refine Ev_shift 1 (fun k => by rw [ddilaw45_LeasefilePuts.l0, if_neg (by omega)]) ?_
    exact law1 x l P hl hP hm l 0 rfl
  | y :: r, i, n, h, hu, hn => by
    obtain ⟨hi, hy, hr⟩ := rd26 P i y r h
    have hu' : ∀ z ∈ r, ea z.f0 x.f0 = true → z = x := fun z hz => hu z (List.mem_cons_of_mem _ hz)
    cases he : ea y.f0 x.f0 with
    | true =>
      have hyx := hu y List.mem_cons_self he
      subst hyx
      have hn' : n + 1 + cntA y r = 1 := by
        unfold cntA at *
        rw [List.filter_cons, if_pos he, List.length_cons] at hn
        omega
      have ih := law0 y l P hl hP hm r (i + 1) (n + 1) hr hu' hn'
      have he' : (y.f0.f0 == y.f0.f0 && (y.f0.f1 == y.f0.f1 && (y.f0.f2 == y.f0.f2))) = true := he
      have hw : wrap64 ((n : Int) + 1) = ((n + 1 : Nat) : Int) := next n 2 (by omega) (by omega)
      refine Ev_shift 1 (fun k => ?_) ih
      rw [ddilaw45_LeasefilePuts.l0, if_pos (by omega), if_pos (by omega), hy, if_pos he', if_neg (by simp), hw, next i P.length hi (by omega)]
    | false =>
      have hn' : n + cntA x r = 1 := by
        unfold cntA at *
        rw [List.filter_cons, if_neg (by rw [he]; simp)] at hn
        exact hn
      have ih := law0 x l P hl hP hm r (i + 1) n hr hu' hn'
      have he' : ¬ (y.f0.f0 == x.f0.f0 && (y.f0.f1 == x.f0.f1 && (y.f0.f2 == x.f0.f2))) = true := by
        show ¬ ea y.f0 x.f0 = true
        rw [he]
        simp
      refine Ev_shift 1 (fun k => ?_) ih
      rw [ddilaw45_LeasefilePuts.l0, if_pos (by omega), if_pos (by omega), hy, if_neg he', next i P.length hi (by omega)]
theorem leasefilePuts : ddilaw45_LeasefilePuts.Pure := by
  intro l p0 p1 p2 p3 p4 p5 p6 p7 p8 ⟨hl, _, okl⟩ hx
  refine Ev.rounds (?_ : Ev (fun k => ddilaw45_LeasefilePuts.f k l p0 p1 p2 p3 p4 p5 p6 p7 p8) true)
  have hck := rcheck_ev l (by omega) okl
  unfold ddilaw45_LeasefilePuts.f
  refine Ev_bind hck ?_
  by_cases h0 : chkT l = 0
  · obtain ⟨h5, hs⟩ := chkT_zero l h0
    simp only [if_pos h0]
    have e1 := put_ev ⟨⟨p0, p1, p2⟩, p3, p4, p5, p6, p7, p8⟩ l h5
    have e2 := rput_ev ⟨⟨p0, p1, p2⟩, p3, p4, p5, p6, p7, p8⟩ l h5 hs
    have hpl := putE_len ⟨⟨p0, p1, p2⟩, p3, p4, p5, p6, p7, p8⟩ l
    obtain ⟨c1, c2⟩ := put_cnt ⟨⟨p0, p1, p2⟩, p3, p4, p5, p6, p7, p8⟩ l hs
    refine Ev_bind e1 ?_
    refine Ev_bind e2 ?_
    refine Ev_bind (same_ev _ (by omega)) ?_
    simp only [if_true]
    exact law0 ⟨⟨p0, p1, p2⟩, p3, p4, p5, p6, p7, p8⟩ l _ h5 (by omega) (put_mem _ l) (putE ⟨⟨p0, p1, p2⟩, p3, p4, p5, p6, p7, p8⟩ l) 0 0 rfl c2 (by rw [c1])
  · simp only [if_neg h0]
    exact Ev_bind awake_ev (Ev_const rfl)
end Go.Proofs.YtikhpegamnnabaaDoor.Ma
namespace Go.Proofs.YtikhpegamnnabaaDoor.Pure
theorem LeasefilePuts : QA.ddilaw45_LeasefilePuts.Pure := Ma.leasefilePuts
end Go.Proofs.YtikhpegamnnabaaDoor.Pure
