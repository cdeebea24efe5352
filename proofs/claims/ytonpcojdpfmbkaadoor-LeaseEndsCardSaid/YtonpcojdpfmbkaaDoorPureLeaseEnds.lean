/- Release, Decline and Expire are the document's: the pure statement of LeaseEnds (no condition but the sizes that every argument has). -/
import Derived.Test.YtonpcojdpfmbkaaDoorQAd1
import Derived.Test.YtonpcojdpfmbkaaDoorXP
import Derived.Test.YtonpcojdpfmbkaaDoorXB
import Derived.Test.YtonpcojdpfmbkaaDoorQAd3
import Derived.Test.YtonpcojdpfmbkaaDoorQAd4
namespace Go.Proofs.YtonpcojdpfmbkaaDoor.Cm
open Go.RowKit Go.Proofs.YtonpcojdpfmbkaaDoorW.PrintWords Go.Proofs.YtonpcojdpfmbkaaDoorW.PrintLast Go.Proofs.YtonpcojdpfmbkaaDoorW.PrintMore Go.Proofs.YtonpcojdpfmbkaaDoor.XP Go.Proofs.YtonpcojdpfmbkaaDoor.QA
set_option linter.unusedVariables false
set_option linter.unusedSimpArgs false
/-- A byte of an ordinary label. -/
def okc (c : UInt8) : Bool := (97 ≤ c.toNat && c.toNat ≤ 122) || ((48 ≤ c.toNat && c.toNat ≤ 57) || (c.toNat == 45 || c.toNat == 95))
def ordB (l : List UInt8) : Bool := !l.isEmpty && (decide (l.length ≤ 63) && l.all okc)
theorem bt_at_drop (s : ByteArray) (i : Nat) (c : UInt8) (r : List UInt8) (h : s.data.toList.drop i = c :: r) : i < s.size ∧ bt s (i : Int) = (c.toNat : Int) ∧ s.data.toList.drop (i + 1) = r := by
  obtain ⟨hi, hx, hr⟩ := drop_at h
  refine ⟨by rw [size_data]; exact hi, ?_, hr⟩
  rw [bt_get s i hi, hx]
theorem size_end (s : ByteArray) (i : Nat) (h : s.data.toList.drop i = []) : s.size ≤ i := by rw [size_data]; exact drop_end h
theorem toL (s : ByteArray) : s.toList = s.data.toList := ByteArray.toList_eq s
theorem lab_from (s : ByteArray) (hs : s.size ≤ 140737488351232) : ∀ (r : List UInt8) (i : Nat), s.data.toList.drop i = r → Ev (fun k => ddiref01_isLabel.l0 k s (i : Int)) (r.all okc)
  | [], i, h => by
    have := size_end s i h
    refine Ev_shift 1 (f := fun _ => some true) (fun k => ?_) (Ev_const rfl)
    rw [ddiref01_isLabel.l0, if_neg (by omega)]
  | c :: r, i, h => by
    obtain ⟨hi, hb, hr⟩ := bt_at_drop s i c r h
    have ih := lab_from s hs r (i + 1) hr
    have key : ∀ b : Bool, b = !okc c → Ev (fun k => ddiref01_isLabel.j2 k s (i : Int) b) (List.all (c :: r) okc) := by
      intro b hbc
      rw [List.all_cons]
      cases hc : okc c with
      | false =>
        rw [hc] at hbc
        subst hbc
        refine Ev_shift 1 (f := fun _ => some false) (fun k => ?_) (Ev_const rfl)
        rw [ddiref01_isLabel.j2]
        rfl
      | true =>
        rw [hc] at hbc
        subst hbc
        rw [Bool.true_and]
        refine Ev_shift 1 (fun k => ?_) ih
        rw [ddiref01_isLabel.j2, next i s.size hi (by omega)]
        rfl
    refine Ev_shift 1 (f := fun k => ddiref01_isLabel.j2 k s (i : Int) (!okc c)) (fun k => ?_) (key _ rfl)
    rw [ddiref01_isLabel.l0, if_pos (by omega), if_pos (by omega), hb]
    have hc : okc c = true ↔ (97 ≤ c.toNat ∧ c.toNat ≤ 122) ∨ ((48 ≤ c.toNat ∧ c.toNat ≤ 57) ∨ (c.toNat = 45 ∨ c.toNat = 95)) := by simp [okc]
    have hbn : ((c.toNat : Int) == 95) = decide (c.toNat = 95) := by
      rw [Bool.eq_iff_iff]
      simp
      omega
    rw [hbn]
    cases hk : okc c with
    | true =>
      have := hc.1 hk
      repeat' split
      all_goals first | rfl | omega | (congr 1; simp; omega)
    | false =>
      have hn : ¬ _ := fun h => Bool.false_ne_true (hk.symm.trans (hc.2 h))
      repeat' split
      all_goals first | rfl | (exfalso; omega) | (congr 1; simp; omega)
def labB (l : List UInt8) : Bool := decide (l = [42]) || ordB l
theorem lab_ev (s : ByteArray) (hs : s.size ≤ 140737488351232) : Ev (fun k => ddiref01_isLabel.f k s) (labB s.data.toList) := by
  have hl := size_data s
  unfold ddiref01_isLabel.f labB
  rw [toL]
  have hj : ∀ b : Bool, b = !(!s.data.toList.isEmpty && decide (s.data.toList.length ≤ 63)) → Ev (fun k => ddiref01_isLabel.j0 k s b) (ordB s.data.toList) := by
    intro b hb
    unfold ordB
    cases h : (!s.data.toList.isEmpty && decide (s.data.toList.length ≤ 63)) with
    | false =>
      rw [h] at hb
      subst hb
      refine Ev_shift 1 (f := fun _ => some false) (fun k => ?_) (Ev_const (by rw [← Bool.and_assoc, h]; rfl))
      rw [ddiref01_isLabel.j0]
      rfl
    | true =>
      rw [h] at hb
      subst hb
      rw [← Bool.and_assoc, h, Bool.true_and]
      refine Ev_shift 1 (fun k => ?_) (lab_from s hs s.data.toList 0 rfl)
      rw [ddiref01_isLabel.j0]
      rfl
  by_cases h42 : s.data.toList = [42]
  · simp only [if_pos h42, h42, decide_true, Bool.true_or]
    exact Ev_const rfl
  · simp only [if_neg h42, h42, decide_false, Bool.false_or]
    by_cases h0 : (s.size : Int) < 1
    · simp only [if_pos h0]
      refine hj true ?_
      have : s.data.toList = [] := List.length_eq_zero_iff.1 (by rw [← hl]; omega)
      rw [this]
      rfl
    · simp only [if_neg h0]
      refine hj _ ?_
      have : s.data.toList.isEmpty = false := by
        cases h : s.data.toList with
        | nil => rw [h, List.length_nil] at hl; exfalso; omega
        | cons => rfl
      rw [this, hl]
      simp only [Bool.not_false, Bool.true_and]
      by_cases h : s.data.toList.length ≤ 63
      · rw [decide_eq_true h, decide_eq_false (by omega)]; rfl
      · rw [decide_eq_false h, decide_eq_true (by omega)]; rfl
end Go.Proofs.YtonpcojdpfmbkaaDoor.Cm
namespace Go.Proofs.YtonpcojdpfmbkaaDoor.Cm
open Go.RowKit Go.Proofs.YtonpcojdpfmbkaaDoorW.PrintWords Go.Proofs.YtonpcojdpfmbkaaDoorW.PrintLast Go.Proofs.YtonpcojdpfmbkaaDoorW.PrintMore Go.Proofs.YtonpcojdpfmbkaaDoor.XP Go.Proofs.YtonpcojdpfmbkaaDoor.QA
set_option linter.unusedVariables false
set_option linter.unusedSimpArgs false
/-- What lies between the periods; cur is what was read since the last one. -/
def pcs : List UInt8 → List UInt8 → List (List UInt8)
  | cur, [] => [cur]
  | cur, c :: r => if c = 46 then cur :: pcs [] r else pcs (cur ++ [c]) r
def dots (l : List UInt8) : Nat := l.count 46
/-- The labels, each by its place. -/
def oks : Bool → List (List UInt8) → Bool
  | _, [] => true
  | first, x :: r => (ordB x || (first && decide (x = [42]))) && oks false r
end Go.Proofs.YtonpcojdpfmbkaaDoor.Cm
namespace Go.Proofs.YtonpcojdpfmbkaaDoor.Cm
open Go.RowKit Go.Proofs.YtonpcojdpfmbkaaDoorW.PrintWords Go.Proofs.YtonpcojdpfmbkaaDoorW.PrintLast Go.Proofs.YtonpcojdpfmbkaaDoorW.PrintMore Go.Proofs.YtonpcojdpfmbkaaDoor.XP Go.Proofs.YtonpcojdpfmbkaaDoor.QA
set_option linter.unusedVariables false
set_option linter.unusedSimpArgs false
/-- A domain name, by its bytes. -/
def nameB (l : List UInt8) : Bool := decide (l = [46]) || (decide (2 ≤ l.length ∧ l.length ≤ 254) && (decide (l.getLast? = some 46) && oks true (pcs [] l.dropLast)))
theorem wsub1 (n : Nat) (h : 1 ≤ n) (h2 : n ≤ 140737488351232) : wrap64 ((n : Int) - 1) = ((n - 1 : Nat) : Int) := by
  rw [wrap_id (by omega) (by omega)]
  omega
theorem last_iff (s : ByteArray) (h1 : 1 ≤ s.size) (hs : s.size ≤ 1000000) : (bt s ((s.size - 1 : Nat) : Int) = 46) ↔ s.data.toList.getLast? = some 46 := by
  have hsz := size_data s
  have hi : s.size - 1 < s.data.toList.length := by omega
  rw [bt_get s (s.size - 1) hi, List.getLast?_eq_getElem?, ← hsz, List.getElem?_eq_getElem hi]
  constructor
  · intro h
    have : (s.data.toList[s.size - 1]).toNat = 46 := by omega
    have h2 : s.data.toList[s.size - 1] = 46 := UInt8.toNat.inj this
    rw [h2]
  · intro h
    injection h with h
    rw [h]
    rfl
/-! ### the reference's -/
theorem rsplit_from (s : ByteArray) (hs : s.size ≤ 254) : ∀ (r : List UInt8) (i st : Nat) (l : List ByteArray), s.data.toList.drop i = r → st ≤ i → dots ((s.data.toList.drop st).take (i - st)) = 0 → l.length ≤ i → (s.data.toList.getLast? = some 46) →
    ∃ q : List ByteArray, Ev (fun k => ddiref01_split.l0 k s l (st : Int) (i : Int)) (q, if r = [] then true else oks (decide (st = 0)) (pcs ((s.data.toList.drop st).take (i - st)) r.dropLast))
  | [], i, st, l, h, hst, hd, hl, hlast => by
    have := size_end s i h
    refine ⟨l, Ev_shift 1 (f := fun _ => some (l, true)) (fun k => ?_) (Ev_const rfl)⟩
    rw [ddiref01_split.l0, if_neg (by omega)]
  | c :: r, i, st, l, h, hst, hd, hl, hlast => by
    have hsz := size_data s
    obtain ⟨hi, hb, hr⟩ := bt_at_drop s i c r h
    have hlen : r.length = s.size - (i + 1) := by rw [← hr, List.length_drop]; omega
    have hsb : s.size ≤ 140737488351232 := by omega
    have hcur : (s.data.toList.drop st).take (i + 1 - st) = (s.data.toList.drop st).take (i - st) ++ [c] := by
      have : i - st < (s.data.toList.drop st).length := by rw [List.length_drop]; omega
      rw [show i + 1 - st = (i - st) + 1 by omega, List.take_succ_eq_append_getElem this]
      congr 2
      rw [List.getElem_drop]
      have h2 := (drop_at h).2.1
      rw [← h2]
      congr 1
      omega
    by_cases hc : c = 46
    · subst hc
      have hx : (s.extract st i).data.toList = (s.data.toList.drop st).take (i - st) := data_ext s st i
      generalize hcr : (s.data.toList.drop st).take (i - st) = cur at hx hd hcur
      have hxs : (s.extract st i).size ≤ 140737488351232 := by
        rw [size_data, hx, ← hcr, List.length_take, List.length_drop]
        omega
      have hgo : (labB cur && !(decide (cur = [42]) && decide (0 < st))) = (ordB cur || (decide (st = 0) && decide (cur = [42]))) := by
        unfold labB
        by_cases h42 : cur = [42]
        · have ho : ordB cur = false := by rw [h42]; decide
          by_cases h0 : st = 0
          · simp [h42, h0]
          · have : 0 < st := by omega
            rw [ho]
            simp [h42, h0, this]
        · simp [h42]
          skip
      have hpc : (if ((46 : UInt8) :: r) = [] then true else oks (decide (st = 0)) (pcs cur ((46 : UInt8) :: r).dropLast)) = ((ordB cur || (decide (st = 0) && decide (cur = [42]))) && (if r = [] then true else oks false (pcs [] r.dropLast))) := by
        rw [if_neg (List.cons_ne_nil _ _)]
        cases r with
        | nil => rw [if_pos rfl, show ([46] : List UInt8).dropLast = [] from rfl, pcs, oks, oks]
        | cons c2 r2 => rw [if_neg (List.cons_ne_nil _ _), List.dropLast_cons_of_ne_nil (List.cons_ne_nil _ _), pcs, if_pos rfl, oks]
      rw [hpc]
      have hj : ∀ b : Bool, b = !(ordB cur || (decide (st = 0) && decide (cur = [42]))) → ∃ q : List ByteArray, Ev (fun k => ddiref01_split.j2 k s l (i : Int) (s.extract st i) b) (q, (ordB cur || (decide (st = 0) && decide (cur = [42]))) && (if r = [] then true else oks false (pcs [] r.dropLast))) := by
        intro b hbk
        cases hk : (ordB cur || (decide (st = 0) && decide (cur = [42]))) with
        | false =>
          rw [hk] at hbk
          subst hbk
          refine ⟨[], Ev_shift 1 (f := fun _ => some ([], false)) (fun k => ?_) (Ev_const rfl)⟩
          rw [ddiref01_split.j2]
          rfl
        | true =>
          rw [hk] at hbk
          subst hbk
          obtain ⟨q, ih⟩ := rsplit_from s hs r (i + 1) (i + 1) (l ++ [s.extract st i]) hr (Nat.le_refl _) (by rw [Nat.sub_self, List.take_zero]; rfl) (by simp; omega) hlast
          rw [Nat.sub_self, List.take_zero, show decide (i + 1 = 0) = false from decide_eq_false (by omega)] at ih
          refine ⟨q, Ev_shift 1 (fun k => ?_) (by rw [Bool.true_and]; exact ih)⟩
          rw [ddiref01_split.j2, Bool.not_true, if_neg (by decide), if_pos (by omega), next i s.size hi (by omega)]
      have hlab := lab_ev (s.extract st i) hxs
      rw [hx] at hlab
      have hfst : ∃ b : Bool, b = !(ordB cur || (decide (st = 0) && decide (cur = [42]))) ∧ ∀ q v, Ev (fun k => ddiref01_split.j2 k s l (i : Int) (s.extract st i) b) (q, v) → Ev (fun k => ddiref01_split.l0 k s l (st : Int) (i : Int)) (q, v) := by
        refine ⟨_, rfl, fun q v hq => ?_⟩
        refine Ev_shift 1 (fun k => by rw [ddiref01_split.l0, if_pos (by omega), if_pos (by omega), hb, if_pos (by rfl), if_pos (by omega), if_pos (by omega), if_pos (by omega), Int.toNat_natCast, Int.toNat_natCast]) ?_
        refine Ev.bind hlab ?_
        rw [toL, hx]
        rw [← hgo] at hq
        cases hl2 : labB cur with
        | false =>
          rw [hl2] at hq
          simp only [Bool.false_eq_true, if_false]
          exact hq
        | true =>
          rw [hl2] at hq
          simp only [if_true]
          by_cases h42 : cur = [42]
          · simp only [if_pos h42]
            rw [show decide ((st : Int) > 0) = decide (0 < st) from by rw [Bool.eq_iff_iff]; simp]
            simpa [h42] using hq
          · simp only [if_neg h42]
            simpa [h42] using hq
      obtain ⟨b, hb1, hb2⟩ := hfst
      obtain ⟨q, hq⟩ := hj b hb1
      exact ⟨q, hb2 q _ hq⟩
    · have hcn : ¬ (c.toNat : Int) = 46 := by
        intro e
        exact hc (UInt8.toNat.inj (by show c.toNat = 46; omega))
      have hd2 : dots ((s.data.toList.drop st).take (i + 1 - st)) = 0 := by
        rw [hcur, dots, List.count_append, List.count_singleton]
        have : (c == 46) = false := by simpa using hc
        rw [this]
        simpa [dots] using hd
      have hrn : r ≠ [] := by
        rintro rfl
        have : s.data.toList.getLast? = some c := by
          rw [← List.take_append_drop i s.data.toList, h]
          simp
        rw [this] at hlast
        injection hlast with hlast
        exact hc hlast
      obtain ⟨q, ih⟩ := rsplit_from s hs r (i + 1) st l hr (by omega) hd2 (by omega) hlast
      refine ⟨q, Ev_shift 1 (f := fun k => ddiref01_split.l0 k s l (st : Int) ((i + 1 : Nat) : Int)) (fun k => ?_) ?_⟩
      · rw [ddiref01_split.l0, if_pos (by omega), if_pos (by omega), hb, if_neg hcn, next i s.size hi (by omega)]
      · rw [if_neg (List.cons_ne_nil _ _), List.dropLast_cons_of_ne_nil hrn, pcs, if_neg hc, ← hcur]
        rw [if_neg hrn] at ih
        exact ih
theorem rname_ev (s : ByteArray) (hs : s.size ≤ 140737488351232) : Ev (fun k => ddiref01_Valid.f k s) (nameB s.data.toList) := by
  have hsz := size_data s
  unfold ddiref01_Valid.f ddiref01_split.f nameB
  rw [toL]
  have hbad : ∀ v : Bool, v = false → Ev (fun k => (ddiref01_split.j0 k s true).bind fun bt => some bt.2) v := by
    rintro v rfl
    refine Ev.bind (a := (([] : List ByteArray), false)) ?_ (Ev_const rfl)
    exact Ev_shift 1 (f := fun _ => some ([], false)) (fun k => by rw [ddiref01_split.j0, if_pos rfl]) (Ev_const rfl)
  by_cases h46 : s.data.toList = [46]
  · simp only [if_pos h46, h46, decide_true, Bool.true_or, Option.bind_some]
    exact Ev_const rfl
  · simp only [h46, if_false, decide_false, Bool.false_or]
    by_cases h2 : (s.size : Int) < 2
    · simp only [if_pos h2]
      exact hbad _ (by rw [show decide (2 ≤ s.data.toList.length ∧ s.data.toList.length ≤ 254) = false from decide_eq_false (by omega)]; rfl)
    · simp only [if_neg h2]
      by_cases h254 : (s.size : Int) > 254
      · simp only [if_pos h254]
        exact hbad _ (by rw [show decide (2 ≤ s.data.toList.length ∧ s.data.toList.length ≤ 254) = false from decide_eq_false (by omega)]; rfl)
      · simp only [if_neg h254]
        simp only [wsub1 s.size (by omega) hs, if_pos (show (0 : Int) ≤ ((s.size - 1 : Nat) : Int) by omega), if_pos (show ((s.size - 1 : Nat) : Int) < (s.size : Int) by omega)]
        rw [show decide (2 ≤ s.data.toList.length ∧ s.data.toList.length ≤ 254) = true from decide_eq_true (by omega), Bool.true_and]
        have hli := last_iff s (by omega) (by omega)
        by_cases hl : s.data.toList.getLast? = some 46
        · have hb : (bt s ((s.size - 1 : Nat) : Int) != 46) = false := by simpa using hli.2 hl
          rw [hb, hl, decide_eq_true rfl, Bool.true_and]
          obtain ⟨q, hq⟩ := rsplit_from s (by omega) s.data.toList 0 0 [] rfl (Nat.le_refl _) (by rw [Nat.sub_self, List.take_zero]; rfl) (by simp) hl
          have hne : s.data.toList ≠ [] := by
            intro e
            rw [e] at hl
            cases hl
          rw [if_neg hne, Nat.sub_self, List.take_zero] at hq
          refine Ev.bind (Ev_shift 1 (fun k => by rw [ddiref01_split.j0, if_neg (by decide)]; rfl) hq) (Ev_const rfl)
        · have hb : (bt s ((s.size - 1 : Nat) : Int) != 46) = true := by
            rw [bne_iff_ne]
            exact fun e => hl (hli.1 e)
          rw [hb]
          exact hbad _ (by rw [decide_eq_false hl]; rfl)
end Go.Proofs.YtonpcojdpfmbkaaDoor.Cm
namespace Go.Proofs.YtonpcojdpfmbkaaDoor.Cm
open Go.RowKit Go.Proofs.YtonpcojdpfmbkaaDoorW.PrintWords Go.Proofs.YtonpcojdpfmbkaaDoorW.PrintLast Go.Proofs.YtonpcojdpfmbkaaDoorW.PrintMore Go.Proofs.YtonpcojdpfmbkaaDoor.XP Go.Proofs.YtonpcojdpfmbkaaDoor.QA
set_option linter.unusedVariables false
set_option linter.unusedSimpArgs false
def ea (a x : S29) : Bool := a.f0 == x.f0 && (a.f1 == x.f1 && (a.f2 == x.f2))
theorem ea_iff (a x : S29) : ea a x = true ↔ a = x := by
  obtain ⟨a0, a1, a2⟩ := a
  obtain ⟨x0, x1, x2⟩ := x
  simp [ea]
theorem ea_ne (a x : S29) : ea a x = false ↔ a ≠ x := by
  rw [← Bool.not_eq_true, ea_iff]
def cmp (a b : S29) : Int := if (a.f0 != b.f0) = true then (if b.f0 = true then -1 else 1) else (if a.f1 = b.f1 then (if a.f2 < b.f2 then -1 else (if a.f2 > b.f2 then 1 else 0)) else (if a.f1 < b.f1 then -1 else 1))
theorem rcmp (a b : S29) : ddiref02_Compare.f a.f0 a.f1 a.f2 b.f0 b.f1 b.f2 = some (cmp a b) := by
  unfold ddiref02_Compare.f cmp
  repeat' split
  all_goals first | rfl | omega
theorem num (a b : Int) : addr_number.f a b = some (if a < b then -1 else (if a > b then 1 else 0)) := by
  unfold addr_number.f
  repeat' split
  all_goals rfl
theorem ucmp (a b : S29) : Ev (fun k => addr_Compare.f k a.f0 a.f1 a.f2 b.f0 b.f1 b.f2) (cmp a b) := by
  refine Ev_shift 1 (f := fun _ => some (cmp a b)) (fun k => ?_) (Ev_const rfl)
  unfold addr_Compare.f addr_Compare.j0 cmp
  simp only [num]
  cases h0 : a.f0 <;> cases h1 : b.f0 <;> simp
  all_goals
    by_cases h : a.f1 = b.f1
    · simp [h]
    · simp only [h, if_false]
      by_cases h2 : a.f1 < b.f1
      · simp [h2]
      · simp [h2]
        omega
theorem cmp_zero (a b : S29) : cmp a b = 0 ↔ a = b := by
  obtain ⟨a0, a1, a2⟩ := a
  obtain ⟨b0, b1, b2⟩ := b
  simp only [cmp, S29.mk.injEq]
  cases a0 <;> cases b0 <;> simp <;> repeat' split
  all_goals omega
theorem cmp_self (a : S29) : cmp a a = 0 := (cmp_zero a a).2 rfl
theorem cmp_flip (a b : S29) : cmp b a = -cmp a b := by
  obtain ⟨a0, a1, a2⟩ := a
  obtain ⟨b0, b1, b2⟩ := b
  simp only [cmp]
  cases a0 <;> cases b0 <;> simp <;> repeat' split
  all_goals omega
theorem cmp_trans {a b c : S29} : cmp a b < 0 → cmp b c < 0 → cmp a c < 0 := by
  obtain ⟨a0, a1, a2⟩ := a
  obtain ⟨b0, b1, b2⟩ := b
  obtain ⟨c0, c1, c2⟩ := c
  simp only [cmp]
  cases a0 <;> cases b0 <;> cases c0 <;> simp <;> repeat' split
  all_goals omega
end Go.Proofs.YtonpcojdpfmbkaaDoor.Cm
namespace Go.Proofs.YtonpcojdpfmbkaaDoor.Ma
open Go.RowKit Go.Proofs.YtonpcojdpfmbkaaDoorW.PrintWords Go.Proofs.YtonpcojdpfmbkaaDoorW.PrintLast Go.Proofs.YtonpcojdpfmbkaaDoorW.PrintMore Go.Proofs.YtonpcojdpfmbkaaDoor.XP Go.Proofs.YtonpcojdpfmbkaaDoor.QA Go.Proofs.YtonpcojdpfmbkaaDoor.Cm
set_option linter.unusedVariables false
set_option linter.unusedSimpArgs false
def vis (c : UInt8) : Bool := decide (33 ≤ c.toNat) && decide (c.toNat ≤ 126)
def szB (n : Nat) : Bool := decide (1 ≤ n) && decide (n ≤ 32)
theorem vis_at (c : UInt8) {β : Type} (g : Bool → β) : (if (c.toNat : Int) < 33 then g true else g (decide ((c.toNat : Int) > 126))) = g (!vis c) := by
  unfold vis
  split
  · rw [decide_eq_false (show ¬ 33 ≤ c.toNat by omega)]; rfl
  · rw [decide_eq_true (show 33 ≤ c.toNat by omega), Bool.true_and]
    congr 1
    rw [Bool.eq_iff_iff]
    simp
    omega
theorem cli_from (s : ByteArray) (hs : s.size ≤ 140737488351232) : ∀ (r : List UInt8) (i : Nat), s.data.toList.drop i = r → Ev (fun k => lease_isClient.l0 k s (i : Int)) (r.all vis && szB s.size)
  | [], i, h => by
    have := size_end s i h
    refine Ev_shift 1 (f := fun _ => some (szB s.size)) (fun k => ?_) (Ev_const rfl)
    rw [lease_isClient.l0, if_neg (by omega)]
    unfold szB
    by_cases h1 : 1 ≤ s.size
    · rw [if_pos (by omega), decide_eq_true h1, Bool.true_and]
      congr 1
      rw [Bool.eq_iff_iff]
      simp
      omega
    · rw [if_neg (by omega), decide_eq_false h1]; rfl
  | c :: r, i, h => by
    obtain ⟨hi, hb, hr⟩ := bt_at_drop s i c r h
    have ih := cli_from s hs r (i + 1) hr
    refine Ev_shift 1 (f := fun k => lease_isClient.j1 k s (i : Int) (!vis c)) (fun k => ?_) ?_
    · rw [lease_isClient.l0, if_pos (by omega), if_pos (by omega), hb]
      exact vis_at c (fun b => lease_isClient.j1 k s (i : Int) b)
    · rw [List.all_cons]
      cases vis c with
      | false => exact Ev_shift 1 (f := fun _ => some false) (fun k => by rw [lease_isClient.j1]; rfl) (Ev_const rfl)
      | true =>
        rw [Bool.true_and]
        exact Ev_shift 1 (fun k => by rw [lease_isClient.j1, next i s.size hi (by omega)]; rfl) ih
theorem rcli_from (s : ByteArray) (hs : s.size ≤ 140737488351232) : ∀ (r : List UInt8) (i : Nat), s.data.toList.drop i = r → Ev (fun k => ddiref38_Client.l0 k s (i : Int)) (r.all vis)
  | [], i, h => by
    have := size_end s i h
    exact Ev_shift 1 (f := fun _ => some true) (fun k => by rw [ddiref38_Client.l0, if_neg (by omega)]) (Ev_const rfl)
  | c :: r, i, h => by
    obtain ⟨hi, hb, hr⟩ := bt_at_drop s i c r h
    have ih := rcli_from s hs r (i + 1) hr
    refine Ev_shift 1 (f := fun k => ddiref38_Client.j2 k s (i : Int) (!vis c)) (fun k => ?_) ?_
    · rw [ddiref38_Client.l0, if_pos (by omega), if_pos (by omega), hb]
      exact vis_at c (fun b => ddiref38_Client.j2 k s (i : Int) b)
    · rw [List.all_cons]
      cases vis c with
      | false => exact Ev_shift 1 (f := fun _ => some false) (fun k => by rw [ddiref38_Client.j2]; rfl) (Ev_const rfl)
      | true =>
        rw [Bool.true_and]
        exact Ev_shift 1 (fun k => by rw [ddiref38_Client.j2, next i s.size hi (by omega)]; rfl) ih
def cliB (s : ByteArray) : Bool := s.data.toList.all vis && szB s.size
theorem cli_ev (s : ByteArray) (hs : s.size ≤ 140737488351232) : Ev (fun k => lease_isClient.f k s) (cliB s) := by
  unfold lease_isClient.f
  exact cli_from s hs s.data.toList 0 rfl
theorem rcli_ev (s : ByteArray) (hs : s.size ≤ 140737488351232) : Ev (fun k => ddiref38_Client.f k s) (cliB s) := by
  unfold ddiref38_Client.f cliB
  have hj : ∀ b : Bool, b = !szB s.size → Ev (fun k => ddiref38_Client.j0 k s b) (s.data.toList.all vis && szB s.size) := by
    intro b hb
    cases h : szB s.size with
    | false =>
      rw [h] at hb
      subst hb
      rw [Bool.and_false]
      exact Ev_shift 1 (f := fun _ => some false) (fun k => by rw [ddiref38_Client.j0]; rfl) (Ev_const rfl)
    | true =>
      rw [h] at hb
      subst hb
      rw [Bool.and_true]
      exact Ev_shift 1 (fun k => by rw [ddiref38_Client.j0]; rfl) (rcli_from s hs s.data.toList 0 rfl)
  by_cases h : (s.size : Int) < 1
  · simp only [if_pos h]
    exact hj true (by unfold szB; rw [decide_eq_false (by omega)]; rfl)
  · simp only [if_neg h]
    refine hj _ ?_
    unfold szB
    rw [decide_eq_true (show 1 ≤ s.size by omega), Bool.true_and, Bool.eq_iff_iff]
    simp
    omega
def hostB (s : ByteArray) : Bool := decide (s.data.toList = []) || nameB s.data.toList
def timeB (t : Int) : Bool := decide (0 ≤ t) && decide (t ≤ 4294967295)
theorem time_v (t : Int) : lease_isTime.f t = some (timeB t) := by
  unfold lease_isTime.f timeB
  by_cases h : t ≥ 0
  · rw [if_pos h, decide_eq_true h, Bool.true_and]
  · rw [if_neg h, decide_eq_false h]; rfl
theorem rtime_v (t : Int) : ddiref38_Time.f t = some (timeB t) := time_v t
theorem xid_v (t : Int) : lease_isXID.f t = some (timeB t) := by
  unfold lease_isXID.f timeB
  by_cases h : t ≥ 0
  · rw [if_pos h, decide_eq_true h, Bool.true_and]
    congr 1
    rw [Bool.eq_iff_iff]
    simp
    omega
  · rw [if_neg h, decide_eq_false h]; rfl
def adB (x : S29) : Bool := x.f0 || (decide (x.f1 = 0) && decide (x.f2 ≤ 4294967295))
theorem ad_v (x : S29) : addr_Valid.f x.f0 x.f1 x.f2 = some (adB x) := by
  unfold addr_Valid.f adB
  by_cases h : x.f0 = true
  · rw [if_pos h, h]; rfl
  · have : x.f0 = false := by simpa using h
    rw [if_neg h, this, Bool.false_or]
    by_cases h1 : x.f1 = 0
    · rw [if_pos h1, decide_eq_true h1, Bool.true_and]
    · rw [if_neg h1, decide_eq_false h1]; rfl
theorem rad_v (x : S29) : ddiref02_Valid.f x.f0 x.f1 x.f2 = some (adB x) := by
  rw [← ad_v]
  unfold ddiref02_Valid.f addr_Valid.f
  split
  · rfl
  · split
    · congr 1
      rw [Bool.eq_iff_iff]
      simp
      omega
    · rfl
/-- A lease's own form: 3 the address, 1 the arguments, 2 the name, 0 in order. -/
def argB (x : S41) : Bool := decide (1 ≤ x.f2) && (decide (x.f2 ≤ 5) && (cliB x.f1 && (timeB x.f6 && (timeB x.f3 && (timeB x.f4 && decide (x.f3 ≤ x.f4))))))
def one (x : S41) : Int := if adB x.f0 = true then (if argB x = true then (if hostB x.f5 = true then 0 else 2) else 1) else 3
def upB : Option S29 → S29 → Bool
  | none, _ => true
  | some p, a => decide (cmp p a < 0)
def chk (p : Option S29) : List S41 → Int
  | [] => 0
  | x :: r => if adB x.f0 = true then (if upB p x.f0 = true then (if one x = 0 then chk (some x.f0) r else one x) else 7) else 3
end Go.Proofs.YtonpcojdpfmbkaaDoor.Ma
namespace Go.Proofs.YtonpcojdpfmbkaaDoor.Ma
open Go.RowKit Go.Proofs.YtonpcojdpfmbkaaDoorW.PrintWords Go.Proofs.YtonpcojdpfmbkaaDoorW.PrintLast Go.Proofs.YtonpcojdpfmbkaaDoorW.PrintMore Go.Proofs.YtonpcojdpfmbkaaDoor.XP Go.Proofs.YtonpcojdpfmbkaaDoor.QA Go.Proofs.YtonpcojdpfmbkaaDoor.Cm
set_option linter.unusedVariables false
set_option linter.unusedSimpArgs false
theorem rd41 (l : List S41) (i : Nat) (x : S41) (r : List S41) (h : l.drop i = x :: r) : i < l.length ∧ rd_T41 l (i : Int) = x ∧ l.drop (i + 1) = r := by
  obtain ⟨hi, hx, hr⟩ := drop_at h
  refine ⟨hi, ?_, hr⟩
  simp [rd_T41, List.getD_eq_getElem?_getD, List.getElem?_eq_getElem hi, hx]
theorem one_true (x : S41) (h1 : adB x.f0 = true) : one x = if argB x = true then (if hostB x.f5 = true then 0 else 2) else 1 := by
  unfold one
  rw [if_pos h1]
theorem rone_ev (x : S41) (hx : okS41 x) : Ev (fun k => ddiref38_One.f k x.f0.f0 x.f0.f1 x.f0.f2 x.f1 x.f2 x.f3 x.f4 x.f5 x.f6) (one x) := by
  unfold ddiref38_One.f
  simp only [rad_v, Option.bind_some]
  cases had : adB x.f0 with
  | false => exact Ev_const (by unfold one; rw [had]; rfl)
  | true =>
    rw [one_true x had]
    have hj1 : ∀ b : Bool, Ev (fun k => ddiref38_One.j1 k b) (if b = true then 2 else 0) := by
      intro b
      refine Ev_shift 1 (f := fun _ => some (if b = true then 2 else 0)) (fun k => ?_) (Ev_const rfl)
      rw [ddiref38_One.j1]
      cases b <;> rfl
    have hj0 : ∀ b : Bool, b = !argB x → Ev (fun k => ddiref38_One.j0 k b x.f0.f0 x.f0.f1 x.f0.f2 x.f1 x.f2 x.f3 x.f4 x.f5 x.f6) (if argB x = true then (if hostB x.f5 = true then 0 else 2) else 1) := by
      rintro b rfl
      cases argB x with
      | false => exact Ev_shift 1 (f := fun _ => some 1) (fun k => by rw [ddiref38_One.j0, Bool.not_false, if_pos rfl]) (Ev_const rfl)
      | true =>
        refine Ev_shift 1 (fun k => by rw [ddiref38_One.j0, Bool.not_true, if_neg Bool.false_ne_true, toL]) ?_
        unfold hostB
        by_cases h : x.f5.data.toList = []
        · simp only [h, decide_true, Bool.true_or, if_true]
          exact hj1 false
        · simp only [h, decide_false, Bool.false_or, if_false]
          refine Ev.bind (rname_ev x.f5 hx.2.2.2.2.2.1) ?_
          have := hj1 (!nameB x.f5.data.toList)
          cases hn : nameB x.f5.data.toList <;> rw [hn] at this <;> exact this
    simp only [if_true, rtime_v, Option.bind_some]
    by_cases h1 : x.f2 < 1
    · simp only [if_pos h1]
      exact hj0 true (by unfold argB; rw [decide_eq_false (show ¬ 1 ≤ x.f2 by omega)]; rfl)
    · simp only [if_neg h1]
      have a1 : decide (1 ≤ x.f2) = true := decide_eq_true (by omega)
      by_cases h5 : x.f2 > 5
      · simp only [if_pos h5]
        exact hj0 true (by unfold argB; rw [a1, decide_eq_false (show ¬ x.f2 ≤ 5 by omega)]; rfl)
      · simp only [if_neg h5]
        have a5 : decide (x.f2 ≤ 5) = true := decide_eq_true (by omega)
        refine Ev.bind (rcli_ev x.f1 hx.2.1) ?_
        have hab : argB x = (cliB x.f1 && (timeB x.f6 && (timeB x.f3 && (timeB x.f4 && decide (x.f3 ≤ x.f4))))) := by
          unfold argB
          rw [a1, a5, Bool.true_and, Bool.true_and]
        cases hc : cliB x.f1 with
        | false =>
          simp only [Bool.false_eq_true, if_false]
          exact hj0 true (by rw [hab, hc]; rfl)
        | true =>
          cases h3 : timeB x.f3 with
          | false =>
            simp only [Bool.false_eq_true, if_false, if_true]
            exact hj0 true (by rw [hab, h3]; cases cliB x.f1 <;> cases timeB x.f6 <;> rfl)
          | true =>
            cases h4 : timeB x.f4 with
            | false =>
              simp only [Bool.false_eq_true, if_false, if_true]
              exact hj0 true (by rw [hab, h4]; cases cliB x.f1 <;> cases timeB x.f6 <;> cases timeB x.f3 <;> rfl)
            | true =>
              by_cases h : x.f3 > x.f4
              · simp only [if_true, if_pos h]
                exact hj0 true (by rw [hab, decide_eq_false (show ¬ x.f3 ≤ x.f4 by omega)]; cases cliB x.f1 <;> cases timeB x.f6 <;> cases timeB x.f3 <;> cases timeB x.f4 <;> rfl)
              · simp only [if_true, if_neg h]
                exact hj0 _ (by rw [hab, hc, h3, h4, decide_eq_true (show x.f3 ≤ x.f4 by omega)]; cases timeB x.f6 <;> rfl)
theorem rcheck_from (l : List S41) (hl : l.length ≤ 140737488351232) (ok : ∀ y ∈ l, okS41 y) : ∀ (r : List S41) (i : Nat) (p : Option S29), l.drop i = r → (i = 0 → p = none) → (∀ j : Nat, i = j + 1 → p = some (rd_T41 l (j : Int)).f0) → Ev (fun k => ddiref38_Check.l0 k l (i : Int)) (chk p r)
  | [], i, p, h, _, _ => by
    have := drop_end h
    exact Ev_shift 1 (f := fun _ => some 0) (fun k => by rw [ddiref38_Check.l0, if_neg (by omega)]) (Ev_const rfl)
  | x :: r, i, p, h, hp0, hp1 => by
    obtain ⟨hi, hx, hr⟩ := rd41 l i x r h
    have hxl : x ∈ l := List.mem_of_mem_drop (i := i) (by rw [h]; exact List.mem_cons_self ..)
    have ih := rcheck_from l hl ok r (i + 1) (some x.f0) hr (fun e => by omega) (fun j e => by
      have : j = i := by omega
      rw [this, hx])
    rw [← next i l.length hi (by omega)] at ih
    unfold chk
    cases had : adB x.f0 with
    | false => exact Ev_shift 1 (f := fun _ => some 3) (fun k => by rw [ddiref38_Check.l0, if_pos (by omega), if_pos (by omega), hx, rad_v, had]; rfl) (Ev_const rfl)
    | true =>
      rw [if_pos rfl]
      have h1 : ∀ b : Bool, b = !upB p x.f0 → Ev (fun k => ddiref38_Check.j1 k l (i : Int) b) (if upB p x.f0 = true then (if one x = 0 then chk (some x.f0) r else one x) else 7) := by
        rintro b rfl
        cases upB p x.f0 with
        | false => exact Ev_shift 1 (f := fun _ => some 7) (fun k => by rw [ddiref38_Check.j1, Bool.not_false, if_pos rfl]) (Ev_const rfl)
        | true =>
          refine Ev_shift 1 (fun k => by rw [ddiref38_Check.j1, Bool.not_true, if_neg Bool.false_ne_true, if_pos (by omega), if_pos (by omega), hx]) ?_
          refine Ev.bind (rone_ev x (ok x hxl)) ?_
          by_cases h0 : one x = 0
          · simp only [if_pos h0, if_true]
            exact ih
          · simp only [if_neg h0, if_true]
            exact Ev_const rfl
      cases i with
      | zero =>
        refine Ev_shift 1 (fun k => by rw [ddiref38_Check.l0, if_pos (by omega), if_pos (by omega), hx, rad_v, had, Option.bind_some, if_pos rfl, if_neg (by omega)]) ?_
        exact h1 false (by rw [hp0 rfl]; rfl)
      | succ j =>
        have hpj := hp1 j rfl
        have hj : (wrap64 (((j + 1 : Nat) : Int) - 1)) = (j : Int) := wsub1 (j + 1) (by omega) (by omega)
        have e0 : (0 : Int) ≤ (j : Int) := by omega
        have e1 : (j : Int) < (l.length : Int) := by omega
        have e2 : ((j + 1 : Nat) : Int) > 0 := by omega
        refine Ev_shift 1 (fun k => by rw [ddiref38_Check.l0, if_pos (by omega), if_pos (by omega), hx, rad_v, had, Option.bind_some, if_pos rfl, if_pos e2, hj, if_pos e0, if_pos e1, rcmp, Option.bind_some]) ?_
        refine h1 _ ?_
        rw [hpj]
        unfold upB
        rw [Bool.eq_iff_iff]
        simp
/-- The check of a table. -/
def chkT (l : List S41) : Int := if l.length > 512 then 9 else chk none l
theorem rcheck_ev (l : List S41) (hl : l.length ≤ 140737488351232) (ok : ∀ y ∈ l, okS41 y) : Ev (fun k => ddiref38_Check.f k l) (chkT l) := by
  unfold ddiref38_Check.f chkT
  by_cases h : l.length > 512
  · simp only [if_pos h, if_pos (show (l.length : Int) > 512 by omega)]
    exact Ev_const rfl
  · simp only [if_neg h, if_neg (show ¬ (l.length : Int) > 512 by omega)]
    exact rcheck_from l hl ok l 0 none rfl (fun _ => rfl) (fun j e => by omega)
end Go.Proofs.YtonpcojdpfmbkaaDoor.Ma
namespace Go.Proofs.YtonpcojdpfmbkaaDoor.Ma
open Go.RowKit Go.Proofs.YtonpcojdpfmbkaaDoorW.PrintWords Go.Proofs.YtonpcojdpfmbkaaDoorW.PrintLast Go.Proofs.YtonpcojdpfmbkaaDoorW.PrintMore Go.Proofs.YtonpcojdpfmbkaaDoor.XP Go.Proofs.YtonpcojdpfmbkaaDoor.QA Go.Proofs.YtonpcojdpfmbkaaDoor.Cm
set_option linter.unusedVariables false
set_option linter.unusedSimpArgs false
def Srt (l : List S41) : Prop := l.Pairwise fun x y => cmp x.f0 y.f0 < 0
theorem chk_srt : ∀ (l : List S41) (p : Option S29), chk p l = 0 → (∀ q, p = some q → ∀ x ∈ l, cmp q x.f0 < 0) ∧ Srt l
  | [], p, _ => ⟨fun _ _ x hx => absurd hx List.not_mem_nil, List.Pairwise.nil⟩
  | x :: r, p, h => by
    unfold chk at h
    split at h
    · split at h
      · split at h
        · rename_i h1 h2 h3
          obtain ⟨i1, i2⟩ := chk_srt r (some x.f0) h
          refine ⟨?_, List.pairwise_cons.2 ⟨fun y hy => i1 _ rfl y hy, i2⟩⟩
          rintro q rfl y hy
          have hq : cmp q x.f0 < 0 := of_decide_eq_true h2
          rcases List.mem_cons.1 hy with rfl | hy
          · exact hq
          · exact cmp_trans hq (i1 _ rfl y hy)
        · rename_i h3
          exact absurd h h3
      · cases h
    · cases h
theorem chkT_zero (l : List S41) (h : chkT l = 0) : l.length ≤ 512 ∧ Srt l := by
  unfold chkT at h
  split at h
  · cases h
  · exact ⟨by omega, (chk_srt l none h).2⟩
def pos (a : S29) : List S41 → Nat
  | [] => 0
  | x :: r => if cmp x.f0 a < 0 then pos a r + 1 else 0
theorem pos_le (a : S29) : ∀ l : List S41, pos a l ≤ l.length
  | [] => Nat.le_refl _
  | x :: r => by
    have := pos_le a r
    unfold pos
    split
    · simp; omega
    · simp
theorem pos_iff (a : S29) : ∀ (l : List S41) (_ : Srt l) (q : Nat) (h : q < l.length), cmp (l[q]).f0 a < 0 ↔ q < pos a l
  | [], _, q, h => by simp at h
  | x :: r, hs, q, h => by
    obtain ⟨h1, h2⟩ := List.pairwise_cons.1 hs
    unfold pos
    cases q with
    | zero =>
      simp only [List.getElem_cons_zero]
      split
      · rename_i hc; exact ⟨fun _ => by omega, fun _ => hc⟩
      · rename_i hc; exact ⟨fun h => absurd h hc, fun h => absurd h (by omega)⟩
    | succ q =>
      simp only [List.getElem_cons_succ]
      have hq : q < r.length := by simpa using h
      have ih := pos_iff a r h2 q hq
      split
      · rw [ih]; omega
      · rename_i hc
        exact ⟨fun h => absurd (cmp_trans (h1 _ (List.getElem_mem hq)) h) hc, fun h => absurd h (by omega)⟩
def get (a : S29) (l : List S41) : Option S41 := l.find? fun x => ea x.f0 a
theorem get_none_of_gt (a : S29) (x : S41) : ∀ r : List S41, (∀ y ∈ r, cmp x.f0 y.f0 < 0) → ¬ cmp x.f0 a < 0 → get a r = none := by
  intro r h hn
  unfold get
  rw [List.find?_eq_none]
  intro y hy he
  have := (ea_iff _ _).1 he
  have h1 := h y hy
  rw [this] at h1
  exact hn h1
theorem get_pos (a : S29) : ∀ (l : List S41), Srt l → get a l = match l[pos a l]? with | some x => if ea x.f0 a = true then some x else none | none => none
  | [], _ => rfl
  | x :: r, hs => by
    obtain ⟨h1, h2⟩ := List.pairwise_cons.1 hs
    have ih := get_pos a r h2
    by_cases hc : cmp x.f0 a < 0
    · have he : ea x.f0 a = false := by
        rw [ea_ne]
        intro e
        rw [e, cmp_self] at hc
        omega
      have hp : pos a (x :: r) = pos a r + 1 := by rw [pos, if_pos hc]
      rw [hp, List.getElem?_cons_succ, ← ih]
      unfold get
      rw [List.find?_cons, he]
    · have hp : pos a (x :: r) = 0 := by rw [pos, if_neg hc]
      rw [hp, List.getElem?_cons_zero]
      have hr := get_none_of_gt a x r h1 hc
      unfold get at hr ⊢
      rw [List.find?_cons]
      cases he : ea x.f0 a with
      | true => simp only [he, if_true]
      | false => simp only [hr, he, Bool.false_eq_true, if_false]
theorem mid (i j : Nat) (h : i + j ≤ 1000000000000000) : wrap64 ((IntKind.u64.wrap (wrap64 ((i : Int) + (j : Int)))) / 2) = (((i + j) / 2 : Nat) : Int) := by
  rw [wrap_id (x := (i : Int) + (j : Int)) (by omega) (by omega), IntKind.wrap_u64]
  rw [wrap_id (by omega) (by omega)]
  omega
theorem pl1 (x : S41) (a : S29) : Ev (fun k => lease_place_1.f k x.f0.f0 x.f0.f1 x.f0.f2 x.f1 x.f2 x.f3 x.f4 x.f5 x.f6 a.f0 a.f1 a.f2) (cmp x.f0 a) := by
  unfold lease_place_1.f
  exact Ev.bind (ucmp x.f0 a) (Ev_const rfl)
theorem rdAt (l : List S41) (q : Nat) (h : q < l.length) : rd_T41 l (q : Int) = l[q] := by
  simp [rd_T41, List.getD_eq_getElem?_getD, List.getElem?_eq_getElem h]
theorem wnext (q : Nat) (h : q ≤ 1000000000000000) : wrap64 ((q : Int) + 1) = ((q + 1 : Nat) : Int) := by
  rw [wrap_id (by omega) (by omega)]
  omega
theorem bs_from (l : List S41) (hl : l.length ≤ 140737488351232) (hs : Srt l) (a : S29) : ∀ (d i j : Nat), j - i ≤ d → i ≤ pos a l → pos a l ≤ j → j ≤ l.length → Ev (fun k => slices_BinarySearchFunc_69.l0 k l (l.length : Int) (i : Int) (j : Int) a.f0 a.f1 a.f2) ((pos a l : Int), (get a l).isSome)
  | d, i, j, hd, hi, hj, hjl => by
    by_cases hij : i < j
    · have hm : (i + j) / 2 < l.length := by omega
      have e0 : (i : Int) < (j : Int) := by omega
      have e1 : (0 : Int) ≤ (((i + j) / 2 : Nat) : Int) := by omega
      have e2 : (((i + j) / 2 : Nat) : Int) < (l.length : Int) := by omega
      have hmw := mid i j (by omega)
      have hpi := pos_iff a l hs ((i + j) / 2) hm
      have hwn := wnext ((i + j) / 2) (by omega)
      cases d with
      | zero => exact absurd hd (by omega)
      | succ d =>
        have ihl : ((i + j) / 2 < pos a l) → Ev (fun k => slices_BinarySearchFunc_69.l0 k l (l.length : Int) (((i + j) / 2 + 1 : Nat) : Int) (j : Int) a.f0 a.f1 a.f2) ((pos a l : Int), (get a l).isSome) := fun h => bs_from l hl hs a d _ j (by clear hmw hwn; omega) (by clear hmw hwn; omega) hj hjl
        have ihr : ¬ ((i + j) / 2 < pos a l) → Ev (fun k => slices_BinarySearchFunc_69.l0 k l (l.length : Int) (i : Int) (((i + j) / 2 : Nat) : Int) a.f0 a.f1 a.f2) ((pos a l : Int), (get a l).isSome) := fun h => bs_from l hl hs a d i _ (by clear hmw hwn; omega) hi (by clear hmw hwn; omega) (by clear hmw hwn; omega)
        refine Ev_shift 1 (fun k => by rw [slices_BinarySearchFunc_69.l0, if_pos e0, hmw, if_pos e1, if_pos e2, rdAt l _ hm]) ?_
        refine Ev.bind (pl1 (l[(i + j) / 2]) a) ?_
        by_cases hc : cmp (l[(i + j) / 2]).f0 a < 0
        · simp only [if_pos hc, hwn]
          exact ihl (hpi.1 hc)
        · simp only [if_neg hc]
          exact ihr (fun h => hc (hpi.2 h))
    · have hip : pos a l = i := by omega
      have e0 : ¬ (i : Int) < (j : Int) := by omega
      rw [get_pos a l hs, hip]
      by_cases hil : i < l.length
      · have e1 : (i : Int) < (l.length : Int) := by omega
        have e2 : (0 : Int) ≤ (i : Int) := by omega
        refine Ev_shift 1 (fun k => by rw [slices_BinarySearchFunc_69.l0, if_neg e0, if_pos e1, if_pos e2, if_pos e1, rdAt l _ hil]) ?_
        refine Ev.bind (pl1 (l[i]) a) (Ev_const ?_)
        rw [List.getElem?_eq_getElem hil]
        congr 2
        show (cmp (l[i]).f0 a == 0) = _
        simp only []
        cases he : ea (l[i]).f0 a with
        | true =>
          rw [(ea_iff _ _).1 he, cmp_self]
          rfl
        | false =>
          have := (ea_ne _ _).1 he
          have h0 : ¬ cmp (l[i]).f0 a = 0 := fun h => this ((cmp_zero _ _).1 h)
          simpa using h0
      · have e1 : ¬ (i : Int) < (l.length : Int) := by omega
        refine Ev_shift 1 (f := fun _ => some ((i : Int), false)) (fun k => by rw [slices_BinarySearchFunc_69.l0, if_neg e0, if_neg e1]) (Ev_const ?_)
        rw [List.getElem?_eq_none (by omega)]
        rfl
theorem place_ev (l : List S41) (hl : l.length ≤ 140737488351232) (hs : Srt l) (a : S29) : Ev (fun k => lease_place.f k l a.f0 a.f1 a.f2) ((pos a l : Int), (get a l).isSome) := by
  unfold lease_place.f slices_BinarySearchFunc_69.f
  exact Ev.bind (bs_from l hl hs a l.length 0 l.length (by omega) (by omega) (pos_le a l) (Nat.le_refl _)) (Ev_const rfl)
/-- A found entry as Find hands it back. -/
def tup : Option S41 → Bool × Int × Int × ByteArray × Int × Int × Int × ByteArray × Int × Bool
  | some x => (x.f0.f0, x.f0.f1, x.f0.f2, x.f1, x.f2, x.f3, x.f4, x.f5, x.f6, true)
  | none => (false, 0, 0, ⟨#[]⟩, 0, 0, 0, ⟨#[]⟩, 0, false)
theorem rfind_from (l : List S41) (hl : l.length ≤ 140737488351232) (a : S29) : ∀ (r : List S41) (i : Nat), l.drop i = r → Ev (fun k => ddiref38_Find.l0 k l (i : Int) a.f0 a.f1 a.f2) (tup (get a r))
  | [], i, h => by
    have := drop_end h
    exact Ev_shift 1 (f := fun _ => some (tup none)) (fun k => by rw [ddiref38_Find.l0, if_neg (by omega)]; rfl) (Ev_const rfl)
  | x :: r, i, h => by
    obtain ⟨hi, hx, hr⟩ := rd41 l i x r h
    have ih := rfind_from l hl a r (i + 1) hr
    unfold get
    rw [List.find?_cons]
    cases he : ea x.f0 a with
    | true =>
      refine Ev_shift 1 (f := fun _ => some (tup (some x))) (fun k => ?_) (Ev_const rfl)
      have he' := he
      unfold ea at he'
      rw [ddiref38_Find.l0, if_pos (by omega), if_pos (by omega), hx, if_pos he']
      rfl
    | false =>
      have he' := he
      unfold ea at he'
      refine Ev_shift 1 (fun k => by rw [ddiref38_Find.l0, if_pos (by omega), if_pos (by omega), hx, if_neg (by rw [he']; exact Bool.false_ne_true), next i l.length hi (by omega)]) ih
theorem rfind_ev (l : List S41) (hl : l.length ≤ 140737488351232) (a : S29) : Ev (fun k => ddiref38_Find.f k l a.f0 a.f1 a.f2) (tup (get a l)) := by
  unfold ddiref38_Find.f
  exact rfind_from l hl a l 0 rfl
def forB (x : S41) (t : Int) : Bool := decide (t < x.f4) && (decide (x.f2 = 1) || (decide (x.f2 = 2) || decide (x.f2 = 5)))
theorem force_v (x : S41) (t : Int) : lease_inForce.f x.f0.f0 x.f0.f1 x.f0.f2 x.f1 x.f2 x.f3 x.f4 x.f5 x.f6 t = some (forB x t) := by
  unfold lease_inForce.f forB
  by_cases h : t < x.f4
  · rw [if_pos h, decide_eq_true h, Bool.true_and]
    by_cases h1 : x.f2 = 1
    · rw [if_pos h1, decide_eq_true h1]; rfl
    · rw [if_neg h1, decide_eq_false h1, Bool.false_or]
      by_cases h2 : x.f2 = 2
      · rw [if_pos h2, decide_eq_true h2]; rfl
      · rw [if_neg h2, decide_eq_false h2, Bool.false_or]
        rfl
  · rw [if_neg h, decide_eq_false h]; rfl
theorem rforce_v (x : S41) (t : Int) : ddiref38_Force.f x.f0.f0 x.f0.f1 x.f0.f2 x.f1 x.f2 x.f3 x.f4 x.f5 x.f6 t = some (forB x t) := by
  unfold ddiref38_Force.f forB
  by_cases h1 : x.f2 = 1
  · rw [if_pos h1, decide_eq_true h1, Bool.true_or, Bool.and_true]
  · rw [if_neg h1, decide_eq_false h1, Bool.false_or]
    by_cases h2 : x.f2 = 2
    · rw [if_pos h2, decide_eq_true h2, Bool.true_or, Bool.and_true]
    · rw [if_neg h2, decide_eq_false h2, Bool.false_or]
      by_cases h3 : x.f2 = 5
      · rw [if_pos h3, decide_eq_true h3, Bool.and_true]
      · rw [if_neg h3, decide_eq_false h3, Bool.and_false]
end Go.Proofs.YtonpcojdpfmbkaaDoor.Ma
namespace Go.Proofs.YtonpcojdpfmbkaaDoor.Ma
open Go.RowKit Go.Proofs.YtonpcojdpfmbkaaDoorW.PrintWords Go.Proofs.YtonpcojdpfmbkaaDoorW.PrintLast Go.Proofs.YtonpcojdpfmbkaaDoorW.PrintMore Go.Proofs.YtonpcojdpfmbkaaDoor.XP Go.Proofs.YtonpcojdpfmbkaaDoor.QA Go.Proofs.YtonpcojdpfmbkaaDoor.Cm
set_option linter.unusedVariables false
set_option linter.unusedSimpArgs false
def aft (a b : Int) : Int := if b ≥ wrap64 (4294967295 - a) then 4294967295 else wrap64 (a + b)
theorem aft_v (a b : Int) : lease_after.f a b = some (aft a b) := by
  unfold lease_after.f aft
  split <;> rfl
def mine (x : S41) (c : ByteArray) : Bool := decide (x.f1.data.toList = c.data.toList)
end Go.Proofs.YtonpcojdpfmbkaaDoor.Ma
namespace Go.Proofs.YtonpcojdpfmbkaaDoor.Ma
open Go.RowKit Go.Proofs.YtonpcojdpfmbkaaDoorW.PrintWords Go.Proofs.YtonpcojdpfmbkaaDoorW.PrintLast Go.Proofs.YtonpcojdpfmbkaaDoorW.PrintMore Go.Proofs.YtonpcojdpfmbkaaDoor.XP Go.Proofs.YtonpcojdpfmbkaaDoor.QA Go.Proofs.YtonpcojdpfmbkaaDoor.Cm
set_option linter.unusedVariables false
set_option linter.unusedSimpArgs false
theorem awake_ev : Ev (fun k => ddilaw38_awake.f k) true := ⟨60, fun k hk => at_rounds ddilaw38_awake.mono hk (by decide +kernel)⟩
end Go.Proofs.YtonpcojdpfmbkaaDoor.Ma
namespace Go.Proofs.YtonpcojdpfmbkaaDoor.Ma
open Go.RowKit Go.Proofs.YtonpcojdpfmbkaaDoorW.PrintWords Go.Proofs.YtonpcojdpfmbkaaDoorW.PrintLast Go.Proofs.YtonpcojdpfmbkaaDoorW.PrintMore Go.Proofs.YtonpcojdpfmbkaaDoor.XP Go.Proofs.YtonpcojdpfmbkaaDoor.QA Go.Proofs.YtonpcojdpfmbkaaDoor.Cm
set_option linter.unusedVariables false
set_option linter.unusedSimpArgs false
end Go.Proofs.YtonpcojdpfmbkaaDoor.Ma
namespace Go.Proofs.YtonpcojdpfmbkaaDoor.Ma
open Go.RowKit Go.Proofs.YtonpcojdpfmbkaaDoorW.PrintWords Go.Proofs.YtonpcojdpfmbkaaDoorW.PrintLast Go.Proofs.YtonpcojdpfmbkaaDoorW.PrintMore Go.Proofs.YtonpcojdpfmbkaaDoor.XP Go.Proofs.YtonpcojdpfmbkaaDoor.QA Go.Proofs.YtonpcojdpfmbkaaDoor.Cm
set_option linter.unusedVariables false
set_option linter.unusedSimpArgs false
def z41 : S41 := ⟨⟨false, 0, 0⟩, ⟨#[]⟩, 0, 0, 0, ⟨#[]⟩, 0⟩
theorem same_from (l : List S41) (hl : l.length ≤ 1000000) : ∀ (d i : Nat), l.length - i ≤ d → i ≤ l.length → Ev (fun k => ddiref38_Same.l0 k l l (i : Int)) true
  | d, i, hd, hi => by
    by_cases h : i < l.length
    · cases d with
      | zero => exact absurd hd (by omega)
      | succ d =>
        have ih := same_from l hl d (i + 1) (by omega) (by omega)
        refine Ev_shift 1 (fun k => ?_) ih
        rw [ddiref38_Same.l0, if_pos (by omega), if_pos (by omega), if_pos (by omega), next i l.length h (by omega)]
        simp only [beq_self_eq_true, Bool.not_true, Bool.or_false, Bool.false_eq_true, if_false]
    · exact Ev_shift 1 (f := fun _ => some true) (fun k => by rw [ddiref38_Same.l0, if_neg (by omega)]) (Ev_const rfl)
theorem same_ev (l : List S41) (hl : l.length ≤ 1000000) : Ev (fun k => ddiref38_Same.f k l l) true := by
  unfold ddiref38_Same.f
  simp only [if_true]
  exact same_from l hl l.length 0 (by omega) (by omega)
end Go.Proofs.YtonpcojdpfmbkaaDoor.Ma
namespace Go.Proofs.YtonpcojdpfmbkaaDoor.Ma
open Go.RowKit Go.Proofs.YtonpcojdpfmbkaaDoorW.PrintWords Go.Proofs.YtonpcojdpfmbkaaDoorW.PrintLast Go.Proofs.YtonpcojdpfmbkaaDoorW.PrintMore Go.Proofs.YtonpcojdpfmbkaaDoor.XP Go.Proofs.YtonpcojdpfmbkaaDoor.QA Go.Proofs.YtonpcojdpfmbkaaDoor.Cm
set_option linter.unusedVariables false
set_option linter.unusedSimpArgs false
/-- The reference's Set, by its loop. -/
def loopS (x : S41) (d : Int) : List S41 → Nat → Bool → List S41
  | [], _, pl => if pl = true then [] else [x]
  | y :: r, i, pl => (if pl = false ∧ cmp y.f0 x.f0 ≥ 0 then [x] else []) ++ ((if cmp y.f0 x.f0 = 0 then [] else (if (i : Int) = d then [] else [y])) ++ loopS x d r (i + 1) (pl || decide (cmp y.f0 x.f0 ≥ 0)))
theorem rset_from (l : List S41) (hl : l.length ≤ 512) (x : S41) (d : Int) : ∀ (r : List S41) (i : Nat) (q : List S41) (pl : Bool), l.drop i = r → q.length ≤ 2 * i → i ≤ 512 → Ev (fun k => ddiref38_Set.l0 k l d q pl (i : Int) x.f0.f0 x.f0.f1 x.f0.f2 x.f1 x.f2 x.f3 x.f4 x.f5 x.f6) (q ++ loopS x d r i pl, 0)
  | [], i, q, pl, h, hq, hi5 => by
    have hi := drop_end h
    unfold loopS
    cases pl with
    | true => exact Ev_shift 1 (f := fun _ => some (q, 0)) (fun k => by rw [ddiref38_Set.l0, if_neg (by omega), if_pos rfl]) (Ev_const (by simp))
    | false =>
      have hb : q.length < 1599289640401 := by omega
      exact Ev_shift 1 (f := fun _ => some (q ++ [x], 0)) (fun k => by rw [ddiref38_Set.l0, if_neg (by omega), if_neg Bool.false_ne_true, if_pos hb]) (Ev_const (by simp))
  | y :: r, i, q, pl, h, hq, _ => by
    obtain ⟨hi, hy, hr⟩ := rd41 l i y r h
    have ih := fun q pl h => rset_from l hl x d r (i + 1) q pl hr h (by omega)
    have h5 : ∀ (q2 : List S41) (pl2 b : Bool), q2.length ≤ 2 * i + 1 → Ev (fun k => ddiref38_Set.j5 k l d q2 pl2 (i : Int) b x.f0.f0 x.f0.f1 x.f0.f2 x.f1 x.f2 x.f3 x.f4 x.f5 x.f6) ((q2 ++ (if b = true then [y] else [])) ++ loopS x d r (i + 1) pl2, 0) := by
      intro q2 pl2 b hq2
      cases b with
      | true =>
        have := ih (q2 ++ [y]) pl2 (by simp; omega)
        exact Ev_shift 1 (fun k => by rw [ddiref38_Set.j5, if_pos rfl, if_pos (by omega), if_pos (by omega), if_pos (by omega), hy, next i l.length hi (by omega)]) this
      | false =>
        have := ih q2 pl2 (by omega)
        exact Ev_shift 1 (fun k => by rw [ddiref38_Set.j5, if_neg Bool.false_ne_true, next i l.length hi (by omega)]) (by rw [if_neg Bool.false_ne_true, List.append_nil]; exact this)
    have h4 : ∀ (q2 : List S41) (pl2 : Bool), q2.length ≤ 2 * i + 1 → Ev (fun k => ddiref38_Set.j4 k l d q2 pl2 (i : Int) (cmp y.f0 x.f0) x.f0.f0 x.f0.f1 x.f0.f2 x.f1 x.f2 x.f3 x.f4 x.f5 x.f6) ((q2 ++ (if cmp y.f0 x.f0 = 0 then [] else (if (i : Int) = d then [] else [y]))) ++ loopS x d r (i + 1) pl2, 0) := by
      intro q2 pl2 hq2
      by_cases h0 : cmp y.f0 x.f0 = 0
      · rw [if_pos h0]
        exact Ev_shift 1 (fun k => by rw [ddiref38_Set.j4, if_pos h0]) (h5 q2 pl2 false hq2)
      · rw [if_neg h0]
        refine Ev_shift 1 (fun k => by rw [ddiref38_Set.j4, if_neg h0]) ?_
        have := h5 q2 pl2 ((i : Int) != d) hq2
        by_cases hd : (i : Int) = d
        · rw [if_pos hd]
          have hbb : ((i : Int) != d) = false := by simpa using hd
          rw [hbb] at this ⊢
          exact this
        · rw [if_neg hd]
          have hbb : ((i : Int) != d) = true := by simpa using hd
          rw [hbb] at this ⊢
          exact this
    have hgo : ∀ b : Bool, b = (!pl && decide (cmp y.f0 x.f0 ≥ 0)) → Ev (fun k => ddiref38_Set.j3 k l d q pl (i : Int) (cmp y.f0 x.f0) b x.f0.f0 x.f0.f1 x.f0.f2 x.f1 x.f2 x.f3 x.f4 x.f5 x.f6) (q ++ loopS x d (y :: r) i pl, 0) := by
      rintro b rfl
      have hq1 : q.length < 1599289640401 := by omega
      unfold loopS
      cases pl with
      | true =>
        rw [if_neg (by simp), List.nil_append, ← List.append_assoc]
        exact Ev_shift 1 (fun k => by rw [ddiref38_Set.j3, Bool.not_true, Bool.false_and, if_neg Bool.false_ne_true]) (h4 q true (by omega))
      | false =>
        by_cases hc : cmp y.f0 x.f0 ≥ 0
        · rw [if_pos ⟨rfl, hc⟩, decide_eq_true hc]
          have := h4 (q ++ [x]) true (by simp; omega)
          rw [List.append_assoc, List.append_assoc] at this
          exact Ev_shift 1 (fun k => by rw [ddiref38_Set.j3, Bool.not_false, Bool.true_and, if_pos rfl, if_pos hq1]) this
        · rw [if_neg (fun h => hc h.2), decide_eq_false hc, List.nil_append, ← List.append_assoc]
          exact Ev_shift 1 (fun k => by rw [ddiref38_Set.j3, Bool.not_false, Bool.true_and, if_neg Bool.false_ne_true]) (h4 q false (by omega))
    by_cases hc : cmp y.f0 x.f0 ≥ 0
    · exact Ev_shift 1 (fun k => by rw [ddiref38_Set.l0, if_pos (by omega), if_pos (by omega), hy, rcmp, Option.bind_some, if_pos hc]) (hgo (!pl) (by rw [decide_eq_true hc, Bool.and_true]))
    · exact Ev_shift 1 (fun k => by rw [ddiref38_Set.l0, if_pos (by omega), if_pos (by omega), hy, rcmp, Option.bind_some, if_neg hc]) (hgo false (by rw [decide_eq_false hc, Bool.and_false]))
theorem loop_keep (x : S41) : ∀ (r : List S41) (i : Nat), (∀ y ∈ r, cmp x.f0 y.f0 < 0) → loopS x (-1) r i true = r
  | [], _, _ => rfl
  | y :: r, i, h => by
    have h1 := h y (List.mem_cons_self ..)
    have h2 := cmp_flip x.f0 y.f0
    unfold loopS
    rw [if_neg (by simp), if_neg (by omega), if_neg (by omega), Bool.true_or, loop_keep x r (i + 1) (fun z hz => h z (List.mem_cons_of_mem _ hz))]
    rfl
theorem loop_set (x : S41) : ∀ (l : List S41) (i : Nat), Srt l → (get x.f0 l).isSome = true → loopS x (-1) l i false = l.set (pos x.f0 l) x
  | [], _, _, h => by cases h
  | y :: r, i, hs, hg => by
    obtain ⟨h1, h2⟩ := List.pairwise_cons.1 hs
    unfold loopS pos
    by_cases hc : cmp y.f0 x.f0 < 0
    · have he : ea y.f0 x.f0 = false := by
        rw [ea_ne]
        intro e
        rw [e, cmp_self] at hc
        omega
      have hg2 : (get x.f0 r).isSome = true := by
        unfold get at hg ⊢
        rw [List.find?_cons, he] at hg
        exact hg
      rw [if_pos hc, if_neg (by omega), if_neg (by omega), if_neg (by omega), decide_eq_false (by omega), Bool.or_false, loop_set x r (i + 1) h2 hg2]
      rfl
    · rw [if_neg hc, if_pos ⟨rfl, by omega⟩, decide_eq_true (show cmp y.f0 x.f0 ≥ 0 by omega), Bool.or_true]
      have he : y.f0 = x.f0 := by
        cases he : ea y.f0 x.f0 with
        | true => exact (ea_iff _ _).1 he
        | false =>
          have hn := get_none_of_gt x.f0 y r h1 hc
          unfold get at hg hn
          rw [List.find?_cons, he] at hg
          simp only [hn] at hg
          cases hg
      rw [if_pos (by rw [he, cmp_self]), loop_keep x r (i + 1) (fun z hz => by rw [← he]; exact h1 z hz)]
      rfl
theorem rset_ev (l : List S41) (hl : l.length ≤ 512) (hs : Srt l) (x : S41) (t : Int) (hg : (get x.f0 l).isSome = true) : Ev (fun k => ddiref38_Set.f k l x.f0.f0 x.f0.f1 x.f0.f2 x.f1 x.f2 x.f3 x.f4 x.f5 x.f6 t) (l.set (pos x.f0 l) x, 0) := by
  unfold ddiref38_Set.f
  refine Ev.bind (rfind_ev l (by omega) x.f0) ?_
  cases ho : get x.f0 l with
  | none => rw [ho] at hg; cases hg
  | some y =>
    simp only [tup, if_true]
    refine Ev_shift 1 (fun k => by rw [ddiref38_Set.j0, if_neg Bool.false_ne_true]) ?_
    refine Ev_shift 1 (fun k => by rw [ddiref38_Set.j1]) ?_
    have := rset_from l hl x (-1) l 0 [] false rfl (Nat.le_refl _) (by omega)
    rw [List.nil_append, loop_set x l 0 hs hg] at this
    exact this
def heldB (o : Option S41) (c : ByteArray) (z t : Int) : Bool := match o with | some x => mine x c && ((decide (x.f2 = 1) || decide (x.f2 = 2)) && (forB x t && decide (z ≥ x.f6))) | none => false
theorem get_at (l : List S41) (hs : Srt l) (a : S29) (x : S41) (h : get a l = some x) : ∃ hp : pos a l < l.length, l[pos a l] = x ∧ x.f0 = a := by
  have hg := get_pos a l hs
  rw [h] at hg
  rcases Nat.lt_or_ge (pos a l) l.length with hp | hp
  · rw [List.getElem?_eq_getElem hp] at hg
    simp only [] at hg
    split at hg
    · rename_i he
      injection hg with hg
      exact ⟨hp, hg.symm, by rw [hg]; exact (ea_iff _ _).1 he⟩
    · cases hg
  · rw [List.getElem?_eq_none hp] at hg
    cases hg
theorem held_ev (l : List S41) (hl : l.length ≤ 512) (hs : Srt l) (a : S29) (c : ByteArray) (z t : Int) : Ev (fun k => lease_held.f k l a.f0 a.f1 a.f2 c z t) (if (get a l).isSome = true then (pos a l : Int) else 0, heldB (get a l) c z t) := by
  unfold lease_held.f
  refine Ev.bind (place_ev l (by omega) hs a) ?_
  cases hg : get a l with
  | none => exact Ev_const rfl
  | some x =>
    obtain ⟨hp, hx, _⟩ := get_at l hs a x hg
    simp only [Option.isSome_some, if_true, if_pos (show (0 : Int) ≤ (pos a l : Int) by omega), if_pos (show (pos a l : Int) < (l.length : Int) by omega), rdAt l _ hp, hx, toL, force_v, Option.bind_some]
    refine Ev_const ?_
    unfold heldB mine
    simp only []
    by_cases hm : x.f1.data.toList = c.data.toList
    · rw [if_pos hm, decide_eq_true hm, Bool.true_and]
      by_cases h1 : x.f2 = 1
      · rw [if_pos h1, decide_eq_true h1, Bool.true_or, Bool.true_and]
        cases forB x t <;> rfl
      · rw [if_neg h1, decide_eq_false h1, Bool.false_or]
        by_cases h2 : x.f2 = 2
        · rw [if_pos h2, decide_eq_true h2, Bool.true_and]
          cases forB x t <;> rfl
        · rw [if_neg h2, decide_eq_false h2, Bool.false_and]
    · rw [if_neg hm, decide_eq_false hm, Bool.false_and]
theorem rheld_ev (l : List S41) (hl : l.length ≤ 512) (a : S29) (c : ByteArray) (z t : Int) : Ev (fun k => ddiref38_held.f k l a.f0 a.f1 a.f2 c z t) (tup (if heldB (get a l) c z t = true then get a l else none)) := by
  unfold ddiref38_held.f
  refine Ev.bind (rfind_ev l (by omega) a) ?_
  cases get a l with
  | none =>
    simp only [tup, Bool.false_eq_true, if_false]
    exact Ev_shift 1 (f := fun _ => some (tup none)) (fun k => by rw [ddiref38_held.j0, if_pos rfl]; rfl) (Ev_const rfl)
  | some x =>
    simp only [tup, if_true, toL, rforce_v, Option.bind_some]
    have hj : ∀ b : Bool, b = !heldB (some x) c z t → Ev (fun k => ddiref38_held.j0 k b x.f0.f0 x.f0.f1 x.f0.f2 x.f1 x.f2 x.f3 x.f4 x.f5 x.f6) (tup (if heldB (some x) c z t = true then some x else none)) := by
      rintro b rfl
      cases heldB (some x) c z t with
      | true => exact Ev_shift 1 (f := fun _ => some (tup (some x))) (fun k => by rw [ddiref38_held.j0, Bool.not_true, if_neg Bool.false_ne_true]; rfl) (Ev_const rfl)
      | false => exact Ev_shift 1 (f := fun _ => some (tup none)) (fun k => by rw [ddiref38_held.j0, Bool.not_false, if_pos rfl]; rfl) (Ev_const rfl)
    have hh : heldB (some x) c z t = (mine x c && ((decide (x.f2 = 1) || decide (x.f2 = 2)) && (forB x t && decide (z ≥ x.f6)))) := rfl
    have hz : decide (z < x.f6) = !decide (z ≥ x.f6) := by
      rw [Bool.eq_iff_iff]
      simp
    by_cases hm : x.f1.data.toList = c.data.toList
    · simp only [if_pos hm]
      have hm2 : mine x c = true := decide_eq_true hm
      by_cases h1 : x.f2 = 1
      · simp only [if_pos h1]
        cases hf : forB x t with
        | true =>
          simp only [if_true]
          exact hj _ (hz.trans (by rw [hh, hm2, hf, decide_eq_true h1]; rfl))
        | false =>
          simp only [Bool.false_eq_true, if_false]
          exact hj true (by rw [hh, hf, Bool.false_and, Bool.and_false, Bool.and_false]; rfl)
      · simp only [if_neg h1]
        by_cases h2 : x.f2 = 2
        · simp only [if_pos h2]
          cases hf : forB x t with
          | true =>
            simp only [if_true]
            exact hj _ (hz.trans (by rw [hh, hm2, hf, decide_eq_true h2, Bool.or_true]; rfl))
          | false =>
            simp only [Bool.false_eq_true, if_false]
            exact hj true (by rw [hh, hf, Bool.false_and, Bool.and_false, Bool.and_false]; rfl)
        · simp only [if_neg h2]
          exact hj true (by rw [hh, decide_eq_false h1, decide_eq_false h2, Bool.or_false, Bool.false_and, Bool.and_false]; rfl)
    · simp only [if_neg hm]
      exact hj true (by rw [hh]; unfold mine; rw [decide_eq_false hm, Bool.false_and]; rfl)
end Go.Proofs.YtonpcojdpfmbkaaDoor.Ma
namespace Go.Proofs.YtonpcojdpfmbkaaDoor.Ma
open Go.RowKit Go.Proofs.YtonpcojdpfmbkaaDoorW.PrintWords Go.Proofs.YtonpcojdpfmbkaaDoorW.PrintLast Go.Proofs.YtonpcojdpfmbkaaDoorW.PrintMore Go.Proofs.YtonpcojdpfmbkaaDoor.XP Go.Proofs.YtonpcojdpfmbkaaDoor.QA Go.Proofs.YtonpcojdpfmbkaaDoor.Cm
set_option linter.unusedVariables false
set_option linter.unusedSimpArgs false
def updT (l : List S41) (a : S29) (c : ByteArray) (z t : Int) (u : S41 → S41) : List S41 × Int := match get a l with | some x => (if heldB (some x) c z t = true then (l.set (pos a l) (u x), 0) else ([], 11)) | none => ([], 11)
def relX (t : Int) (x : S41) : S41 := ⟨x.f0, x.f1, 3, x.f3, mx t x.f3, x.f5, x.f6⟩
def decX (t d : Int) (x : S41) : S41 := ⟨x.f0, x.f1, 5, t, aft t d, x.f5, x.f6⟩
theorem rdSet (l : List S41) (p : Nat) (h : p < l.length) (v : S41) : rd_T41 (l.set p v) (p : Int) = v := by
  rw [rdAt _ p (by rw [List.length_set]; exact h), List.getElem_set_self]
def good3 (c : ByteArray) (z t : Int) : Bool := cliB c && (timeB z && timeB t)
theorem rel_ev (l : List S41) (hl : l.length ≤ 512) (hs : Srt l) (a : S29) (c : ByteArray) (hc : c.size ≤ 140737488351232) (z t : Int) : Ev (fun k => lease_Release.f k l a.f0 a.f1 a.f2 c z t) (if good3 c z t = true then updT l a c z t (relX t) else ([], 1)) := by
  unfold lease_Release.f
  have hj : ∀ b : Bool, b = !good3 c z t → Ev (fun k => lease_Release.j0 k l c z t b a.f0 a.f1 a.f2) (if good3 c z t = true then updT l a c z t (relX t) else ([], 1)) := by
    rintro b rfl
    cases good3 c z t with
    | false => exact Ev_shift 1 (f := fun _ => some ([], 1)) (fun k => by rw [lease_Release.j0, Bool.not_false, if_pos rfl]) (Ev_const rfl)
    | true =>
      rw [if_pos rfl]
      refine Ev_shift 1 (fun k => by rw [lease_Release.j0, Bool.not_true, if_neg Bool.false_ne_true]) ?_
      refine Ev.bind (held_ev l hl hs a c z t) ?_
      unfold updT
      cases hg : get a l with
      | none => exact Ev_const rfl
      | some x =>
        obtain ⟨hp, hx, _⟩ := get_at l hs a x hg
        simp only [Option.isSome_some, if_true]
        cases hh : heldB (some x) c z t with
        | false => exact Ev_const rfl
        | true =>
          have h88 : l.length * 88 ≤ 140737488355328 := by omega
          have e1 : (0 : Int) ≤ (pos a l : Int) := by omega
          have e2 : (pos a l : Int) < (l.length : Int) := by omega
          simp only [if_true, slices_Clone.f, if_pos h88, Option.bind_some, if_pos e1, if_pos e2, Int.toNat_natCast, rdAt l _ hp, hx, rdSet l _ hp, List.set_set]
          exact Ev_const rfl
  refine Ev.bind (cli_ev c hc) ?_
  simp only [xid_v, time_v, Option.bind_some]
  cases h1 : cliB c with
  | false =>
    simp only [Bool.false_eq_true, if_false]
    exact hj true (by unfold good3; rw [h1]; rfl)
  | true =>
    simp only [if_true]
    cases h2 : timeB z with
    | false =>
      simp only [Bool.false_eq_true, if_false]
      exact hj true (by unfold good3; rw [h2, Bool.false_and, Bool.and_false]; rfl)
    | true =>
      simp only [if_true]
      exact hj _ (by unfold good3; rw [h1, h2]; rfl)
theorem rrel_ev (l : List S41) (hl : l.length ≤ 512) (hs : Srt l) (a : S29) (c : ByteArray) (hc : c.size ≤ 140737488351232) (z t : Int) : Ev (fun k => ddiref38_Release.f k l a.f0 a.f1 a.f2 c z t) (if good3 c z t = true then updT l a c z t (relX t) else ([], 1)) := by
  unfold ddiref38_Release.f
  have hj : ∀ b : Bool, b = !good3 c z t → Ev (fun k => ddiref38_Release.j0 k l c z t b a.f0 a.f1 a.f2) (if good3 c z t = true then updT l a c z t (relX t) else ([], 1)) := by
    rintro b rfl
    cases good3 c z t with
    | false => exact Ev_shift 1 (f := fun _ => some ([], 1)) (fun k => by rw [ddiref38_Release.j0, Bool.not_false, if_pos rfl]) (Ev_const rfl)
    | true =>
      rw [if_pos rfl]
      refine Ev_shift 1 (fun k => by rw [ddiref38_Release.j0, Bool.not_true, if_neg Bool.false_ne_true]) ?_
      refine Ev.bind (rheld_ev l hl a c z t) ?_
      unfold updT
      cases hg : get a l with
      | none =>
        rw [ite_self]
        exact Ev_const rfl
      | some x =>
        obtain ⟨hp, hx, hxa⟩ := get_at l hs a x hg
        simp only []
        cases hh : heldB (some x) c z t with
        | false => exact Ev_const rfl
        | true =>
          simp only [if_true, tup]
          have := rset_ev l hl hs (relX t x) t (by show (get x.f0 l).isSome = true; rw [hxa, hg]; rfl)
          rw [show (relX t x).f0 = a from hxa] at this
          rw [← hxa] at this ⊢
          exact Ev.bind this (Ev_const rfl)
  refine Ev.bind (rcli_ev c hc) ?_
  simp only [rtime_v, Option.bind_some]
  cases h1 : cliB c with
  | false =>
    simp only [Bool.false_eq_true, if_false]
    exact hj true (by unfold good3; rw [h1]; rfl)
  | true =>
    simp only [if_true]
    cases h2 : timeB z with
    | false =>
      simp only [Bool.false_eq_true, if_false]
      exact hj true (by unfold good3; rw [h2, Bool.false_and, Bool.and_false]; rfl)
    | true =>
      simp only [if_true]
      exact hj _ (by unfold good3; rw [h1, h2]; rfl)
theorem later_v (t d : Int) (ht : timeB t = true) (hd : 1 ≤ d) (hd2 : d ≤ 9223372036854775807) : ddiref38_Later.f t d = some (aft t d) := by
  unfold ddiref38_Later.f aft
  unfold timeB at ht
  have h1 : 0 ≤ t ∧ t ≤ 4294967295 := by simpa using ht
  rw [wrap_id (x := 4294967295 - t) (by omega) (by omega)]
  by_cases h : d > 4294967295 - t
  · rw [if_pos h, if_pos (by omega)]
  · rw [if_neg h]
    by_cases h2 : d ≥ 4294967295 - t
    · rw [if_pos h2, wrap_id (by omega) (by omega), show t + d = 4294967295 by omega]
    · rw [if_neg h2]
def good4 (c : ByteArray) (z t d : Int) : Bool := cliB c && (timeB z && (timeB t && decide (1 ≤ d)))
theorem dec_ev (l : List S41) (hl : l.length ≤ 512) (hs : Srt l) (a : S29) (c : ByteArray) (hc : c.size ≤ 140737488351232) (z t d : Int) : Ev (fun k => lease_Decline.f k l a.f0 a.f1 a.f2 c z t d) (if good4 c z t d = true then updT l a c z t (decX t d) else ([], 1)) := by
  unfold lease_Decline.f
  have hj : ∀ b : Bool, b = !good4 c z t d → Ev (fun k => lease_Decline.j0 k l c z t d b a.f0 a.f1 a.f2) (if good4 c z t d = true then updT l a c z t (decX t d) else ([], 1)) := by
    rintro b rfl
    cases good4 c z t d with
    | false => exact Ev_shift 1 (f := fun _ => some ([], 1)) (fun k => by rw [lease_Decline.j0, Bool.not_false, if_pos rfl]) (Ev_const rfl)
    | true =>
      rw [if_pos rfl]
      refine Ev_shift 1 (fun k => by rw [lease_Decline.j0, Bool.not_true, if_neg Bool.false_ne_true]) ?_
      refine Ev.bind (held_ev l hl hs a c z t) ?_
      unfold updT
      cases hg : get a l with
      | none => exact Ev_const rfl
      | some x =>
        obtain ⟨hp, hx, _⟩ := get_at l hs a x hg
        simp only [Option.isSome_some, if_true]
        cases hh : heldB (some x) c z t with
        | false => exact Ev_const rfl
        | true =>
          have h88 : l.length * 88 ≤ 140737488355328 := by omega
          have e1 : (0 : Int) ≤ (pos a l : Int) := by omega
          have e2 : (pos a l : Int) < (l.length : Int) := by omega
          simp only [if_true, slices_Clone.f, if_pos h88, Option.bind_some, if_pos e1, if_pos e2, Int.toNat_natCast, rdAt l _ hp, hx, rdSet l _ hp, List.set_set, aft_v]
          exact Ev_const rfl
  refine Ev.bind (cli_ev c hc) ?_
  simp only [xid_v, time_v, Option.bind_some]
  cases h1 : cliB c with
  | false =>
    simp only [Bool.false_eq_true, if_false]
    exact hj true (by unfold good4; rw [h1]; rfl)
  | true =>
    simp only [if_true]
    cases h2 : timeB z with
    | false =>
      simp only [Bool.false_eq_true, if_false]
      exact hj true (by unfold good4; rw [h2, Bool.false_and, Bool.and_false]; rfl)
    | true =>
      simp only [if_true]
      cases h3 : timeB t with
      | false =>
        simp only [Bool.false_eq_true, if_false]
        exact hj true (by unfold good4; rw [h3, Bool.false_and, Bool.and_false, Bool.and_false]; rfl)
      | true =>
        simp only [if_true]
        exact hj _ (by unfold good4; rw [h1, h2, h3, Bool.true_and, Bool.true_and, Bool.true_and, Bool.eq_iff_iff]; simp)
theorem rdec_ev (l : List S41) (hl : l.length ≤ 512) (hs : Srt l) (a : S29) (c : ByteArray) (hc : c.size ≤ 140737488351232) (z t d : Int) (hd : d ≤ 9223372036854775807) : Ev (fun k => ddiref38_Decline.f k l a.f0 a.f1 a.f2 c z t d) (if good4 c z t d = true then updT l a c z t (decX t d) else ([], 1)) := by
  unfold ddiref38_Decline.f
  have hj : ∀ b : Bool, b = !good4 c z t d → Ev (fun k => ddiref38_Decline.j0 k l c z t d b a.f0 a.f1 a.f2) (if good4 c z t d = true then updT l a c z t (decX t d) else ([], 1)) := by
    rintro b rfl
    cases hgd : good4 c z t d with
    | false => exact Ev_shift 1 (f := fun _ => some ([], 1)) (fun k => by rw [ddiref38_Decline.j0, Bool.not_false, if_pos rfl]) (Ev_const rfl)
    | true =>
      have hlat : ddiref38_Later.f t d = some (aft t d) := by
        unfold good4 at hgd
        simp only [Bool.and_eq_true, decide_eq_true_eq] at hgd
        exact later_v t d hgd.2.2.1 hgd.2.2.2 hd
      rw [if_pos rfl]
      refine Ev_shift 1 (fun k => by rw [ddiref38_Decline.j0, Bool.not_true, if_neg Bool.false_ne_true]) ?_
      refine Ev.bind (rheld_ev l hl a c z t) ?_
      unfold updT
      cases hg : get a l with
      | none =>
        rw [ite_self]
        exact Ev_const rfl
      | some x =>
        obtain ⟨hp, hx, hxa⟩ := get_at l hs a x hg
        simp only []
        cases hh : heldB (some x) c z t with
        | false => exact Ev_const rfl
        | true =>
          simp only [if_true, tup, hlat, Option.bind_some]
          have := rset_ev l hl hs (decX t d x) t (by show (get x.f0 l).isSome = true; rw [hxa, hg]; rfl)
          rw [show (decX t d x).f0 = a from hxa] at this
          rw [← hxa] at this ⊢
          exact Ev.bind this (Ev_const rfl)
  refine Ev.bind (rcli_ev c hc) ?_
  simp only [rtime_v, Option.bind_some]
  cases h1 : cliB c with
  | false =>
    simp only [Bool.false_eq_true, if_false]
    exact hj true (by unfold good4; rw [h1]; rfl)
  | true =>
    simp only [if_true]
    cases h2 : timeB z with
    | false =>
      simp only [Bool.false_eq_true, if_false]
      exact hj true (by unfold good4; rw [h2, Bool.false_and, Bool.and_false]; rfl)
    | true =>
      simp only [if_true]
      cases h3 : timeB t with
      | false =>
        simp only [Bool.false_eq_true, if_false]
        exact hj true (by unfold good4; rw [h3, Bool.false_and, Bool.and_false, Bool.and_false]; rfl)
      | true =>
        simp only [if_true]
        exact hj _ (by unfold good4; rw [h1, h2, h3, Bool.true_and, Bool.true_and, Bool.true_and, Bool.eq_iff_iff]; simp)
def gone (t : Int) (x : S41) : Bool := decide (x.f4 ≤ t) && (decide (x.f2 = 1) || decide (x.f2 = 5))
def expX (t : Int) (x : S41) : S41 := if (decide (x.f4 ≤ t) && decide (x.f2 = 2)) = true then ⟨x.f0, x.f1, 4, x.f3, x.f4, x.f5, x.f6⟩ else x
def expT (t : Int) : List S41 → List S41
  | [] => []
  | x :: r => if gone t x = true then expT t r else expX t x :: expT t r
theorem expT_len (t : Int) : ∀ l : List S41, (expT t l).length ≤ l.length
  | [] => Nat.le_refl _
  | x :: r => by
    have := expT_len t r
    unfold expT
    split <;> simp <;> omega
theorem exp_from (l : List S41) (hl : l.length ≤ 512) (t : Int) : ∀ (r : List S41) (i : Nat) (q : List S41), l.drop i = r → q.length ≤ i → Ev (fun k => lease_Expire.l0 k t q l (l.length : Int) (i : Int)) (q ++ expT t r)
  | [], i, q, h, _ => by
    have := drop_end h
    exact Ev_shift 1 (f := fun _ => some q) (fun k => by rw [lease_Expire.l0, if_neg (by omega)]) (Ev_const (by simp [expT]))
  | x :: r, i, q, h, hq => by
    obtain ⟨hi, hx, hr⟩ := rd41 l i x r h
    have hq1 : q.length < 1599289640401 := by omega
    have ih := fun y : S41 => exp_from l hl t r (i + 1) (q ++ [y]) hr (by simp; omega)
    have ih0 := exp_from l hl t r (i + 1) q hr (by omega)
    by_cases h4 : x.f4 ≤ t
    · have hj : ∀ b : Bool, b = (decide (x.f2 = 1) || decide (x.f2 = 5)) → Ev (fun k => lease_Expire.j1 k t q l (l.length : Int) (i : Int) x.f2 b x.f0.f0 x.f0.f1 x.f0.f2 x.f1 x.f2 x.f3 x.f4 x.f5 x.f6) (q ++ expT t (x :: r)) := by
        rintro b rfl
        unfold expT gone
        rw [decide_eq_true h4, Bool.true_and]
        cases hg : (decide (x.f2 = 1) || decide (x.f2 = 5)) with
        | true => exact Ev_shift 1 (fun k => by rw [lease_Expire.j1, if_pos rfl, next i l.length hi (by omega)]) ih0
        | false =>
          rw [if_neg Bool.false_ne_true]
          unfold expX
          rw [decide_eq_true h4, Bool.true_and]
          by_cases h2 : x.f2 = 2
          · have := ih ⟨x.f0, x.f1, 4, x.f3, x.f4, x.f5, x.f6⟩
            rw [List.append_assoc] at this
            rw [decide_eq_true h2, if_pos rfl]
            exact Ev_shift 1 (fun k => by rw [lease_Expire.j1, if_neg Bool.false_ne_true, if_pos h2, if_pos hq1, next i l.length hi (by omega)]) this
          · have := ih x
            rw [List.append_assoc] at this
            rw [decide_eq_false h2, if_neg Bool.false_ne_true]
            exact Ev_shift 1 (fun k => by rw [lease_Expire.j1, if_neg Bool.false_ne_true, if_neg h2, if_pos hq1, next i l.length hi (by omega)]) this
      by_cases h1 : x.f2 = 1
      · refine Ev_shift 1 (fun k => by rw [lease_Expire.l0, if_pos (by omega), if_pos (by omega), if_pos (by omega), hx, if_pos h4, if_pos h1]) ?_
        exact hj _ (by rw [h1]; rfl)
      · refine Ev_shift 1 (fun k => by rw [lease_Expire.l0, if_pos (by omega), if_pos (by omega), if_pos (by omega), hx, if_pos h4, if_neg h1]) ?_
        exact hj _ (by rw [decide_eq_false h1, Bool.false_or]; rfl)
    · have := ih x
      rw [List.append_assoc] at this
      unfold expT gone expX
      rw [decide_eq_false h4, Bool.false_and, Bool.false_and, if_neg Bool.false_ne_true, if_neg Bool.false_ne_true]
      exact Ev_shift 1 (fun k => by rw [lease_Expire.l0, if_pos (by omega), if_pos (by omega), if_pos (by omega), hx, if_neg h4, if_pos hq1, next i l.length hi (by omega)]) this
theorem rexp_from (l : List S41) (hl : l.length ≤ 512) (t : Int) : ∀ (r : List S41) (i : Nat) (q : List S41), l.drop i = r → q.length ≤ i → Ev (fun k => ddiref38_Expire.l0 k l t q (i : Int)) (q ++ expT t r)
  | [], i, q, h, _ => by
    have := drop_end h
    exact Ev_shift 1 (f := fun _ => some q) (fun k => by rw [ddiref38_Expire.l0, if_neg (by omega)]) (Ev_const (by simp [expT]))
  | x :: r, i, q, h, hq => by
    obtain ⟨hi, hx, hr⟩ := rd41 l i x r h
    have hq1 : q.length < 1599289640401 := by omega
    have ih := fun y : S41 => rexp_from l hl t r (i + 1) (q ++ [y]) hr (by simp; omega)
    have ih0 := rexp_from l hl t r (i + 1) q hr (by omega)
    have hj2 : ∀ b : Bool, b = (decide (x.f4 ≤ t) && decide (x.f2 = 2)) → Ev (fun k => ddiref38_Expire.j2 k l t q (i : Int) b x.f0.f0 x.f0.f1 x.f0.f2 x.f1 x.f2 x.f3 x.f4 x.f5 x.f6) (q ++ expX t x :: expT t r) := by
      rintro b rfl
      unfold expX
      cases (decide (x.f4 ≤ t) && decide (x.f2 = 2)) with
      | true =>
        have := ih ⟨x.f0, x.f1, 4, x.f3, x.f4, x.f5, x.f6⟩
        rw [List.append_assoc] at this
        exact Ev_shift 1 (fun k => by rw [ddiref38_Expire.j2, if_pos rfl, if_pos hq1, next i l.length hi (by omega)]) this
      | false =>
        have := ih x
        rw [List.append_assoc] at this
        exact Ev_shift 1 (fun k => by rw [ddiref38_Expire.j2, if_neg Bool.false_ne_true, if_pos hq1, next i l.length hi (by omega)]) this
    have hj1 : ∀ b : Bool, b = gone t x → Ev (fun k => ddiref38_Expire.j1 k l t q (i : Int) (decide (x.f4 ≤ t)) b x.f0.f0 x.f0.f1 x.f0.f2 x.f1 x.f2 x.f3 x.f4 x.f5 x.f6) (q ++ expT t (x :: r)) := by
      rintro b rfl
      unfold expT
      cases gone t x with
      | true => exact Ev_shift 1 (fun k => by rw [ddiref38_Expire.j1, if_pos rfl, next i l.length hi (by omega)]) ih0
      | false =>
        rw [if_neg Bool.false_ne_true]
        by_cases h4 : x.f4 ≤ t
        · rw [decide_eq_true h4]
          exact Ev_shift 1 (fun k => by rw [ddiref38_Expire.j1, if_neg Bool.false_ne_true, if_pos rfl]) (hj2 _ (by rw [decide_eq_true h4, Bool.true_and]; rfl))
        · rw [decide_eq_false h4]
          exact Ev_shift 1 (fun k => by rw [ddiref38_Expire.j1, if_neg Bool.false_ne_true, if_neg Bool.false_ne_true]) (hj2 _ (by rw [decide_eq_false h4, Bool.false_and]))
    by_cases h4 : x.f4 ≤ t
    · by_cases h1 : x.f2 = 1
      · exact Ev_shift 1 (fun k => by rw [ddiref38_Expire.l0, if_pos (by omega), if_pos (by omega), hx, if_pos h4, if_pos h1]) (hj1 true (by unfold gone; rw [decide_eq_true h4, decide_eq_true h1]; rfl))
      · exact Ev_shift 1 (fun k => by rw [ddiref38_Expire.l0, if_pos (by omega), if_pos (by omega), hx, if_pos h4, if_neg h1]) (hj1 _ (by unfold gone; rw [decide_eq_true h4, decide_eq_false h1, Bool.true_and, Bool.false_or]; rfl))
    · exact Ev_shift 1 (fun k => by rw [ddiref38_Expire.l0, if_pos (by omega), if_pos (by omega), hx, if_neg h4]) (hj1 false (by unfold gone; rw [decide_eq_false h4, Bool.false_and]))
theorem updT_len (l : List S41) (hl : l.length ≤ 512) (a : S29) (c : ByteArray) (z t : Int) (u : S41 → S41) : (updT l a c z t u).1.length ≤ 512 := by
  unfold updT
  split
  · split
    · show (l.set _ _).length ≤ 512
      rw [List.length_set]
      exact hl
    · exact Nat.zero_le _
  · exact Nat.zero_le _
theorem leaseEnds : ddilaw38_LeaseEnds.Pure := by
  intro l a0 a1 a2 c h z t d ⟨hl, _, ok⟩ oka
  refine Ev.rounds (?_ : Ev (fun k => ddilaw38_LeaseEnds.f k l a0 a1 a2 c h z t d) true)
  unfold ddilaw38_LeaseEnds.f
  refine Ev.bind (rcheck_ev l (by omega) ok) ?_
  have hd : d ≤ 9223372036854775807 := by
    have : -9223372036854775808 ≤ d ∧ d ≤ 9223372036854775807 := by simpa [Lit.wf, IntKind.min, IntKind.max, IntKind.signed, IntKind.bits] using oka.2.2.2.2.2
    omega
  by_cases h0 : chkT l = 0
  · obtain ⟨hn, hs⟩ := chkT_zero l h0
    simp only [if_pos h0]
    refine Ev.bind (rel_ev l hn hs ⟨a0, a1, a2⟩ c oka.2.1 z t) (Ev.bind (rrel_ev l hn hs ⟨a0, a1, a2⟩ c oka.2.1 z t) ?_)
    refine Ev.bind (dec_ev l hn hs ⟨a0, a1, a2⟩ c oka.2.1 z t d) (Ev.bind (rdec_ev l hn hs ⟨a0, a1, a2⟩ c oka.2.1 z t d hd) ?_)
    have l1 : (if good3 c z t = true then updT l ⟨a0, a1, a2⟩ c z t (relX t) else (([] : List S41), (1 : Int))).1.length ≤ 512 := by
      split
      · exact updT_len l hn _ c z t _
      · exact Nat.zero_le _
    have l2 : (if good4 c z t d = true then updT l ⟨a0, a1, a2⟩ c z t (decX t d) else (([] : List S41), (1 : Int))).1.length ≤ 512 := by
      split
      · exact updT_len l hn _ c z t _
      · exact Nat.zero_le _
    refine Ev.bind (same_ev _ (by omega)) ?_
    simp only [if_true]
    refine Ev.bind (same_ev _ (by omega)) ?_
    simp only [if_true]
    have he := expT_len t l
    refine Ev.bind (show Ev (fun k => lease_Expire.f k l t) (expT t l) by unfold lease_Expire.f; exact exp_from l hn t l 0 [] rfl (Nat.le_refl _)) ?_
    refine Ev.bind (show Ev (fun k => ddiref38_Expire.f k l t) (expT t l) by unfold ddiref38_Expire.f; exact rexp_from l hn t l 0 [] rfl (Nat.le_refl _)) ?_
    refine Ev.bind (same_ev _ (by omega)) ?_
    simp only [if_true]
    exact Ev.bind awake_ev (Ev_const rfl)
  · simp only [if_neg h0]
    exact Ev.bind awake_ev (Ev_const rfl)
end Go.Proofs.YtonpcojdpfmbkaaDoor.Ma
namespace Go.Proofs.YtonpcojdpfmbkaaDoor.Pure
theorem LeaseEnds : QA.ddilaw38_LeaseEnds.Pure := Ma.leaseEnds
end Go.Proofs.YtonpcojdpfmbkaaDoor.Pure
