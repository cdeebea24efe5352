/- RelayFits holds: what the program's relay functions do is what the document says: the pure statement of RelayFits (no condition but the sizes that every argument has). -/
import Derived.Test.YtngfffoeaghhhaaDoorQAd
import Derived.Test.YtngfffoeaghhhaaDoorXP
import Derived.Test.YtngfffoeaghhhaaDoorXB
import Derived.Laws.Bits64
namespace Go.Proofs.YtngfffoeaghhhaaDoor.Cm
open Go.RowKit Go.Proofs.YtngfffoeaghhhaaDoorW.PrintWords Go.Proofs.YtngfffoeaghhhaaDoorW.PrintLast Go.Proofs.YtngfffoeaghhhaaDoorW.PrintMore Go.Proofs.YtngfffoeaghhhaaDoor.XP Go.Proofs.YtngfffoeaghhhaaDoor.QA
set_option linter.unusedVariables false
set_option linter.unusedSimpArgs false
theorem rdOpt (l : List S59) (i : Nat) (x : S59) (r : List S59) (h : l.drop i = x :: r) : i < l.length ∧ rd_T59 l (i : Int) = x ∧ l.drop (i + 1) = r := by
  obtain ⟨hi, hx, hr⟩ := drop_at h
  exact ⟨hi, by simp [rd_T59, List.getD_eq_getElem?_getD, List.getElem?_eq_getElem hi, hx], hr⟩
def findV (c : Int) : List S59 → ByteArray × Bool
  | [] => ((⟨#[]⟩ : ByteArray), false)
  | x :: r => if x.f0 = c then (x.f1, true) else findV c r
theorem find_from (l : List S59) (hl : l.length ≤ 140737488351232) (c : Int) : ∀ (r : List S59) (i : Nat), l.drop i = r → Ev (fun k => option_Find.l0 k c l (l.length : Int) (i : Int)) (findV c r)
  | [], i, h => by
    have := drop_end h
    refine Ev_shift 1 (f := fun _ => some ((⟨#[]⟩ : ByteArray), false)) (fun k => ?_) (Ev_const rfl)
    rw [option_Find.l0, if_neg (by omega)]
  | x :: r, i, h => by
    obtain ⟨hi, hx, hr⟩ := rdOpt l i x r h
    have ih := find_from l hl c r (i + 1) hr
    by_cases hc : x.f0 = c
    · refine Ev_shift 1 (f := fun _ => some (x.f1, true)) (fun k => ?_) (Ev_const (by rw [findV, if_pos hc]))
      rw [option_Find.l0, if_pos (by omega), if_pos (by omega), if_pos (by omega), hx, if_pos hc]
    · rw [findV, if_neg hc]
      refine Ev_shift 1 (fun k => ?_) ih
      rw [option_Find.l0, if_pos (by omega), if_pos (by omega), if_pos (by omega), hx, if_neg hc, next i l.length hi (by omega)]
theorem find_ev (l : List S59) (hl : l.length ≤ 140737488351232) (c : Int) : Ev (fun k => option_Find.f k l c) (findV c l) := by
  unfold option_Find.f
  exact find_from l hl c l 0 rfl
end Go.Proofs.YtngfffoeaghhhaaDoor.Cm
namespace Go.Proofs.YtngfffoeaghhhaaDoor.Ma
open Go.RowKit Go.Proofs.YtngfffoeaghhhaaDoorW.PrintWords Go.Proofs.YtngfffoeaghhhaaDoorW.PrintLast Go.Proofs.YtngfffoeaghhhaaDoorW.PrintMore Go.Proofs.YtngfffoeaghhhaaDoor.XP Go.Proofs.YtngfffoeaghhhaaDoor.QA Go.Proofs.YtngfffoeaghhhaaDoor.Cm
set_option linter.unusedVariables false
set_option linter.unusedSimpArgs false
def t27 (p : S27) : Int × Int × Int × ByteArray × Bool × Int × Int × Bool × Int × Int × Bool × Int × Int × Bool × List S59 :=
  (p.f0, p.f1, p.f2, p.f3, p.f4.f0, p.f4.f1, p.f4.f2, p.f5.f0, p.f5.f1, p.f5.f2, p.f6.f0, p.f6.f1, p.f6.f2, p.f7, p.f8)
theorem mnl (n m : Nat) : 0 ≤ mn (n : Int) (m : Int) ∧ mn (n : Int) (m : Int) ≤ (n : Int) ∧ (mn (n : Int) (m : Int)).toNat = min n m := mn_len' n m
/-! ### Short -/
def cutO (n : Nat) (x : S59) : S59 := ⟨x.f0, x.f1.extract 0 (min x.f1.size n)⟩
def shortO (l : List S59) : List S59 := (l.take 40).map (cutO 1100)
def shortP (p : S27) : S27 := ⟨p.f0, p.f1, p.f2, p.f3.extract 0 (min p.f3.size 100), p.f4, p.f5, p.f6, p.f7, shortO p.f8⟩
theorem cut_size (n : Nat) (s : ByteArray) : (s.extract 0 (min s.size n)).size ≤ n := by
  rw [size_data, data_ext]
  simp
  omega
theorem short_from (l : List S59) (hl : l.length ≤ 140737488351232) : ∀ (r : List S59) (i : Nat) (q : List S59), l.drop i = r → q.length ≤ 40 → q.length = i → Ev (fun k => ddiref36_options.l0 k l q (i : Int)) (q ++ (r.take (40 - i)).map (cutO 1100))
  | [], i, q, h, _, hq => by
    have := drop_end h
    refine Ev_shift 2 (f := fun _ => some q) (fun k => ?_) (Ev_const (by simp))
    rw [ddiref36_options.l0, if_neg (by omega), ddiref36_options.j1]
    rfl
  | x :: r, i, q, h, h40, hq => by
    obtain ⟨hi, hx, hr⟩ := rdOpt l i x r h
    by_cases hc : i < 40
    · have ih := short_from l hl r (i + 1) (q ++ [cutO 1100 x]) hr (by simp; omega) (by simp; omega)
      have h1 : 0 ≤ mn (x.f1.size : Int) 1100 := (mnl x.f1.size 1100).1
      have h2 : mn (x.f1.size : Int) 1100 ≤ (x.f1.size : Int) := (mnl x.f1.size 1100).2.1
      have h3 : (mn (x.f1.size : Int) 1100).toNat = min x.f1.size 1100 := (mnl x.f1.size 1100).2.2
      have e : (List.take (40 - i) (x :: r)) = x :: r.take (40 - (i + 1)) := by
        rw [show 40 - i = (40 - (i + 1)) + 1 by omega, List.take_succ_cons]
      rw [e, List.map_cons]
      rw [List.append_assoc, List.singleton_append] at ih
      refine Ev_shift 2 (fun k => ?_) ih
      rw [ddiref36_options.l0, if_pos (by omega), decide_eq_true (show (i : Int) < 40 by omega), ddiref36_options.j1, if_pos rfl, if_pos (by omega), if_pos (by omega), hx, if_pos h1, if_pos h2, if_pos (by omega), next i l.length hi (by omega)]
      rw [h3]
      rfl
    · refine Ev_shift 2 (f := fun _ => some q) (fun k => ?_) (Ev_const (by rw [show 40 - i = 0 by omega]; simp))
      rw [ddiref36_options.l0, if_pos (by omega), decide_eq_false (show ¬ (i : Int) < 40 by omega), ddiref36_options.j1]
      rfl
theorem short_ev (p : S27) (hl : p.f8.length ≤ 140737488351232) : Ev (fun k => ddiref36_Short.f k p.f0 p.f1 p.f2 p.f3 p.f4.f0 p.f4.f1 p.f4.f2 p.f5.f0 p.f5.f1 p.f5.f2 p.f6.f0 p.f6.f1 p.f6.f2 p.f7 p.f8) (t27 (shortP p)) := by
  unfold ddiref36_Short.f
  obtain ⟨h1, h2, h3⟩ := mnl p.f3.size 100
  have h1' : 0 ≤ mn (p.f3.size : Int) 100 := h1
  have h2' : mn (p.f3.size : Int) 100 ≤ (p.f3.size : Int) := h2
  have h3' : (mn (p.f3.size : Int) 100).toNat = min p.f3.size 100 := h3
  simp only [if_pos h1', if_pos h2', h3']
  refine Ev.bind (a := shortO p.f8) ?_ (Ev_const rfl)
  unfold ddiref36_options.f
  exact short_from p.f8 hl p.f8 0 [] rfl (by simp) rfl
theorem shortO_ok (l : List S59) : (shortO l).length ≤ 40 ∧ ∀ x ∈ shortO l, x.f1.size ≤ 1100 := by
  refine ⟨by rw [shortO, List.length_map, List.length_take]; omega, fun x hx => ?_⟩
  obtain ⟨y, _, rfl⟩ := List.mem_map.1 hx
  exact cut_size 1100 y.f1
/-! ### Same -/
/-! ### Strip -/
/-! ### Circuit -/
def noC : ByteArray × Bool := ((⟨#[]⟩ : ByteArray), false)
def circB (v : ByteArray × Bool) : Bool := v.2 && (decide (2 ≤ v.1.size) && (decide (bt v.1 0 = 1) && (wrap64 (bt v.1 1) == wrap64 ((v.1.size : Int) - 2))))
def circV (v : ByteArray × Bool) : ByteArray × Bool := if circB v = true then (v.1.extract 2 v.1.size, true) else noC
theorem circ_j (s : ByteArray) (x : Bool) (b : Bool) (hb : b = !circB (s, x)) : Ev (fun k => relay_Circuit.j0 k s b) (circV (s, x)) := by
  unfold circV
  cases hc : circB (s, x) with
  | false =>
    rw [hc] at hb
    subst hb
    refine Ev_shift 1 (f := fun _ => some noC) (fun k => ?_) (Ev_const rfl)
    rw [relay_Circuit.j0]
    rfl
  | true =>
    rw [hc] at hb
    subst hb
    have h2 : 2 ≤ s.size := by
      unfold circB at hc
      simp only [Bool.and_eq_true, decide_eq_true_eq] at hc
      exact hc.2.1
    refine Ev_shift 1 (f := fun _ => some (s.extract 2 s.size, true)) (fun k => ?_) (Ev_const rfl)
    rw [relay_Circuit.j0, if_neg (by decide), if_pos (by omega)]
theorem circ_of (v : ByteArray × Bool) : Ev (fun k => if v.2 = true then (if (v.1.size : Int) < 2 then relay_Circuit.j0 k v.1 true else (if 0 < (v.1.size : Int) then (if bt v.1 0 = 1 then (if 1 < (v.1.size : Int) then relay_Circuit.j0 k v.1 (wrap64 (bt v.1 1) != wrap64 ((v.1.size : Int) - 2)) else none) else relay_Circuit.j0 k v.1 true) else none)) else relay_Circuit.j0 k v.1 true) (circV v) := by
  obtain ⟨s, x⟩ := v
  cases x with
  | false =>
    simp only [Bool.false_eq_true, if_false]
    exact circ_j s false true rfl
  | true =>
    simp only [if_true]
    by_cases h2 : (s.size : Int) < 2
    · simp only [if_pos h2]
      exact circ_j s true true (by simp [circB]; omega)
    · simp only [if_neg h2, if_pos (show 0 < (s.size : Int) by omega), if_pos (show 1 < (s.size : Int) by omega)]
      by_cases h1 : bt s 0 = 1
      · simp only [if_pos h1]
        refine circ_j s true _ ?_
        unfold circB
        rw [decide_eq_true (show 2 ≤ s.size by omega), decide_eq_true h1]
        rfl
      · simp only [if_neg h1]
        exact circ_j s true true (by simp [circB, h1])
theorem circ_ev (p : S27) (hl : p.f8.length ≤ 140737488351232) : Ev (fun k => relay_Circuit.f k p.f0 p.f1 p.f2 p.f3 p.f4.f0 p.f4.f1 p.f4.f2 p.f5.f0 p.f5.f1 p.f5.f2 p.f6.f0 p.f6.f1 p.f6.f2 p.f7 p.f8) (circV (findV 82 p.f8)) := by
  unfold relay_Circuit.f
  exact Ev.bind (find_ev p.f8 hl 82) (circ_of _)
/-! ### Insert -/
theorem wake_ev : Ev (fun k => ddilaw39_awake.f k) true := ⟨60, fun k hk => at_rounds ddilaw39_awake.mono hk (by decide +kernel)⟩
end Go.Proofs.YtngfffoeaghhhaaDoor.Ma
namespace Go.Proofs.YtngfffoeaghhhaaDoor.Cm
open Go.RowKit Go.Proofs.YtngfffoeaghhhaaDoorW.PrintWords Go.Proofs.YtngfffoeaghhhaaDoorW.PrintLast Go.Proofs.YtngfffoeaghhhaaDoorW.PrintMore Go.Proofs.YtngfffoeaghhhaaDoor.XP Go.Proofs.YtngfffoeaghhhaaDoor.QA
set_option linter.unusedVariables false
set_option linter.unusedSimpArgs false
end Go.Proofs.YtngfffoeaghhhaaDoor.Cm
namespace Go.Proofs.YtngfffoeaghhhaaDoor.Cm
open Go.RowKit Go.Proofs.YtngfffoeaghhhaaDoorW.PrintWords Go.Proofs.YtngfffoeaghhhaaDoorW.PrintLast Go.Proofs.YtngfffoeaghhhaaDoorW.PrintMore Go.Proofs.YtngfffoeaghhhaaDoor.XP Go.Proofs.YtngfffoeaghhhaaDoor.QA
set_option linter.unusedVariables false
set_option linter.unusedSimpArgs false
end Go.Proofs.YtngfffoeaghhhaaDoor.Cm
namespace Go.Proofs.YtngfffoeaghhhaaDoor.Cm
open Go.RowKit Go.Proofs.YtngfffoeaghhhaaDoorW.PrintWords Go.Proofs.YtngfffoeaghhhaaDoorW.PrintLast Go.Proofs.YtngfffoeaghhhaaDoorW.PrintMore Go.Proofs.YtngfffoeaghhhaaDoor.XP Go.Proofs.YtngfffoeaghhhaaDoor.QA
set_option linter.unusedVariables false
set_option linter.unusedSimpArgs false
end Go.Proofs.YtngfffoeaghhhaaDoor.Cm
namespace Go.Proofs.YtngfffoeaghhhaaDoor.Cm
open Go.RowKit Go.Proofs.YtngfffoeaghhhaaDoorW.PrintWords Go.Proofs.YtngfffoeaghhhaaDoorW.PrintLast Go.Proofs.YtngfffoeaghhhaaDoorW.PrintMore Go.Proofs.YtngfffoeaghhhaaDoor.XP Go.Proofs.YtngfffoeaghhhaaDoor.QA
set_option linter.unusedVariables false
set_option linter.unusedSimpArgs false
/-! ### the reference's -/
end Go.Proofs.YtngfffoeaghhhaaDoor.Cm
namespace Go.Proofs.YtngfffoeaghhhaaDoor.Cm
open Go.RowKit Go.Proofs.YtngfffoeaghhhaaDoorW.PrintWords Go.Proofs.YtngfffoeaghhhaaDoorW.PrintLast Go.Proofs.YtngfffoeaghhhaaDoorW.PrintMore Go.Proofs.YtngfffoeaghhhaaDoor.XP Go.Proofs.YtngfffoeaghhhaaDoor.QA
set_option linter.unusedVariables false
set_option linter.unusedSimpArgs false
/-! ### bits -/
/-! ### masks -/
def mHi (m : Nat) : Int := ((2 ^ (m - 64) - 1 : Nat) : Int)
def mLo (m : Nat) : Int := ((2 ^ (min m 64) - 1 : Nat) : Int)
def lenV (b : Bool) : Int := if b = true then 128 else 32
theorem later6 : ∀ n : Fin 129, prefix_later.f true ((n.val : Nat) : Int) = some (mHi (128 - n.val), mLo (128 - n.val)) := by decide +kernel
theorem later4 : ∀ n : Fin 33, prefix_later.f false ((n.val : Nat) : Int) = some (mHi (32 - n.val), mLo (32 - n.val)) := by decide +kernel
theorem later_v (b : Bool) (n : Int) (h0 : 0 ≤ n) (h1 : n ≤ lenV b) : prefix_later.f b n = some (mHi (lenV b - n).toNat, mLo (lenV b - n).toNat) := by
  obtain ⟨j, rfl⟩ := Int.eq_ofNat_of_zero_le h0
  cases b with
  | true =>
    have h2 : lenV true = 128 := rfl
    rw [h2] at h1 ⊢
    have h := later6 ⟨j, by omega⟩
    simp only at h
    rw [h, show ((128 : Int) - (j : Int)).toNat = 128 - j by omega]
  | false =>
    have h2 : lenV false = 32 := rfl
    rw [h2] at h1 ⊢
    have h := later4 ⟨j, by omega⟩
    simp only at h
    rw [h, show ((32 : Int) - (j : Int)).toNat = 32 - j by omega]
theorem length_v (a : S24) : prefix_length.f a.f0 a.f1 a.f2 = some (lenV a.f0) := by
  unfold prefix_length.f
  cases a.f0 <;> rfl
/-! ### addresses -/
def adB (x : S24) : Bool := x.f0 || (decide (x.f1 = 0) && decide (x.f2 ≤ 4294967295))
theorem ad_v (x : S24) : addr_Valid.f x.f0 x.f1 x.f2 = some (adB x) := by
  unfold addr_Valid.f adB
  cases h : x.f0 with
  | true => rfl
  | false =>
    simp only [Bool.false_eq_true, if_false, Bool.false_or]
    by_cases h1 : x.f1 = 0
    · simp [h1]
    · simp [h1]
/-! ### Valid -/
def mkH (a : S24) (n : Int) : Int := mHi (lenV a.f0 - n).toNat
def mkL (a : S24) (n : Int) : Int := mLo (lenV a.f0 - n).toNat
def inB (a : S24) (n : Int) : Bool := adB a && (decide (0 ≤ n) && decide (n ≤ lenV a.f0))
def pvB (p : S45) : Bool := inB p.f0 p.f1 && (decide (Go.bits .and .u64 p.f0.f1 (mkH p.f0 p.f1) = 0) && (Go.bits .and .u64 p.f0.f2 (mkL p.f0 p.f1) == 0))
theorem inB_iff (a : S24) (n : Int) : inB a n = true ↔ adB a = true ∧ 0 ≤ n ∧ n ≤ lenV a.f0 := by
  simp [inB]
theorem pv_j (p : S45) (b : Bool) (hb : b = !inB p.f0 p.f1) : Ev (fun k => prefix_Valid.j0 k b p.f0.f0 p.f0.f1 p.f0.f2 p.f1) (pvB p) := by
  unfold pvB
  cases hi : inB p.f0 p.f1 with
  | false =>
    rw [hi] at hb
    subst hb
    refine Ev_shift 1 (f := fun _ => some false) (fun k => ?_) (Ev_const rfl)
    rw [prefix_Valid.j0]
    rfl
  | true =>
    rw [hi] at hb
    subst hb
    obtain ⟨_, h0, h1⟩ := (inB_iff _ _).1 hi
    refine Ev_shift 1 (f := fun _ => some (decide (Go.bits .and .u64 p.f0.f1 (mkH p.f0 p.f1) = 0) && (Go.bits .and .u64 p.f0.f2 (mkL p.f0 p.f1) == 0))) (fun k => ?_) (Ev_const rfl)
    rw [prefix_Valid.j0, if_neg (by decide), later_v p.f0.f0 p.f1 h0 h1]
    simp only [Option.bind_some]
    show (if Go.bits .and .u64 p.f0.f1 (mkH p.f0 p.f1) = 0 then _ else _) = _
    by_cases h : Go.bits .and .u64 p.f0.f1 (mkH p.f0 p.f1) = 0
    · rw [if_pos h, decide_eq_true h]; rfl
    · rw [if_neg h, decide_eq_false h]; rfl
theorem valid_pfx (p : S45) : Ev (fun k => prefix_Valid.f k p.f0.f0 p.f0.f1 p.f0.f2 p.f1) (pvB p) := by
  unfold prefix_Valid.f
  simp only [ad_v, Option.bind_some, length_v]
  cases ha : adB p.f0 with
  | false =>
    simp only [Bool.false_eq_true, if_false]
    exact pv_j p true (by simp [inB, ha])
  | true =>
    simp only [if_true]
    by_cases h0 : p.f1 < 0
    · simp only [if_pos h0]
      exact pv_j p true (by simp [inB, ha]; omega)
    · simp only [if_neg h0]
      refine pv_j p _ ?_
      by_cases h1 : p.f1 ≤ lenV p.f0.f0
      · rw [decide_eq_false (by omega)]; simp [inB, ha, h1]; omega
      · rw [decide_eq_true (by omega)]; simp [inB, ha, h1]
/-! ### Of -/
def zPfx : S45 := ⟨⟨false, 0, 0⟩, 0⟩
def ofV (a : S24) (n : Int) : S45 := if inB a n = true then ⟨⟨a.f0, Go.bits .andNot .u64 a.f1 (mkH a n), Go.bits .andNot .u64 a.f2 (mkL a n)⟩, n⟩ else zPfx
def tPfx (p : S45) (b : Bool) : Bool × Int × Int × Int × Bool := (p.f0.f0, p.f0.f1, p.f0.f2, p.f1, b)
theorem of_j (a : S24) (n : Int) (b : Bool) (hb : b = !inB a n) : Ev (fun k => prefix_Of.j0 k n b a.f0 a.f1 a.f2) (tPfx (ofV a n) (inB a n)) := by
  unfold ofV
  cases hi : inB a n with
  | false =>
    rw [hi] at hb
    subst hb
    refine Ev_shift 1 (f := fun _ => some (tPfx zPfx false)) (fun k => ?_) (Ev_const rfl)
    rw [prefix_Of.j0]
    rfl
  | true =>
    rw [hi] at hb
    subst hb
    obtain ⟨_, h0, h1⟩ := (inB_iff _ _).1 hi
    refine Ev_shift 1 (f := fun _ => some (tPfx ⟨⟨a.f0, Go.bits .andNot .u64 a.f1 (mkH a n), Go.bits .andNot .u64 a.f2 (mkL a n)⟩, n⟩ true)) (fun k => ?_) (Ev_const rfl)
    rw [prefix_Of.j0, if_neg (by decide), later_v a.f0 n h0 h1]
    rfl
theorem of_pfx (a : S24) (n : Int) : Ev (fun k => prefix_Of.f k a.f0 a.f1 a.f2 n) (tPfx (ofV a n) (inB a n)) := by
  unfold prefix_Of.f
  simp only [ad_v, Option.bind_some, length_v]
  cases ha : adB a with
  | false =>
    simp only [Bool.false_eq_true, if_false]
    exact of_j a n true (by simp [inB, ha])
  | true =>
    simp only [if_true]
    by_cases h0 : n < 0
    · simp only [if_pos h0]
      exact of_j a n true (by simp [inB, ha]; omega)
    · simp only [if_neg h0]
      refine of_j a n _ ?_
      by_cases h1 : n ≤ lenV a.f0
      · rw [decide_eq_false (by omega)]; simp [inB, ha, h1]; omega
      · rw [decide_eq_true (by omega)]; simp [inB, ha, h1]
def uA (a : S24) : Prop := (0 ≤ a.f1 ∧ a.f1 < 18446744073709551616) ∧ (0 ≤ a.f2 ∧ a.f2 < 18446744073709551616)
theorem uA_of {a : S24} (h : okS24 a) : uA a := by
  obtain ⟨_, h1, h2⟩ := h
  have g1 := wf_u64 h1
  have g2 := wf_u64 h2
  exact ⟨⟨g1.1, by omega⟩, ⟨g2.1, by omega⟩⟩
/-! ### Contains, Within, Overlap -/
def eqPfx (x p : S45) : Bool := (x.f0.f0 == p.f0.f0 && (x.f0.f1 == p.f0.f1 && (x.f0.f2 == p.f0.f2))) && (x.f1 == p.f1)
def pcB (p : S45) (a : S24) : Bool := pvB p && ((p.f0.f0 == a.f0) && (inB a p.f1 && eqPfx (ofV a p.f1) p))
theorem con_j (p : S45) (a : S24) (b : Bool) (hb : b = !(pvB p && (p.f0.f0 == a.f0))) : Ev (fun k => prefix_Contains.j0 k b p.f0.f0 p.f0.f1 p.f0.f2 p.f1 a.f0 a.f1 a.f2) (pcB p a) := by
  unfold pcB
  rw [← Bool.and_assoc]
  cases hi : (pvB p && (p.f0.f0 == a.f0)) with
  | false =>
    rw [hi] at hb
    subst hb
    refine Ev_shift 1 (f := fun _ => some false) (fun k => ?_) (Ev_const rfl)
    rw [prefix_Contains.j0]
    rfl
  | true =>
    rw [hi] at hb
    subst hb
    refine Ev_shift 1 (fun k => by rw [prefix_Contains.j0, if_neg (by decide)]) ?_
    refine Ev.bind (of_pfx a p.f1) ?_
    show Ev (fun n => if inB a p.f1 = true then some (eqPfx (ofV a p.f1) p) else some false) _
    cases inB a p.f1 with
    | true => exact Ev_const rfl
    | false => exact Ev_const rfl
theorem contains_pfx (p : S45) (a : S24) : Ev (fun k => prefix_Contains.f k p.f0.f0 p.f0.f1 p.f0.f2 p.f1 a.f0 a.f1 a.f2) (pcB p a) := by
  unfold prefix_Contains.f
  refine Ev.bind (valid_pfx p) ?_
  cases hv : pvB p with
  | true =>
    simp only [if_true]
    exact con_j p a _ (by rw [hv]; rfl)
  | false =>
    simp only [Bool.false_eq_true, if_false]
    exact con_j p a _ (by rw [hv]; rfl)
/-! ### Bounds -/
end Go.Proofs.YtngfffoeaghhhaaDoor.Cm
namespace Go.Proofs.YtngfffoeaghhhaaDoor.Cm
open Go.RowKit Go.Proofs.YtngfffoeaghhhaaDoorW.PrintWords Go.Proofs.YtngfffoeaghhhaaDoorW.PrintLast Go.Proofs.YtngfffoeaghhhaaDoorW.PrintMore Go.Proofs.YtngfffoeaghhhaaDoor.XP Go.Proofs.YtngfffoeaghhhaaDoor.QA
set_option linter.unusedVariables false
set_option linter.unusedSimpArgs false
/-! ### what can be leased -/
/-! ### pools -/
def uR (y : S75) : Prop := uA y.f0 ∧ uA y.f1
/-! ### clients -/
/-! ### reservations -/
def okRes (y : S81) : Prop := y.f0.size ≤ 140737488351232 ∧ uA y.f1 ∧ y.f2.size ≤ 140737488351232
/-! ### Check -/
structure okSub (s : S49) : Prop where
  p : uA s.f0.f0
  l2 : s.f2.length ≤ 140737488351232
  o2 : ∀ y ∈ s.f2, uR y
  l3 : s.f3.length ≤ 140737488351232
  o3 : ∀ y ∈ s.f3, okRes y
  l4 : s.f4.length ≤ 140737488351232
  o4 : ∀ y ∈ s.f4, y.f1.size ≤ 140737488351232
end Go.Proofs.YtngfffoeaghhhaaDoor.Cm
namespace Go.Proofs.YtngfffoeaghhhaaDoor.Ma
open Go.RowKit Go.Proofs.YtngfffoeaghhhaaDoorW.PrintWords Go.Proofs.YtngfffoeaghhhaaDoorW.PrintLast Go.Proofs.YtngfffoeaghhhaaDoorW.PrintMore Go.Proofs.YtngfffoeaghhhaaDoor.XP Go.Proofs.YtngfffoeaghhhaaDoor.QA Go.Proofs.YtngfffoeaghhhaaDoor.Cm
set_option linter.unusedVariables false
set_option linter.unusedSimpArgs false
theorem rdSub (l : List S49) (i : Nat) (x : S49) (r : List S49) (h : l.drop i = x :: r) : i < l.length ∧ rd_T49 l (i : Int) = x ∧ l.drop (i + 1) = r := by
  obtain ⟨hi, hx, hr⟩ := drop_at h
  exact ⟨hi, by simp [rd_T49, List.getD_eq_getElem?_getD, List.getElem?_eq_getElem hi, hx], hr⟩
/-! ### few -/
def fewS (s : S49) : S49 := ⟨s.f0, s.f1.extract 0 (min s.f1.size 300), s.f2.take (min s.f2.length 20), s.f3.take (min s.f3.length 20), shortO s.f4, s.f5⟩
def fewL (l : List S49) : List S49 := (l.take 20).map fewS
theorem few_from (l : List S49) (hl : l.length ≤ 140737488351232) (ok : ∀ s ∈ l, s.f4.length ≤ 140737488351232) : ∀ (r : List S49) (i : Nat) (q : List S49), l.drop i = r → q.length ≤ 20 → q.length = i → Ev (fun k => ddilaw39_few.l0 k l q (i : Int)) (q ++ (r.take (20 - i)).map fewS)
  | [], i, q, h, _, hq => by
    have := drop_end h
    refine Ev_shift 2 (f := fun _ => some q) (fun k => ?_) (Ev_const (by simp))
    rw [ddilaw39_few.l0, if_neg (by omega), ddilaw39_few.j1]
    rfl
  | x :: r, i, q, h, h20, hq => by
    obtain ⟨hi, hx, hr⟩ := rdSub l i x r h
    by_cases hc : i < 20
    · have ih := few_from l hl ok r (i + 1) (q ++ [fewS x]) hr (by simp; omega) (by simp; omega)
      have hxm : x ∈ l := by
        obtain ⟨h1, h2, _⟩ := drop_at h
        exact h2 ▸ List.getElem_mem h1
      have a1 : 0 ≤ mn (x.f1.size : Int) 300 := (mnl x.f1.size 300).1
      have a2 : mn (x.f1.size : Int) 300 ≤ (x.f1.size : Int) := (mnl x.f1.size 300).2.1
      have a3 : (mn (x.f1.size : Int) 300).toNat = min x.f1.size 300 := (mnl x.f1.size 300).2.2
      have b1 : 0 ≤ mn (x.f2.length : Int) 20 := (mnl x.f2.length 20).1
      have b2 : mn (x.f2.length : Int) 20 ≤ (x.f2.length : Int) := (mnl x.f2.length 20).2.1
      have b3 : (mn (x.f2.length : Int) 20).toNat = min x.f2.length 20 := (mnl x.f2.length 20).2.2
      have c1 : 0 ≤ mn (x.f3.length : Int) 20 := (mnl x.f3.length 20).1
      have c2 : mn (x.f3.length : Int) 20 ≤ (x.f3.length : Int) := (mnl x.f3.length 20).2.1
      have c3 : (mn (x.f3.length : Int) 20).toNat = min x.f3.length 20 := (mnl x.f3.length 20).2.2
      have e : (List.take (20 - i) (x :: r)) = x :: r.take (20 - (i + 1)) := by
        rw [show 20 - i = (20 - (i + 1)) + 1 by omega, List.take_succ_cons]
      rw [e, List.map_cons]
      rw [List.append_assoc, List.singleton_append] at ih
      refine Ev_shift 2 (fun k => by rw [ddilaw39_few.l0, if_pos (by omega), decide_eq_true (show (i : Int) < 20 by omega), ddilaw39_few.j1, if_pos rfl, if_pos (by omega), if_pos (by omega), hx, if_pos a1, if_pos a2, if_pos b1, if_pos b2, if_pos c1, if_pos c2, a3, b3, c3, next i l.length hi (by omega)]) ?_
      refine Ev.bind (short_ev ⟨0, 0, 0, (⟨#[]⟩ : ByteArray), ⟨false, 0, 0⟩, ⟨false, 0, 0⟩, ⟨false, 0, 0⟩, false, x.f4⟩ (ok x hxm)) ?_
      simp only [if_pos (show q.length < 1099511627776 by omega)]
      exact ih
    · refine Ev_shift 2 (f := fun _ => some q) (fun k => ?_) (Ev_const (by rw [show 20 - i = 0 by omega]; simp))
      rw [ddilaw39_few.l0, if_pos (by omega), decide_eq_false (show ¬ (i : Int) < 20 by omega), ddilaw39_few.j1]
      rfl
theorem few_ev (l : List S49) (hl : l.length ≤ 140737488351232) (ok : ∀ s ∈ l, s.f4.length ≤ 140737488351232) : Ev (fun k => ddilaw39_few.f k l) (fewL l) := by
  unfold ddilaw39_few.f
  exact few_from l hl ok l 0 [] rfl (by simp) rfl
theorem few_sub {l : List S49} (ok : ∀ s ∈ l, okS49 s) : (fewL l).length ≤ 20 ∧ ∀ s ∈ fewL l, okSub s := by
  refine ⟨by rw [fewL, List.length_map, List.length_take]; omega, fun s hs => ?_⟩
  obtain ⟨x, hx, rfl⟩ := List.mem_map.1 hs
  obtain ⟨h0, h1, h2, h3, h4, h5⟩ := ok x (List.mem_of_mem_take hx)
  obtain ⟨s1, s2⟩ := shortO_ok x.f4
  refine ⟨uA_of h0.1, ?_, fun y hy => ?_, ?_, fun y hy => ?_, ?_, fun y hy => ?_⟩
  · show (x.f2.take _).length ≤ _
    rw [List.length_take]
    omega
  · obtain ⟨g1, g2⟩ := h2.2.2 y (List.mem_of_mem_take hy)
    exact ⟨uA_of g1, uA_of g2⟩
  · show (x.f3.take _).length ≤ _
    rw [List.length_take]
    omega
  · obtain ⟨g1, g2, g3⟩ := h3.2.2 y (List.mem_of_mem_take hy)
    exact ⟨g1, uA_of g2, g3⟩
  · show (shortO x.f4).length ≤ _
    omega
  · have := s2 y hy
    omega
/-! ### Select -/
def selV (c : ByteArray × Bool) (a : S24) : List S49 → Nat → Int → Int × Bool
  | [], _, b => if b < 0 then (0, false) else (b, true)
  | s :: r, i, b => if pcB s.f0 a = true then (if s.f1.toList = ([] : List UInt8) then selV c a r (i + 1) (if b < 0 then (i : Int) else b) else (if (c.2 && (s.f1.toList == c.1.toList)) = true then ((i : Int), true) else selV c a r (i + 1) b)) else selV c a r (i + 1) b
theorem sel_from (l : List S49) (hl : l.length ≤ 140737488351232) (c : ByteArray × Bool) (a : S24) : ∀ (r : List S49) (i : Nat) (b : Int), l.drop i = r → Ev (fun k => relay_Select.l0 k c.1 c.2 b l (l.length : Int) (i : Int) a.f0 a.f1 a.f2) (selV c a r i b)
  | [], i, b, h => by
    have := drop_end h
    refine Ev_shift 1 (f := fun _ => some (if b < 0 then (0, false) else (b, true))) (fun k => ?_) (Ev_const rfl)
    rw [relay_Select.l0, if_neg (by omega)]
    split <;> rfl
  | s :: r, i, b, h => by
    obtain ⟨hi, hx, hr⟩ := rdSub l i s r h
    have ih := fun b => sel_from l hl c a r (i + 1) b hr
    have h3 : ∀ b : Int, ∀ u : Bool, Ev (fun k => relay_Select.j3 k c.1 c.2 b (i : Int) l (l.length : Int) (i : Int) u a.f0 a.f1 a.f2) (selV c a r (i + 1) (if u = true then (i : Int) else b)) := by
      intro b u
      refine Ev_shift 1 (fun k => ?_) (ih _)
      rw [relay_Select.j3, next i l.length hi (by omega)]
      cases u <;> rfl
    have h2 : ∀ u : Bool, Ev (fun k => relay_Select.j2 k c.1 c.2 b (i : Int) l (l.length : Int) (i : Int) u a.f0 a.f1 a.f2 s.f0.f0.f0 s.f0.f0.f1 s.f0.f0.f2 s.f0.f1 s.f1 s.f2 s.f3 s.f4 s.f5) (if u = true then ((i : Int), true) else (if s.f1.toList = ([] : List UInt8) then selV c a r (i + 1) (if b < 0 then (i : Int) else b) else selV c a r (i + 1) b)) := by
      intro u
      cases u with
      | true => exact Ev_shift 1 (f := fun _ => some ((i : Int), true)) (fun k => by rw [relay_Select.j2, if_pos rfl]) (Ev_const rfl)
      | false =>
        simp only [Bool.false_eq_true, if_false]
        refine Ev_shift 1 (fun k => by rw [relay_Select.j2, if_neg (by decide)]) ?_
        by_cases he : s.f1.toList = ([] : List UInt8)
        · simp only [if_pos he]
          have := h3 b (decide (b < 0))
          simp only [decide_eq_true_eq] at this
          exact this
        · simp only [if_neg he]
          exact h3 b false
    rw [selV]
    refine Ev_shift 1 (fun k => by rw [relay_Select.l0, if_pos (by omega), if_pos (by omega), if_pos (by omega), hx, next i l.length hi (by omega)]) ?_
    refine Ev.bind (contains_pfx s.f0 a) ?_
    cases pcB s.f0 a with
    | false => exact ih b
    | true =>
      simp only [if_true]
      by_cases he : s.f1.toList = ([] : List UInt8)
      · simp only [if_pos he]
        have := h2 false
        simp only [Bool.false_eq_true, if_false, if_pos he] at this
        exact this
      · simp only [if_neg he]
        have h2' := h2
        simp only [if_neg he] at h2'
        cases hc : c.2 with
        | true =>
          simp only [if_true, Bool.true_and]
          have := h2' (s.f1.toList == c.1.toList)
          rw [hc] at this
          exact this
        | false =>
          simp only [Bool.false_eq_true, if_false, Bool.false_and]
          have := h2' false
          rw [hc] at this
          exact this
def askA (p : S27) (own : S24) : S24 := if p.f7 = true then p.f6 else own
def selP (l : List S49) (p : S27) (own : S24) : Int × Bool := selV (circV (findV 82 p.f8)) (askA p own) l 0 (-1)
theorem select_ev (l : List S49) (hl : l.length ≤ 140737488351232) (p : S27) (hp : p.f8.length ≤ 140737488351232) (own : S24) : Ev (fun k => relay_Select.f k l p.f0 p.f1 p.f2 p.f3 p.f4.f0 p.f4.f1 p.f4.f2 p.f5.f0 p.f5.f1 p.f5.f2 p.f6.f0 p.f6.f1 p.f6.f2 p.f7 p.f8 own.f0 own.f1 own.f2) (selP l p own) := by
  have h0 : ∀ a : S24, Ev (fun k => relay_Select.j0 k l p.f0 p.f1 p.f2 p.f3 p.f4.f0 p.f4.f1 p.f4.f2 p.f5.f0 p.f5.f1 p.f5.f2 p.f6.f0 p.f6.f1 p.f6.f2 p.f7 p.f8 a.f0 a.f1 a.f2) (selV (circV (findV 82 p.f8)) a l 0 (-1)) := by
    intro a
    refine Ev_shift 1 (fun k => by rw [relay_Select.j0]) ?_
    exact Ev.bind (circ_ev p hp) (sel_from l hl _ a l 0 (-1) rfl)
  unfold relay_Select.f selP askA
  cases h7 : p.f7 with
  | true =>
    simp only [if_true]
    have := h0 p.f6
    rw [h7] at this
    exact this
  | false =>
    simp only [Bool.false_eq_true, if_false]
    have := h0 own
    rw [h7] at this
    exact this
/-! ### Check -/
theorem subs_short {l : List S49} (ok : l.length * 128 ≤ 140737488351232 ∧ l.length ≤ maxLen ∧ ∀ s ∈ l, okS49 s) : l.length ≤ 140737488351232 ∧ ∀ s ∈ l, s.f4.length ≤ 140737488351232 := by
  refine ⟨by have := ok.1; omega, fun s hs => ?_⟩
  obtain ⟨_, _, _, _, h4, _⟩ := ok.2.2 s hs
  have := h4.1
  omega
end Go.Proofs.YtngfffoeaghhhaaDoor.Ma
namespace Go.Proofs.YtngfffoeaghhhaaDoor.Ma
open Go.RowKit Go.Proofs.YtngfffoeaghhhaaDoorW.PrintWords Go.Proofs.YtngfffoeaghhhaaDoorW.PrintLast Go.Proofs.YtngfffoeaghhhaaDoorW.PrintMore Go.Proofs.YtngfffoeaghhhaaDoor.XP Go.Proofs.YtngfffoeaghhhaaDoor.QA Go.Proofs.YtngfffoeaghhhaaDoor.Cm
set_option linter.unusedVariables false
set_option linter.unusedSimpArgs false
def fit (c : ByteArray × Bool) (a : S24) (s : S49) : Bool := pcB s.f0 a && (decide (s.f1.toList = ([] : List UInt8)) || (c.2 && (s.f1.toList == c.1.toList)))
structure Inv (c : ByteArray × Bool) (a : S24) (l : List S49) (i : Nat) (b : Int) : Prop where
  best : (b = -1 ∧ ∀ k, (hk : k < l.length) → k < i → fit c a l[k] = false) ∨ (∃ n : Nat, ∃ hn : n < l.length, b = (n : Int) ∧ fit c a l[n] = true ∧ l[n].f1.toList = [] ∧ ∀ k, (hk : k < l.length) → k < n → fit c a l[k] = false)
  plain : ∀ k, (hk : k < l.length) → k < i → fit c a l[k] = true → l[k].f1.toList = []
structure Spec (c : ByteArray × Bool) (a : S24) (l : List S49) (v : Int × Bool) : Prop where
  no : v.2 = false → ∀ k, (hk : k < l.length) → fit c a l[k] = false
  yes : v.2 = true → ∃ n : Nat, ∃ hn : n < l.length, v.1 = (n : Int) ∧ fit c a l[n] = true ∧ (∀ k, (hk : k < l.length) → k < n → fit c a l[k] = true → l[k].f1.toList = [] ∧ l[n].f1.toList ≠ []) ∧ (∀ k, (hk : k < l.length) → n < k → fit c a l[k] = true → l[k].f1.toList ≠ [] → l[n].f1.toList ≠ [])
theorem inv_no {c : ByteArray × Bool} {a : S24} {l : List S49} {i : Nat} {b : Int} (hi : i < l.length) (h : Inv c a l i b) (hf : fit c a l[i] = false) : Inv c a l (i + 1) b := by
  refine ⟨?_, fun k hk hki hfk => ?_⟩
  · rcases h.best with ⟨hb, h1⟩ | h1
    · refine .inl ⟨hb, fun k hk hki => ?_⟩
      by_cases e : k = i
      · subst e; exact hf
      · exact h1 k hk (by omega)
    · exact .inr h1
  · by_cases e : k = i
    · subst e; rw [hf] at hfk; cases hfk
    · exact h.plain k hk (by omega) hfk
theorem sel_spec (c : ByteArray × Bool) (a : S24) (l : List S49) : ∀ (r : List S49) (i : Nat) (b : Int), l.drop i = r → Inv c a l i b → Spec c a l (selV c a r i b)
  | [], i, b, h, iv => by
    have hl := drop_end h
    rw [selV]
    rcases iv.best with ⟨hb, h1⟩ | ⟨n, hn, hb, h1, h2, h3⟩
    · rw [if_pos (by omega)]
      exact ⟨fun _ k hk => h1 k hk (by omega), fun h => by cases h⟩
    · rw [if_neg (by omega)]
      refine ⟨fun h => (by cases h), fun _ => ⟨n, hn, hb, h1, fun k hk hkn hf => ?_, fun k hk hkn hf hne => ?_⟩⟩
      · rw [h3 k hk hkn] at hf; cases hf
      · exact absurd (iv.plain k hk (by omega) hf) hne
  | s :: r, i, b, h, iv => by
    obtain ⟨hi, hx, hr⟩ := drop_at h
    rw [selV]
    cases hp : pcB s.f0 a with
    | false =>
      simp only [Bool.false_eq_true, if_false]
      exact sel_spec c a l r (i + 1) b hr (inv_no hi iv (by rw [hx, fit, hp]; rfl))
    | true =>
      simp only [if_true]
      by_cases he : s.f1.toList = ([] : List UInt8)
      · simp only [if_pos he]
        have hf : fit c a l[i] = true := by rw [hx, fit, hp, decide_eq_true he]; rfl
        refine sel_spec c a l r (i + 1) _ hr ⟨?_, fun k hk hki hfk => ?_⟩
        · rcases iv.best with ⟨hb, h1⟩ | ⟨n, hn, hb, h1, h2, h3⟩
          · rw [if_pos (by omega)]
            exact .inr ⟨i, hi, rfl, hf, by rw [hx]; exact he, fun k hk hki => h1 k hk hki⟩
          · rw [if_neg (by omega)]
            exact .inr ⟨n, hn, hb, h1, h2, h3⟩
        · by_cases e : k = i
          · subst e; rw [hx]; exact he
          · exact iv.plain k hk (by omega) hfk
      · simp only [if_neg he]
        cases hc : (c.2 && (s.f1.toList == c.1.toList)) with
        | true =>
          simp only [if_true]
          refine ⟨fun h => (by cases h), fun _ => ⟨i, hi, rfl, by rw [hx, fit, hp, hc]; simp, fun k hk hki hf => ⟨iv.plain k hk hki hf, by rw [hx]; exact he⟩, fun k hk hki hf _ => by rw [hx]; exact he⟩⟩
        | false =>
          simp only [Bool.false_eq_true, if_false]
          exact sel_spec c a l r (i + 1) b hr (inv_no hi iv (by rw [hx, fit, hp, hc, decide_eq_false he]; rfl))
theorem fits_from (l : List S49) (hl : l.length ≤ 140737488351232) (Q : S27) (hQ : Q.f8.length ≤ 140737488351232) (own a : S24) (c : ByteArray × Bool) (v : Int × Bool) (hv : v = selP l Q own) (hs : Spec c a l v) : ∀ (r : List S49) (i : Nat), l.drop i = r → Ev (fun k => ddilaw39_RelayFits.l0 k l c.1 c.2 v.1 v.2 l (l.length : Int) (i : Int) Q.f0 Q.f1 Q.f2 Q.f3 Q.f4.f0 Q.f4.f1 Q.f4.f2 Q.f5.f0 Q.f5.f1 Q.f5.f2 Q.f6.f0 Q.f6.f1 Q.f6.f2 Q.f7 Q.f8 own.f0 own.f1 own.f2 a.f0 a.f1 a.f2) true
  | [], i, h => by
    have := drop_end h
    refine Ev_shift 1 (fun k => by rw [ddilaw39_RelayFits.l0, if_neg (by omega)]) ?_
    refine Ev.bind (select_ev l hl ⟨wrap64 (Q.f0 + 1), Q.f1, Q.f2, (⟨#[]⟩ : ByteArray), own, Q.f5, Q.f6, Q.f7, Q.f8⟩ hQ own) ?_
    have e : selP l ⟨wrap64 (Q.f0 + 1), Q.f1, Q.f2, (⟨#[]⟩ : ByteArray), own, Q.f5, Q.f6, Q.f7, Q.f8⟩ own = v := by rw [hv]; rfl
    rw [e]
    simp only [if_true, beq_self_eq_true]
    exact Ev.bind wake_ev (Ev_const rfl)
  | s :: r, i, h => by
    obtain ⟨hi, hx, hr⟩ := rdSub l i s r h
    obtain ⟨_, hx2, _⟩ := drop_at h
    have ih := fits_from l hl Q hQ own a c v hv hs r (i + 1) hr
    have h5 : Ev (fun k => ddilaw39_RelayFits.j5 k l c.1 c.2 v.1 v.2 l (l.length : Int) (i : Int) false Q.f0 Q.f1 Q.f2 Q.f3 Q.f4.f0 Q.f4.f1 Q.f4.f2 Q.f5.f0 Q.f5.f1 Q.f5.f2 Q.f6.f0 Q.f6.f1 Q.f6.f2 Q.f7 Q.f8 own.f0 own.f1 own.f2 a.f0 a.f1 a.f2) true := by
      refine Ev_shift 1 (fun k => ?_) ih
      rw [ddilaw39_RelayFits.j5, if_neg (by decide), next i l.length hi (by omega)]
    have h4 : ∀ f : Bool, f = fit c a s → Ev (fun k => ddilaw39_RelayFits.j4 k l c.1 c.2 v.1 v.2 (i : Int) f l (l.length : Int) (i : Int) false Q.f0 Q.f1 Q.f2 Q.f3 Q.f4.f0 Q.f4.f1 Q.f4.f2 Q.f5.f0 Q.f5.f1 Q.f5.f2 Q.f6.f0 Q.f6.f1 Q.f6.f2 Q.f7 Q.f8 own.f0 own.f1 own.f2 a.f0 a.f1 a.f2 s.f0.f0.f0 s.f0.f0.f1 s.f0.f0.f2 s.f0.f1 s.f1 s.f2 s.f3 s.f4 s.f5) true := by
      intro f hf
      refine Ev_shift 1 (fun k => by rw [ddilaw39_RelayFits.j4, if_neg (by decide)]) ?_
      cases f with
      | false =>
        simp only [Bool.false_eq_true, if_false]
        exact h5
      | true =>
        simp only [if_true]
        have hfi : fit c a l[i] = true := by rw [hx2]; exact hf.symm
        have hok : v.2 = true := by
          cases h2 : v.2 with
          | true => rfl
          | false => rw [hs.no h2 i hi] at hfi; cases hfi
        obtain ⟨n, hn, h1, h2, h3, h4⟩ := hs.yes hok
        obtain ⟨_, hy, _⟩ := rdSub l n l[n] _ (List.drop_eq_getElem_cons hn)
        have g0 : 0 ≤ v.1 := by omega
        have g1 : v.1 < (l.length : Int) := by omega
        have hy' : rd_T49 l v.1 = l[n] := by rw [h1]; exact hy
        by_cases c1 : (i : Int) < v.1
        · obtain ⟨e1, e2⟩ := h3 i hi (by omega) hfi
          rw [hx2] at e1
          simp only [if_pos c1, if_pos e1, if_pos g0, if_pos g1, hy', if_neg e2, if_neg (show ¬ (i : Int) > v.1 by omega)]
          exact h5
        · simp only [if_neg c1]
          by_cases c2 : (i : Int) > v.1
          · simp only [if_pos c2]
            by_cases e1 : s.f1.toList = ([] : List UInt8)
            · simp only [if_pos e1]
              exact h5
            · have e2 := h4 i hi (by omega) hfi (by rw [hx2]; exact e1)
              simp only [if_neg e1, if_pos g0, if_pos g1, hy']
              rw [show (l[n].f1.toList == ([] : List UInt8)) = false from by simpa using e2]
              exact h5
          · simp only [if_neg c2]
            exact h5
    have h3 : ∀ f : Bool, f = fit c a s → Ev (fun k => ddilaw39_RelayFits.j3 k l c.1 c.2 v.1 v.2 (i : Int) f l (l.length : Int) (i : Int) Q.f0 Q.f1 Q.f2 Q.f3 Q.f4.f0 Q.f4.f1 Q.f4.f2 Q.f5.f0 Q.f5.f1 Q.f5.f2 Q.f6.f0 Q.f6.f1 Q.f6.f2 Q.f7 Q.f8 own.f0 own.f1 own.f2 a.f0 a.f1 a.f2 s.f0.f0.f0 s.f0.f0.f1 s.f0.f0.f2 s.f0.f1 s.f1 s.f2 s.f3 s.f4 s.f5) true := by
      intro f hf
      refine Ev_shift 1 (fun k => by rw [ddilaw39_RelayFits.j3]) ?_
      cases h2 : v.2 with
      | false =>
        have hno := hs.no h2 i hi
        rw [hx2, ← hf] at hno
        subst hno
        have := h4 false hf
        rw [h2] at this
        simp only [Bool.false_eq_true, if_false]
        exact this
      | true =>
        have h4' := h4 f hf
        rw [h2] at h4'
        obtain ⟨n, hn, h1, h2, _⟩ := hs.yes h2
        simp only [if_true]
        by_cases e : (i : Int) = v.1
        · have : n = i := by omega
          subst this
          rw [hx2, ← hf] at h2
          subst h2
          simp only [if_true, if_pos e]
          exact h4'
        · simp only [if_neg e]
          cases f with
          | true => simp only [if_true]; exact h4'
          | false => simp only [Bool.false_eq_true, if_false]; exact h4'
    refine Ev_shift 1 (fun k => by rw [ddilaw39_RelayFits.l0, if_pos (by omega), if_pos (by omega), if_pos (by omega), hx]) ?_
    refine Ev.bind (contains_pfx s.f0 a) ?_
    cases hp : pcB s.f0 a with
    | false =>
      simp only [Bool.false_eq_true, if_false]
      exact h3 false (by rw [fit, hp]; rfl)
    | true =>
      simp only [if_true]
      by_cases he : s.f1.toList = ([] : List UInt8)
      · simp only [if_pos he]
        exact h3 true (by rw [fit, hp, decide_eq_true he]; rfl)
      · simp only [if_neg he]
        cases hc : c.2 with
        | true =>
          simp only [if_true]
          have := h3 (s.f1.toList == c.1.toList) (by rw [fit, hp, decide_eq_false he, hc]; rfl)
          rw [hc] at this
          exact this
        | false =>
          simp only [Bool.false_eq_true, if_false]
          have := h3 false (by rw [fit, hp, decide_eq_false he, hc]; rfl)
          rw [hc] at this
          exact this
theorem fits_j0 (l : List S49) (hl : l.length ≤ 140737488351232) (Q : S27) (hQ : Q.f8.length ≤ 140737488351232) (own a : S24) (ha : a = askA Q own) : Ev (fun k => ddilaw39_RelayFits.j0 k l Q.f0 Q.f1 Q.f2 Q.f3 Q.f4.f0 Q.f4.f1 Q.f4.f2 Q.f5.f0 Q.f5.f1 Q.f5.f2 Q.f6.f0 Q.f6.f1 Q.f6.f2 Q.f7 Q.f8 own.f0 own.f1 own.f2 a.f0 a.f1 a.f2) true := by
  refine Ev_shift 1 (fun k => by rw [ddilaw39_RelayFits.j0]) ?_
  refine Ev.bind (circ_ev Q hQ) ?_
  refine Ev.bind (select_ev l hl Q hQ own) ?_
  have hs : Spec (circV (findV 82 Q.f8)) a l (selP l Q own) := by
    rw [ha]
    exact sel_spec _ _ l l 0 (-1) rfl ⟨.inl ⟨rfl, fun k _ h => by omega⟩, fun k _ h => by omega⟩
  have hgo := fits_from l hl Q hQ own a (circV (findV 82 Q.f8)) (selP l Q own) rfl hs l 0 rfl
  have h1 : Ev (fun k => ddilaw39_RelayFits.j1 k l (circV (findV 82 Q.f8)).1 (circV (findV 82 Q.f8)).2 (selP l Q own).1 (selP l Q own).2 false Q.f0 Q.f1 Q.f2 Q.f3 Q.f4.f0 Q.f4.f1 Q.f4.f2 Q.f5.f0 Q.f5.f1 Q.f5.f2 Q.f6.f0 Q.f6.f1 Q.f6.f2 Q.f7 Q.f8 own.f0 own.f1 own.f2 a.f0 a.f1 a.f2) true := by
    refine Ev_shift 1 (fun k => by rw [ddilaw39_RelayFits.j1, if_neg (by decide)]) ?_
    exact hgo
  generalize selP l Q own = v at hs h1
  cases h2 : v.2 with
  | false =>
    simp only [Bool.false_eq_true, if_false]
    rw [h2] at h1
    exact h1
  | true =>
    simp only [if_true]
    rw [h2] at h1
    obtain ⟨n, hn, e, _⟩ := hs.yes h2
    simp only [if_neg (show ¬ v.1 < 0 by omega), decide_eq_false (show ¬ v.1 ≥ (l.length : Int) by omega)]
    exact h1
theorem relayFits : ddilaw39_RelayFits.Pure := by
  intro l0 a1_0 a1_1 a1_2 a1_3 a1_4 a1_5 a1_6 a1_7 a1_8 a1_9 a1_10 a1_11 a1_12 a1_13 l1_14 a2_0 a2_1 a2_2 hl0 hp ha
  obtain ⟨P, hP⟩ : ∃ P : S27, P = ⟨a1_0, a1_1, a1_2, a1_3, ⟨a1_4, a1_5, a1_6⟩, ⟨a1_7, a1_8, a1_9⟩, ⟨a1_10, a1_11, a1_12⟩, a1_13, l1_14⟩ := ⟨_, rfl⟩
  rw [← hP] at hp
  have hl : P.f8.length ≤ 140737488351232 := by
    have := hp.2.2.2.2.2.2.2.2.1
    omega
  obtain ⟨h1, h2⟩ := subs_short hl0
  obtain ⟨h3, h4⟩ := few_sub hl0.2.2
  obtain ⟨hlen, hsz⟩ := shortO_ok P.f8
  refine Ev.rounds ?_
  have e1 := short_ev P hl
  obtain ⟨Q, hQ⟩ : ∃ Q, Q = shortP P := ⟨_, rfl⟩
  have hQ8 : Q.f8 = shortO P.f8 := by rw [hQ]; rfl
  rw [← hQ8] at hlen hsz
  rw [← hQ] at e1
  unfold ddilaw39_RelayFits.f
  rw [hP] at e1
  refine Ev.bind (few_ev l0 h1 h2) ?_
  refine Ev.bind e1 ?_
  have hj := fun a ha => fits_j0 (fewL l0) (by omega) Q (by omega) ⟨a2_0, a2_1, a2_2⟩ a ha
  show Ev (fun n => if Q.f7 = true then _ else _) _
  cases h7 : Q.f7 with
  | true =>
    simp only [if_true]
    have := hj Q.f6 (by rw [askA, h7]; rfl)
    exact this
  | false =>
    simp only [Bool.false_eq_true, if_false]
    have := hj ⟨a2_0, a2_1, a2_2⟩ (by rw [askA, h7]; rfl)
    exact this
end Go.Proofs.YtngfffoeaghhhaaDoor.Ma
namespace Go.Proofs.YtngfffoeaghhhaaDoor.Pure
theorem RelayFits : QA.ddilaw39_RelayFits.Pure := Ma.relayFits
end Go.Proofs.YtngfffoeaghhhaaDoor.Pure
