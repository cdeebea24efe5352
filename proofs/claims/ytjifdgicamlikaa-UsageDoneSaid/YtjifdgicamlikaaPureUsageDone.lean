/- after Reclaim nothing is reclaimable; the blocks that are left are a table of blocks that were there, and none without an end, or with one after now, is away: the pure statement of UsageDone (no condition but the sizes that every argument has). -/
import Derived.Test.YtjifdgicamlikaaQAd4
import Derived.Test.YtjifdgicamlikaaQAd1
import Derived.Test.YtjifdgicamlikaaXP
import Derived.Test.YtjifdgicamlikaaXM
import Derived.Laws.Bits64
namespace Go.Proofs.Ytjifdgicamlikaa.Cm
open Go.RowKit Go.Proofs.YtjifdgicamlikaaW.PrintWords Go.Proofs.YtjifdgicamlikaaW.PrintLast Go.Proofs.YtjifdgicamlikaaW.PrintMore Go.Proofs.Ytjifdgicamlikaa.XP Go.Proofs.Ytjifdgicamlikaa.QA
set_option linter.unusedVariables false
set_option linter.unusedSimpArgs false
def ea (a x : S29) : Bool := a.f0 == x.f0 && (a.f1 == x.f1 && (a.f2 == x.f2))
theorem ea_iff (a x : S29) : ea a x = true ↔ a = x := by
  obtain ⟨a0, a1, a2⟩ := a
  obtain ⟨x0, x1, x2⟩ := x
  simp [ea]
def cmp (a b : S29) : Int := if (a.f0 != b.f0) = true then (if b.f0 = true then -1 else 1) else (if a.f1 = b.f1 then (if a.f2 < b.f2 then -1 else (if a.f2 > b.f2 then 1 else 0)) else (if a.f1 < b.f1 then -1 else 1))
theorem rcmp (a b : S29) : ddiref02_Compare.f a.f0 a.f1 a.f2 b.f0 b.f1 b.f2 = some (cmp a b) := by
  unfold ddiref02_Compare.f cmp
  repeat' split
  all_goals first | rfl | omega
theorem num (a b : Int) : addr_number.f a b = some (if a < b then -1 else (if a > b then 1 else 0)) := by
  unfold addr_number.f
  repeat' split
  all_goals rfl
theorem ucmp (a b : S29) : Ev (fun k => addr_Compare.f k a.f0 a.f1 a.f2 b.f0 b.f1 b.f2) (cmp a b) := by
  refine Ev_shift 1 (f := fun _ => some (cmp a b)) (fun k => ?_) (Ev_const rfl)
  unfold addr_Compare.f addr_Compare.j0 cmp
  simp only [num]
  cases h0 : a.f0 <;> cases h1 : b.f0 <;> simp
  all_goals
    by_cases h : a.f1 = b.f1
    · simp [h]
    · simp only [h, if_false]
      by_cases h2 : a.f1 < b.f1
      · simp [h2]
      · simp [h2]
        omega
theorem cmp_zero (a b : S29) : cmp a b = 0 ↔ a = b := by
  obtain ⟨a0, a1, a2⟩ := a
  obtain ⟨b0, b1, b2⟩ := b
  simp only [cmp, S29.mk.injEq]
  cases a0 <;> cases b0 <;> simp <;> repeat' split
  all_goals omega
theorem cmp_self (a : S29) : cmp a a = 0 := (cmp_zero a a).2 rfl
theorem cmp_flip (a b : S29) : cmp b a = -cmp a b := by
  obtain ⟨a0, a1, a2⟩ := a
  obtain ⟨b0, b1, b2⟩ := b
  simp only [cmp]
  cases a0 <;> cases b0 <;> simp <;> repeat' split
  all_goals omega
theorem cmp_trans {a b c : S29} : cmp a b < 0 → cmp b c < 0 → cmp a c < 0 := by
  obtain ⟨a0, a1, a2⟩ := a
  obtain ⟨b0, b1, b2⟩ := b
  obtain ⟨c0, c1, c2⟩ := c
  simp only [cmp]
  cases a0 <;> cases b0 <;> cases c0 <;> simp <;> repeat' split
  all_goals omega
end Go.Proofs.Ytjifdgicamlikaa.Cm
namespace Go.Proofs.Ytjifdgicamlikaa.Cm
open Go.RowKit Go.Proofs.YtjifdgicamlikaaW.PrintWords Go.Proofs.YtjifdgicamlikaaW.PrintLast Go.Proofs.YtjifdgicamlikaaW.PrintMore Go.Proofs.Ytjifdgicamlikaa.XP Go.Proofs.Ytjifdgicamlikaa.QA
set_option linter.unusedVariables false
set_option linter.unusedSimpArgs false
/-! ### bits -/
theorem bv_split (A B : BitVec 64) : (A &&& ~~~B) + (A &&& B) = A := by
  rw [BitVec.add_eq_or_of_and_eq_zero]
  · apply BitVec.eq_of_getLsbD_eq
    intro i hi
    simp only [BitVec.getLsbD_or, BitVec.getLsbD_and, BitVec.getLsbD_not, hi, decide_true, Bool.true_and]
    cases A.getLsbD i <;> cases B.getLsbD i <;> rfl
  · apply BitVec.eq_of_getLsbD_eq
    intro i hi
    simp only [BitVec.getLsbD_and, BitVec.getLsbD_not, hi, decide_true, Bool.true_and, BitVec.getLsbD_zero]
    cases A.getLsbD i <;> cases B.getLsbD i <;> rfl
theorem bv_of (x : Int) (h0 : 0 ≤ x) (h1 : x < 18446744073709551616) : ((BitVec.ofInt 64 x).toNat : Int) = x := by
  obtain ⟨n, rfl⟩ := Int.eq_ofNat_of_zero_le h0
  rw [BitVec.ofInt_natCast, BitVec.toNat_ofNat]
  omega
theorem b_and (x m : Int) : Go.bits .and .u64 x m = ((BitVec.ofInt 64 x &&& BitVec.ofInt 64 m).toNat : Int) := by
  show IntKind.u64.wrap ((BitVec.ofInt 64 x &&& BitVec.ofInt 64 m).toNat : Int) = _
  have := (BitVec.ofInt 64 x &&& BitVec.ofInt 64 m).isLt
  rw [IntKind.wrap_u64]
  omega
theorem b_not (x m : Int) : Go.bits .andNot .u64 x m = ((BitVec.ofInt 64 x &&& ~~~BitVec.ofInt 64 m).toNat : Int) := by
  show IntKind.u64.wrap ((BitVec.ofInt 64 x &&& ~~~BitVec.ofInt 64 m).toNat : Int) = _
  have := (BitVec.ofInt 64 x &&& ~~~BitVec.ofInt 64 m).isLt
  rw [IntKind.wrap_u64]
  omega
theorem andnot_sub (x m : Int) (h0 : 0 ≤ x) (h1 : x < 18446744073709551616) : IntKind.u64.wrap (x - Go.bits .and .u64 x m) = Go.bits .andNot .u64 x m := by
  rw [b_and, b_not, IntKind.wrap_u64]
  have hx := bv_of x h0 h1
  generalize BitVec.ofInt 64 x = A at hx
  generalize BitVec.ofInt 64 m = B
  have h := congrArg BitVec.toNat (bv_split A B)
  rw [BitVec.toNat_add] at h
  have c1 : (A &&& B).toNat ≤ A.toNat := by rw [BitVec.toNat_and]; exact Nat.and_le_left
  have c2 : (A &&& ~~~B).toNat ≤ A.toNat := by rw [BitVec.toNat_and]; exact Nat.and_le_left
  omega
/-! ### masks -/
def mHi (m : Nat) : Int := ((2 ^ (m - 64) - 1 : Nat) : Int)
def mLo (m : Nat) : Int := ((2 ^ (min m 64) - 1 : Nat) : Int)
def lenV (b : Bool) : Int := if b = true then 128 else 32
theorem later6 : ∀ n : Fin 129, prefix_later.f true ((n.val : Nat) : Int) = some (mHi (128 - n.val), mLo (128 - n.val)) := by decide +kernel
theorem later4 : ∀ n : Fin 33, prefix_later.f false ((n.val : Nat) : Int) = some (mHi (32 - n.val), mLo (32 - n.val)) := by decide +kernel
theorem ones_all : ∀ m : Fin 129, ddiref03_ones.f 300 ((m.val : Nat) : Int) = some (mHi m.val, mLo m.val) := by decide +kernel
theorem lenV_le (b : Bool) : 32 ≤ lenV b ∧ lenV b ≤ 128 := by
  cases b <;> simp [lenV]
theorem later_v (b : Bool) (n : Int) (h0 : 0 ≤ n) (h1 : n ≤ lenV b) : prefix_later.f b n = some (mHi (lenV b - n).toNat, mLo (lenV b - n).toNat) := by
  obtain ⟨j, rfl⟩ := Int.eq_ofNat_of_zero_le h0
  cases b with
  | true =>
    have h2 : lenV true = 128 := rfl
    rw [h2] at h1 ⊢
    have h := later6 ⟨j, by omega⟩
    simp only at h
    rw [h, show ((128 : Int) - (j : Int)).toNat = 128 - j by omega]
  | false =>
    have h2 : lenV false = 32 := rfl
    rw [h2] at h1 ⊢
    have h := later4 ⟨j, by omega⟩
    simp only at h
    rw [h, show ((32 : Int) - (j : Int)).toNat = 32 - j by omega]
theorem ones_ev (b : Bool) (n : Int) (h0 : 0 ≤ n) (h1 : n ≤ lenV b) : Ev (fun k => ddiref03_ones.f k (wrap64 (lenV b - n))) (mHi (lenV b - n).toNat, mLo (lenV b - n).toNat) := by
  have hl := lenV_le b
  rw [wrap_id (by omega) (by omega)]
  obtain ⟨j, hj⟩ := Int.eq_ofNat_of_zero_le (show 0 ≤ lenV b - n by omega)
  rw [hj, Int.toNat_natCast]
  have h := ones_all ⟨j, by omega⟩
  exact ⟨300, fun k hk => at_rounds (g := fun k => ddiref03_ones.f k (j : Int)) (ddiref03_ones.mono (j : Int)) hk h⟩
theorem long_v (b : Bool) : ddiref03_Long.f b = some (lenV b) := by cases b <;> rfl
theorem length_v (a : S29) : prefix_length.f a.f0 a.f1 a.f2 = some (lenV a.f0) := by
  unfold prefix_length.f
  cases a.f0 <;> rfl
/-! ### addresses -/
def adB (x : S29) : Bool := x.f0 || (decide (x.f1 = 0) && decide (x.f2 ≤ 4294967295))
theorem ad_v (x : S29) : addr_Valid.f x.f0 x.f1 x.f2 = some (adB x) := by
  unfold addr_Valid.f adB
  cases h : x.f0 with
  | true => rfl
  | false =>
    simp only [Bool.false_eq_true, if_false, Bool.false_or]
    by_cases h1 : x.f1 = 0
    · simp [h1]
    · simp [h1]
theorem rad_v (x : S29) : ddiref02_Valid.f x.f0 x.f1 x.f2 = some (adB x) := by
  unfold ddiref02_Valid.f adB
  cases h : x.f0 with
  | true => rfl
  | false =>
    simp only [Bool.false_eq_true, if_false, Bool.false_or]
    by_cases h1 : x.f1 = 0
    · simp [h1]
      omega
    · simp [h1]
/-! ### Valid -/
def mkH (a : S29) (n : Int) : Int := mHi (lenV a.f0 - n).toNat
def mkL (a : S29) (n : Int) : Int := mLo (lenV a.f0 - n).toNat
def inB (a : S29) (n : Int) : Bool := adB a && (decide (0 ≤ n) && decide (n ≤ lenV a.f0))
def pvB (p : S31) : Bool := inB p.f0 p.f1 && (decide (Go.bits .and .u64 p.f0.f1 (mkH p.f0 p.f1) = 0) && (Go.bits .and .u64 p.f0.f2 (mkL p.f0 p.f1) == 0))
theorem inB_iff (a : S29) (n : Int) : inB a n = true ↔ adB a = true ∧ 0 ≤ n ∧ n ≤ lenV a.f0 := by
  simp [inB]
theorem pv_in {p : S31} (h : pvB p = true) : adB p.f0 = true ∧ 0 ≤ p.f1 ∧ p.f1 ≤ lenV p.f0.f0 := by
  rw [pvB, Bool.and_eq_true] at h
  exact (inB_iff _ _).1 h.1
theorem pv_j (p : S31) (b : Bool) (hb : b = !inB p.f0 p.f1) : Ev (fun k => prefix_Valid.j0 k b p.f0.f0 p.f0.f1 p.f0.f2 p.f1) (pvB p) := by
  unfold pvB
  cases hi : inB p.f0 p.f1 with
  | false =>
    rw [hi] at hb
    subst hb
    refine Ev_shift 1 (f := fun _ => some false) (fun k => ?_) (Ev_const rfl)
    rw [prefix_Valid.j0]
    rfl
  | true =>
    rw [hi] at hb
    subst hb
    obtain ⟨_, h0, h1⟩ := (inB_iff _ _).1 hi
    refine Ev_shift 1 (f := fun _ => some (decide (Go.bits .and .u64 p.f0.f1 (mkH p.f0 p.f1) = 0) && (Go.bits .and .u64 p.f0.f2 (mkL p.f0 p.f1) == 0))) (fun k => ?_) (Ev_const rfl)
    rw [prefix_Valid.j0, if_neg (by decide), later_v p.f0.f0 p.f1 h0 h1]
    simp only [Option.bind_some]
    show (if Go.bits .and .u64 p.f0.f1 (mkH p.f0 p.f1) = 0 then _ else _) = _
    by_cases h : Go.bits .and .u64 p.f0.f1 (mkH p.f0 p.f1) = 0
    · rw [if_pos h, decide_eq_true h]; rfl
    · rw [if_neg h, decide_eq_false h]; rfl
theorem valid_pfx (p : S31) : Ev (fun k => prefix_Valid.f k p.f0.f0 p.f0.f1 p.f0.f2 p.f1) (pvB p) := by
  unfold prefix_Valid.f
  simp only [ad_v, Option.bind_some, length_v]
  cases ha : adB p.f0 with
  | false =>
    simp only [Bool.false_eq_true, if_false]
    exact pv_j p true (by simp [inB, ha])
  | true =>
    simp only [if_true]
    by_cases h0 : p.f1 < 0
    · simp only [if_pos h0]
      exact pv_j p true (by simp [inB, ha]; omega)
    · simp only [if_neg h0]
      refine pv_j p _ ?_
      by_cases h1 : p.f1 ≤ lenV p.f0.f0
      · rw [decide_eq_false (by omega)]; simp [inB, ha, h1]; omega
      · rw [decide_eq_true (by omega)]; simp [inB, ha, h1]
theorem rpv_j (p : S31) (b : Bool) (hb : b = !inB p.f0 p.f1) : Ev (fun k => ddiref03_Valid.j0 k b p.f0.f0 p.f0.f1 p.f0.f2 p.f1) (pvB p) := by
  unfold pvB
  cases hi : inB p.f0 p.f1 with
  | false =>
    rw [hi] at hb
    subst hb
    refine Ev_shift 1 (f := fun _ => some false) (fun k => ?_) (Ev_const rfl)
    rw [ddiref03_Valid.j0]
    rfl
  | true =>
    rw [hi] at hb
    subst hb
    obtain ⟨_, h0, h1⟩ := (inB_iff _ _).1 hi
    refine Ev_shift 1 (fun k => by rw [ddiref03_Valid.j0, if_neg (by decide), long_v, Option.bind_some]) ?_
    refine Ev.bind (ones_ev p.f0.f0 p.f1 h0 h1) ?_
    show Ev (fun n => if Go.bits .and .u64 p.f0.f1 (mkH p.f0 p.f1) = 0 then _ else _) _
    by_cases h : Go.bits .and .u64 p.f0.f1 (mkH p.f0 p.f1) = 0
    · simp only [if_pos h, decide_eq_true h]
      exact Ev_const rfl
    · simp only [if_neg h, decide_eq_false h]
      exact Ev_const rfl
theorem rvalid_pfx (p : S31) : Ev (fun k => ddiref03_Valid.f k p.f0.f0 p.f0.f1 p.f0.f2 p.f1) (pvB p) := by
  unfold ddiref03_Valid.f
  simp only [rad_v, Option.bind_some, long_v]
  cases ha : adB p.f0 with
  | false =>
    simp only [Bool.false_eq_true, if_false]
    exact rpv_j p true (by simp [inB, ha])
  | true =>
    simp only [if_true]
    by_cases h0 : p.f1 < 0
    · simp only [if_pos h0]
      exact rpv_j p true (by simp [inB, ha]; omega)
    · simp only [if_neg h0]
      refine rpv_j p _ ?_
      by_cases h1 : p.f1 ≤ lenV p.f0.f0
      · rw [decide_eq_false (by omega)]; simp [inB, ha, h1]; omega
      · rw [decide_eq_true (by omega)]; simp [inB, ha, h1]
/-! ### Of -/
def zPfx : S31 := ⟨⟨false, 0, 0⟩, 0⟩
def ofV (a : S29) (n : Int) : S31 := if inB a n = true then ⟨⟨a.f0, Go.bits .andNot .u64 a.f1 (mkH a n), Go.bits .andNot .u64 a.f2 (mkL a n)⟩, n⟩ else zPfx
def tPfx (p : S31) (b : Bool) : Bool × Int × Int × Int × Bool := (p.f0.f0, p.f0.f1, p.f0.f2, p.f1, b)
theorem of_j (a : S29) (n : Int) (b : Bool) (hb : b = !inB a n) : Ev (fun k => prefix_Of.j0 k n b a.f0 a.f1 a.f2) (tPfx (ofV a n) (inB a n)) := by
  unfold ofV
  cases hi : inB a n with
  | false =>
    rw [hi] at hb
    subst hb
    refine Ev_shift 1 (f := fun _ => some (tPfx zPfx false)) (fun k => ?_) (Ev_const rfl)
    rw [prefix_Of.j0]
    rfl
  | true =>
    rw [hi] at hb
    subst hb
    obtain ⟨_, h0, h1⟩ := (inB_iff _ _).1 hi
    refine Ev_shift 1 (f := fun _ => some (tPfx ⟨⟨a.f0, Go.bits .andNot .u64 a.f1 (mkH a n), Go.bits .andNot .u64 a.f2 (mkL a n)⟩, n⟩ true)) (fun k => ?_) (Ev_const rfl)
    rw [prefix_Of.j0, if_neg (by decide), later_v a.f0 n h0 h1]
    rfl
theorem of_pfx (a : S29) (n : Int) : Ev (fun k => prefix_Of.f k a.f0 a.f1 a.f2 n) (tPfx (ofV a n) (inB a n)) := by
  unfold prefix_Of.f
  simp only [ad_v, Option.bind_some, length_v]
  cases ha : adB a with
  | false =>
    simp only [Bool.false_eq_true, if_false]
    exact of_j a n true (by simp [inB, ha])
  | true =>
    simp only [if_true]
    by_cases h0 : n < 0
    · simp only [if_pos h0]
      exact of_j a n true (by simp [inB, ha]; omega)
    · simp only [if_neg h0]
      refine of_j a n _ ?_
      by_cases h1 : n ≤ lenV a.f0
      · rw [decide_eq_false (by omega)]; simp [inB, ha, h1]; omega
      · rw [decide_eq_true (by omega)]; simp [inB, ha, h1]
def uA (a : S29) : Prop := (0 ≤ a.f1 ∧ a.f1 < 18446744073709551616) ∧ (0 ≤ a.f2 ∧ a.f2 < 18446744073709551616)
theorem uA_of {a : S29} (h : okS29 a) : uA a := by
  obtain ⟨_, h1, h2⟩ := h
  have g1 := wf_u64 h1
  have g2 := wf_u64 h2
  exact ⟨⟨g1.1, by omega⟩, ⟨g2.1, by omega⟩⟩
theorem rof_j (a : S29) (ok : uA a) (n : Int) (b : Bool) (hb : b = !inB a n) : Ev (fun k => ddiref03_Of.j0 k n b a.f0 a.f1 a.f2) (tPfx (ofV a n) (inB a n)) := by
  unfold ofV
  cases hi : inB a n with
  | false =>
    rw [hi] at hb
    subst hb
    refine Ev_shift 1 (f := fun _ => some (tPfx zPfx false)) (fun k => ?_) (Ev_const rfl)
    rw [ddiref03_Of.j0]
    rfl
  | true =>
    rw [hi] at hb
    subst hb
    obtain ⟨_, h0, h1⟩ := (inB_iff _ _).1 hi
    refine Ev_shift 1 (fun k => by rw [ddiref03_Of.j0, if_neg (by decide), long_v, Option.bind_some]) ?_
    refine Ev.bind (ones_ev a.f0 n h0 h1) (Ev_const ?_)
    show some (a.f0, IntKind.u64.wrap (a.f1 - Go.bits .and .u64 a.f1 (mkH a n)), IntKind.u64.wrap (a.f2 - Go.bits .and .u64 a.f2 (mkL a n)), n, true) = _
    rw [andnot_sub _ _ ok.1.1 ok.1.2, andnot_sub _ _ ok.2.1 ok.2.2]
    rfl
theorem rof_pfx (a : S29) (ok : uA a) (n : Int) : Ev (fun k => ddiref03_Of.f k a.f0 a.f1 a.f2 n) (tPfx (ofV a n) (inB a n)) := by
  unfold ddiref03_Of.f
  simp only [rad_v, Option.bind_some, long_v]
  cases ha : adB a with
  | false =>
    simp only [Bool.false_eq_true, if_false]
    exact rof_j a ok n true (by simp [inB, ha])
  | true =>
    simp only [if_true]
    by_cases h0 : n < 0
    · simp only [if_pos h0]
      exact rof_j a ok n true (by simp [inB, ha]; omega)
    · simp only [if_neg h0]
      refine rof_j a ok n _ ?_
      by_cases h1 : n ≤ lenV a.f0
      · rw [decide_eq_false (by omega)]; simp [inB, ha, h1]; omega
      · rw [decide_eq_true (by omega)]; simp [inB, ha, h1]
/-! ### Contains, Within, Overlap -/
def eqPfx (x p : S31) : Bool := (x.f0.f0 == p.f0.f0 && (x.f0.f1 == p.f0.f1 && (x.f0.f2 == p.f0.f2))) && (x.f1 == p.f1)
def pcB (p : S31) (a : S29) : Bool := pvB p && ((p.f0.f0 == a.f0) && (inB a p.f1 && eqPfx (ofV a p.f1) p))
theorem con_j (p : S31) (a : S29) (b : Bool) (hb : b = !(pvB p && (p.f0.f0 == a.f0))) : Ev (fun k => prefix_Contains.j0 k b p.f0.f0 p.f0.f1 p.f0.f2 p.f1 a.f0 a.f1 a.f2) (pcB p a) := by
  unfold pcB
  rw [← Bool.and_assoc]
  cases hi : (pvB p && (p.f0.f0 == a.f0)) with
  | false =>
    rw [hi] at hb
    subst hb
    refine Ev_shift 1 (f := fun _ => some false) (fun k => ?_) (Ev_const rfl)
    rw [prefix_Contains.j0]
    rfl
  | true =>
    rw [hi] at hb
    subst hb
    refine Ev_shift 1 (fun k => by rw [prefix_Contains.j0, if_neg (by decide)]) ?_
    refine Ev.bind (of_pfx a p.f1) ?_
    show Ev (fun n => if inB a p.f1 = true then some (eqPfx (ofV a p.f1) p) else some false) _
    cases inB a p.f1 with
    | true => exact Ev_const rfl
    | false => exact Ev_const rfl
theorem contains_pfx (p : S31) (a : S29) : Ev (fun k => prefix_Contains.f k p.f0.f0 p.f0.f1 p.f0.f2 p.f1 a.f0 a.f1 a.f2) (pcB p a) := by
  unfold prefix_Contains.f
  refine Ev.bind (valid_pfx p) ?_
  cases hv : pvB p with
  | true =>
    simp only [if_true]
    exact con_j p a _ (by rw [hv]; rfl)
  | false =>
    simp only [Bool.false_eq_true, if_false]
    exact con_j p a _ (by rw [hv]; rfl)
theorem rcon_j (p : S31) (a : S29) (ok : uA a) (b : Bool) (hb : b = !((pvB p && adB a) && (p.f0.f0 == a.f0))) : Ev (fun k => ddiref03_Contains.j0 k b p.f0.f0 p.f0.f1 p.f0.f2 p.f1 a.f0 a.f1 a.f2) (pcB p a) := by
  have hE : pcB p a = (((pvB p && adB a) && (p.f0.f0 == a.f0)) && eqPfx (ofV a p.f1) p) := by
    unfold pcB
    cases hv : pvB p with
    | false => rfl
    | true =>
      obtain ⟨_, h0, h1⟩ := pv_in hv
      by_cases he : p.f0.f0 = a.f0
      · rw [he] at h1
        simp [inB, he, h0, h1]
      · have : (p.f0.f0 == a.f0) = false := by simpa using he
        rw [this]
        simp
  rw [hE]
  cases hi : ((pvB p && adB a) && (p.f0.f0 == a.f0)) with
  | false =>
    rw [hi] at hb
    subst hb
    refine Ev_shift 1 (f := fun _ => some false) (fun k => ?_) (Ev_const rfl)
    rw [ddiref03_Contains.j0]
    rfl
  | true =>
    rw [hi] at hb
    subst hb
    refine Ev_shift 1 (fun k => by rw [ddiref03_Contains.j0, if_neg (by decide)]) ?_
    refine Ev.bind (rof_pfx a ok p.f1) ?_
    exact Ev_const rfl
theorem rcontains_pfx (p : S31) (a : S29) (ok : uA a) : Ev (fun k => ddiref03_Contains.f k p.f0.f0 p.f0.f1 p.f0.f2 p.f1 a.f0 a.f1 a.f2) (pcB p a) := by
  unfold ddiref03_Contains.f
  refine Ev.bind (rvalid_pfx p) ?_
  cases hv : pvB p with
  | true =>
    simp only [if_true, rad_v, Option.bind_some]
    cases ha : adB a with
    | true =>
      simp only [if_true]
      exact rcon_j p a ok _ (by rw [hv, ha]; rfl)
    | false =>
      simp only [Bool.false_eq_true, if_false]
      exact rcon_j p a ok _ (by rw [hv, ha]; rfl)
  | false =>
    simp only [Bool.false_eq_true, if_false]
    exact rcon_j p a ok _ (by rw [hv]; rfl)
def pwB (p q : S31) : Bool := pvB p && (decide (q.f1 ≤ p.f1) && pcB q p.f0)
theorem pcB_v {q : S31} {a : S29} (h : pvB q = false) : pcB q a = false := by rw [pcB, h]; rfl
theorem within_pfx (p q : S31) : Ev (fun k => prefix_Within.f k p.f0.f0 p.f0.f1 p.f0.f2 p.f1 q.f0.f0 q.f0.f1 q.f0.f2 q.f1) (pwB p q) := by
  unfold prefix_Within.f pwB
  refine Ev.bind (valid_pfx p) ?_
  cases hv : pvB p with
  | false =>
    simp only [Bool.false_eq_true, if_false]
    exact Ev_const rfl
  | true =>
    simp only [if_true, Bool.true_and]
    refine Ev.bind (valid_pfx q) ?_
    cases hq : pvB q with
    | false =>
      simp only [Bool.false_eq_true, if_false]
      rw [pcB_v hq, Bool.and_false]
      exact Ev_const rfl
    | true =>
      simp only [if_true]
      by_cases h : p.f1 ≥ q.f1
      · simp only [if_pos h, decide_eq_true (show q.f1 ≤ p.f1 from h), Bool.true_and]
        exact Ev.bind (contains_pfx q p.f0) (Ev_const rfl)
      · simp only [if_neg h, decide_eq_false (show ¬ q.f1 ≤ p.f1 from h), Bool.false_and]
        exact Ev_const rfl
theorem rwithin_pfx (p q : S31) (ok : uA p.f0) : Ev (fun k => ddiref03_Within.f k p.f0.f0 p.f0.f1 p.f0.f2 p.f1 q.f0.f0 q.f0.f1 q.f0.f2 q.f1) (pwB p q) := by
  unfold ddiref03_Within.f pwB
  refine Ev.bind (rvalid_pfx p) ?_
  cases hv : pvB p with
  | false =>
    simp only [Bool.false_eq_true, if_false]
    exact Ev_const rfl
  | true =>
    simp only [if_true, Bool.true_and]
    by_cases h : p.f1 ≥ q.f1
    · simp only [if_pos h, decide_eq_true (show q.f1 ≤ p.f1 from h), Bool.true_and]
      exact Ev.bind (rcontains_pfx q p.f0 ok) (Ev_const rfl)
    · simp only [if_neg h, decide_eq_false (show ¬ q.f1 ≤ p.f1 from h), Bool.false_and]
      exact Ev_const rfl
end Go.Proofs.Ytjifdgicamlikaa.Cm
namespace Go.Proofs.Ytjifdgicamlikaa.Ma
open Go.RowKit Go.Proofs.YtjifdgicamlikaaW.PrintWords Go.Proofs.YtjifdgicamlikaaW.PrintLast Go.Proofs.YtjifdgicamlikaaW.PrintMore Go.Proofs.Ytjifdgicamlikaa.XP Go.Proofs.Ytjifdgicamlikaa.QA
set_option linter.unusedVariables false
set_option linter.unusedSimpArgs false
theorem rd31 (l : List S31) (i : Nat) (x : S31) (r : List S31) (h : l.drop i = x :: r) : i < l.length ∧ rd_T31 l (i : Int) = x ∧ l.drop (i + 1) = r := by
  obtain ⟨hi, hx, hr⟩ := drop_at h
  refine ⟨hi, ?_, hr⟩
  simp [rd_T31, List.getD_eq_getElem?_getD, List.getElem?_eq_getElem hi, hx]
/-! ### equal lists of prefixes -/
/-! ### the examples -/
theorem awake_k : ddilaw48_awake.f 400 = some true := by decide +kernel
theorem awake_ev : Ev (fun k => ddilaw48_awake.f k) true := ⟨400, fun k hk => at_rounds (g := fun k => ddilaw48_awake.f k) ddilaw48_awake.mono hk awake_k⟩
end Go.Proofs.Ytjifdgicamlikaa.Ma
namespace Go.Proofs.Ytjifdgicamlikaa.Ma
open Go.RowKit Go.Proofs.YtjifdgicamlikaaW.PrintWords Go.Proofs.YtjifdgicamlikaaW.PrintLast Go.Proofs.YtjifdgicamlikaaW.PrintMore Go.Proofs.Ytjifdgicamlikaa.XP Go.Proofs.Ytjifdgicamlikaa.QA Go.Proofs.Ytjifdgicamlikaa.Cm
set_option linter.unusedVariables false
set_option linter.unusedSimpArgs false
/-! ### Size -/
/-! ### the set of the addresses -/
/-! ### reports -/
end Go.Proofs.Ytjifdgicamlikaa.Ma
namespace Go.Proofs.Ytjifdgicamlikaa.Ma
open Go.RowKit Go.Proofs.YtjifdgicamlikaaW.PrintWords Go.Proofs.YtjifdgicamlikaaW.PrintLast Go.Proofs.YtjifdgicamlikaaW.PrintMore Go.Proofs.Ytjifdgicamlikaa.XP Go.Proofs.Ytjifdgicamlikaa.QA Go.Proofs.Ytjifdgicamlikaa.Cm
set_option linter.unusedVariables false
set_option linter.unusedSimpArgs false
instance decAddr : DecidableEq S29 := fun a b => if h : ea a b = true then isTrue ((ea_iff a b).1 h) else isFalse (fun e => h ((ea_iff a b).2 e))
end Go.Proofs.Ytjifdgicamlikaa.Ma
namespace Go.Proofs.Ytjifdgicamlikaa.Ma
open Go.RowKit Go.Proofs.YtjifdgicamlikaaW.PrintWords Go.Proofs.YtjifdgicamlikaaW.PrintLast Go.Proofs.YtjifdgicamlikaaW.PrintMore Go.Proofs.Ytjifdgicamlikaa.XP Go.Proofs.Ytjifdgicamlikaa.QA Go.Proofs.Ytjifdgicamlikaa.Cm
set_option linter.unusedVariables false
set_option linter.unusedSimpArgs false
theorem rd60 (l : List S60) (i : Nat) (x : S60) (r : List S60) (h : l.drop i = x :: r) : i < l.length ∧ rd_T60 l (i : Int) = x ∧ l.drop (i + 1) = r := by
  obtain ⟨hi, hx, hr⟩ := drop_at h
  refine ⟨hi, ?_, hr⟩
  simp [rd_T60, List.getD_eq_getElem?_getD, List.getElem?_eq_getElem hi, hx]
theorem rdB (l : List S60) (i : Nat) (h : i < l.length) : rd_T60 l (i : Int) = l[i] := by
  simp [rd_T60, List.getD_eq_getElem?_getD, List.getElem?_eq_getElem h]
/-! ### Find -/
/-! ### Of -/
/-! ### All -/
end Go.Proofs.Ytjifdgicamlikaa.Ma
namespace Go.Proofs.Ytjifdgicamlikaa.Cm
open Go.RowKit Go.Proofs.YtjifdgicamlikaaW.PrintWords Go.Proofs.YtjifdgicamlikaaW.PrintLast Go.Proofs.YtjifdgicamlikaaW.PrintMore Go.Proofs.Ytjifdgicamlikaa.XP
set_option linter.unusedVariables false
set_option linter.unusedSimpArgs false
theorem bt_at_drop (s : ByteArray) (i : Nat) (c : UInt8) (r : List UInt8) (h : s.data.toList.drop i = c :: r) : i < s.size ∧ bt s (i : Int) = (c.toNat : Int) ∧ s.data.toList.drop (i + 1) = r := by
  obtain ⟨hi, hx, hr⟩ := drop_at h
  refine ⟨by rw [size_data]; exact hi, ?_, hr⟩
  rw [bt_get s i hi, hx]
theorem size_end (s : ByteArray) (i : Nat) (h : s.data.toList.drop i = []) : s.size ≤ i := by rw [size_data]; exact drop_end h
end Go.Proofs.Ytjifdgicamlikaa.Cm
namespace Go.Proofs.Ytjifdgicamlikaa.Ma
open Go.RowKit Go.Proofs.YtjifdgicamlikaaW.PrintWords Go.Proofs.YtjifdgicamlikaaW.PrintLast Go.Proofs.YtjifdgicamlikaaW.PrintMore Go.Proofs.Ytjifdgicamlikaa.XP Go.Proofs.Ytjifdgicamlikaa.QA Go.Proofs.Ytjifdgicamlikaa.Cm
set_option linter.unusedVariables false
set_option linter.unusedSimpArgs false
def visB (c : UInt8) : Bool := !(decide ((c.toNat : Int) < 33) || decide ((c.toNat : Int) > 126))
def strB (lo hi : Nat) (s : ByteArray) : Bool := decide (lo ≤ s.size) && (decide (s.size ≤ hi) && s.data.toList.all visB)
theorem rpr_from (s : ByteArray) (hs : s.size ≤ 140737488351232) : ∀ (r : List UInt8) (i : Nat), s.data.toList.drop i = r → Ev (fun k => ddiref46_printable.l0 k s (i : Int)) (r.all visB)
  | [], i, h => by
    have := size_end s i h
    exact Ev_shift 1 (f := fun _ => some true) (fun k => by rw [ddiref46_printable.l0, if_neg (by omega)]) (Ev_const rfl)
  | c :: r, i, h => by
    obtain ⟨hi, hb, hr⟩ := bt_at_drop s i c r h
    have ih := rpr_from s hs r (i + 1) hr
    by_cases h1 : (c.toNat : Int) < 33
    · have e : (c :: r).all visB = false := by simp [visB, h1]
      rw [e]
      refine Ev_shift 2 (f := fun _ => some false) (fun k => ?_) (Ev_const rfl)
      rw [ddiref46_printable.l0, if_pos (by omega), if_pos (by omega), hb, if_pos h1, ddiref46_printable.j1, if_pos rfl]
    · by_cases h2 : (c.toNat : Int) > 126
      · have e : (c :: r).all visB = false := by
          have : visB c = false := by unfold visB; rw [decide_eq_true h2]; simp
          simp [this]
        rw [e]
        refine Ev_shift 2 (f := fun _ => some false) (fun k => ?_) (Ev_const rfl)
        rw [ddiref46_printable.l0, if_pos (by omega), if_pos (by omega), hb, if_neg h1, decide_eq_true h2, ddiref46_printable.j1, if_pos rfl]
      · have e : (c :: r).all visB = r.all visB := by
          have : visB c = true := by unfold visB; rw [decide_eq_false h1, decide_eq_false h2]; rfl
          simp [this]
        rw [e]
        refine Ev_shift 2 (fun k => ?_) ih
        rw [ddiref46_printable.l0, if_pos (by omega), if_pos (by omega), hb, if_neg h1, decide_eq_false h2, ddiref46_printable.j1, if_neg Bool.false_ne_true, next i s.size hi (by omega)]
theorem rpr_ev (s : ByteArray) (hs : s.size ≤ 140737488351232) : Ev (fun k => ddiref46_printable.f k s) (s.data.toList.all visB) := by
  unfold ddiref46_printable.f
  exact rpr_from s hs s.data.toList 0 rfl
def kdB (b : S60) : Bool := decide (1 ≤ b.f1) && (decide (b.f1 ≤ 3) && (!decide (b.f1 = 3) || decide (b.f0.f1 = lenV b.f0.f0.f0)))
def tmB (b : S60) : Bool := decide (0 ≤ b.f4) && decide (b.f4 ≤ 4294967295)
def mayV (b : S60) : Bool := kdB b && (strB 1 63 b.f2 && (strB 0 32 b.f3 && tmB b))
def szB (b : S60) : Prop := b.f2.size ≤ 140737488351232 ∧ b.f3.size ≤ 140737488351232
theorem rmay_j (b : S60) (hs : szB b) (x : Bool) (hx : x = !kdB b) : Ev (fun k => ddiref46_may.j0 k x b.f0.f0.f0 b.f0.f0.f1 b.f0.f0.f2 b.f0.f1 b.f1 b.f2 b.f3 b.f4) (mayV b) := by
  unfold mayV
  cases hk : kdB b with
  | false =>
    rw [hk] at hx; subst hx
    exact Ev_shift 1 (f := fun _ => some false) (fun k => by rw [ddiref46_may.j0]; rfl) (Ev_const rfl)
  | true =>
    rw [hk] at hx; subst hx
    rw [Bool.true_and]
    unfold strB
    by_cases h1 : 1 ≤ b.f2.size
    · by_cases h2 : b.f2.size ≤ 63
      · have key : Ev (fun k => (ddiref46_printable.f k b.f2).bind fun t111 => (if t111 = true then (if (b.f3.size : Int) ≤ 32 then ((ddiref46_printable.f k b.f3).bind fun t112 => (if t112 = true then (if b.f4 ≥ 0 then (some (decide (b.f4 ≤ 4294967295))) else (some false)) else (some false))) else (some false)) else (some false))) ((decide (1 ≤ b.f2.size) && (decide (b.f2.size ≤ 63) && b.f2.data.toList.all visB)) && ((decide (0 ≤ b.f3.size) && (decide (b.f3.size ≤ 32) && b.f3.data.toList.all visB)) && tmB b)) := by
          refine Ev_bind (rpr_ev b.f2 hs.1) ?_
          rw [decide_eq_true h1, decide_eq_true h2, decide_eq_true (Nat.zero_le b.f3.size)]
          cases hp : b.f2.data.toList.all visB with
          | false => exact Ev_const rfl
          | true =>
            by_cases h3 : b.f3.size ≤ 32
            · rw [decide_eq_true h3]
              simp only [if_true, if_pos (show ((b.f3.size : Nat) : Int) ≤ 32 by omega)]
              refine Ev_bind (rpr_ev b.f3 hs.2) ?_
              cases hq : b.f3.data.toList.all visB with
              | false => exact Ev_const rfl
              | true =>
                unfold tmB
                by_cases h4 : 0 ≤ b.f4
                · rw [decide_eq_true h4]
                  simp only [if_true, if_pos (show b.f4 ≥ 0 from h4)]
                  exact Ev_const rfl
                · rw [decide_eq_false h4]
                  simp only [if_true, if_neg (show ¬ b.f4 ≥ 0 from h4)]
                  exact Ev_const rfl
            · rw [decide_eq_false h3]
              simp only [if_true, if_neg (show ¬ ((b.f3.size : Nat) : Int) ≤ 32 by omega)]
              exact Ev_const rfl
        refine Ev_shift 1 (fun k => ?_) key
        rw [ddiref46_may.j0, if_neg (by simp), if_pos (by omega), if_pos (by omega)]
      · rw [decide_eq_false h2]
        refine Ev_shift 1 (f := fun _ => some false) (fun k => ?_) (Ev_const (by simp))
        rw [ddiref46_may.j0, if_neg (by simp), if_pos (by omega), if_neg (by omega)]
    · rw [decide_eq_false h1]
      refine Ev_shift 1 (f := fun _ => some false) (fun k => ?_) (Ev_const (by simp))
      rw [ddiref46_may.j0, if_neg (by simp), if_neg (by omega)]
theorem rwhole_v (p : S31) : ddiref46_whole.f p.f0.f0 p.f0.f1 p.f0.f2 p.f1 = some (lenV p.f0.f0) := by
  unfold ddiref46_whole.f
  cases p.f0.f0 <;> rfl
theorem rmay_ev (b : S60) (hs : szB b) : Ev (fun k => ddiref46_may.f k b.f0.f0.f0 b.f0.f0.f1 b.f0.f0.f2 b.f0.f1 b.f1 b.f2 b.f3 b.f4) (mayV b) := by
  unfold ddiref46_may.f
  by_cases h1 : b.f1 < 1
  · simp only [if_pos h1]
    exact rmay_j b hs true (by unfold kdB; rw [decide_eq_false (by omega)]; rfl)
  · simp only [if_neg h1]
    by_cases h3 : b.f1 > 3
    · simp only [if_pos h3]
      exact rmay_j b hs true (by unfold kdB; rw [decide_eq_false (show ¬ b.f1 ≤ 3 by omega)]; simp)
    · simp only [if_neg h3]
      by_cases h : b.f1 = 3
      · simp only [if_pos h, rwhole_v b.f0, Option.bind_some]
        refine rmay_j b hs _ ?_
        unfold kdB
        rw [decide_eq_true (show 1 ≤ b.f1 by omega), decide_eq_true (show b.f1 ≤ 3 by omega), decide_eq_true h]
        rw [Bool.eq_iff_iff]
        simp
      · simp only [if_neg h]
        refine rmay_j b hs false ?_
        unfold kdB
        rw [decide_eq_true (show 1 ≤ b.f1 by omega), decide_eq_true (show b.f1 ≤ 3 by omega), decide_eq_false h]
        rfl
/-! ### order and overlap -/
def pcm (p q : S31) : Int := if cmp p.f0 q.f0 = 0 then (if p.f1 < q.f1 then -1 else (if p.f1 > q.f1 then 1 else 0)) else cmp p.f0 q.f0
theorem rpcm (p q : S31) : ddiref03_Compare.f p.f0.f0 p.f0.f1 p.f0.f2 p.f1 q.f0.f0 q.f0.f1 q.f0.f2 q.f1 = some (pcm p q) := by
  unfold ddiref03_Compare.f pcm
  rw [rcmp p.f0 q.f0, Option.bind_some]
  split
  · split
    · rfl
    · split <;> rfl
  · rfl
def pin (p q : S31) : Bool := pwB p q && decide (p.f1 > q.f1)
theorem rin_ev (p q : S31) (ok : uA p.f0) : Ev (fun k => ddiref46_in.f k p.f0.f0 p.f0.f1 p.f0.f2 p.f1 q.f0.f0 q.f0.f1 q.f0.f2 q.f1) (pin p q) := by
  unfold ddiref46_in.f pin
  refine Ev_bind (rwithin_pfx p q ok) ?_
  cases pwB p q with
  | true => exact Ev_const rfl
  | false => exact Ev_const rfl
def barB (b o : S60) : Bool := pin b.f0 o.f0 && (decide (o.f1 = 3) || (decide (o.f1 = 2) && (b.f1 != 3)))
theorem rbar_ev (b o : S60) (ok : uA b.f0.f0) : Ev (fun k => ddiref46_barred.f k b.f0.f0.f0 b.f0.f0.f1 b.f0.f0.f2 b.f0.f1 b.f1 b.f2 b.f3 b.f4 o.f0.f0.f0 o.f0.f0.f1 o.f0.f0.f2 o.f0.f1 o.f1 o.f2 o.f3 o.f4) (barB b o) := by
  unfold ddiref46_barred.f barB
  refine Ev_bind (rin_ev b.f0 o.f0 ok) ?_
  cases pin b.f0 o.f0 with
  | false => exact Ev_const rfl
  | true =>
    simp only [if_true, Bool.true_and]
    by_cases h3 : o.f1 = 3
    · simp only [if_pos h3, decide_eq_true h3]
      exact Ev_const rfl
    · simp only [if_neg h3, decide_eq_false h3, Bool.false_or]
      by_cases h2 : o.f1 = 2
      · simp only [if_pos h2, decide_eq_true h2]
        exact Ev_const rfl
      · simp only [if_neg h2, decide_eq_false h2]
        exact Ev_const rfl
/-! ### Check -/
def vB (b : S60) : Bool := pvB b.f0 && mayV b
def TabAt (l : List S60) (q : Nat) (hq : q < l.length) : Prop := vB l[q] = true ∧ (∀ h : 0 < q, pcm (l[q - 1]'(by omega)).f0 l[q].f0 ≤ 0 ∧ eqPfx (l[q - 1]'(by omega)).f0 l[q].f0 = false) ∧ ∀ z (hz : z < q), barB l[q] (l[z]'(by omega)) = false
def okT (l : List S60) : Prop := ∀ b ∈ l, uA b.f0.f0 ∧ szB b
theorem check_l1 (l : List S60) (hl : l.length ≤ 1000000) (ok : okT l) (i : Nat) (hi : i < l.length) (P : Prop) (hK : ∃ c, Ev (fun k => ddiref46_Check.l0 k l ((i + 1 : Nat) : Int)) c ∧ (c = 0 → P)) :
    ∀ (d z : Nat), i - z ≤ d → z ≤ i → ∃ c, Ev (fun k => ddiref46_Check.l1 k l (i : Int) (z : Int)) c ∧ (c = 0 → P ∧ ∀ y (_ : z ≤ y) (hy : y < i), barB l[i] (l[y]'(by omega)) = false)
  | d, z, hd, hz => by
    by_cases h : z < i
    · cases d with
      | zero => exact absurd hd (by omega)
      | succ d =>
        obtain ⟨c, hc, hp⟩ := check_l1 l hl ok i hi P hK d (z + 1) (by omega) (by omega)
        have hb := rbar_ev l[i] (l[z]'(by omega)) (ok _ (List.getElem_mem hi)).1
        cases hbb : barB l[i] (l[z]'(by omega)) with
        | true =>
          refine ⟨24, ?_, fun h => absurd h (by decide)⟩
          rw [hbb] at hb
          refine Ev_shift 1 (fun k => ?_) (Ev_bind (f := fun k t157 => if t157 = true then (some 24) else (ddiref46_Check.l1 k l (i : Int) (wrap64 ((z : Int) + 1)))) hb (Ev_const rfl))
          rw [ddiref46_Check.l1, if_pos (by omega), if_pos (by omega), if_pos (by omega), if_pos (by omega), if_pos (by omega), rdB l i hi, rdB l z (by omega)]
        | false =>
          rw [hbb] at hb
          refine ⟨c, ?_, fun h0 => ⟨(hp h0).1, fun y hy1 hy2 => ?_⟩⟩
          · refine Ev_shift 1 (fun k => ?_) (Ev_bind (f := fun k t157 => if t157 = true then (some 24) else (ddiref46_Check.l1 k l (i : Int) (wrap64 ((z : Int) + 1)))) hb (by simp only [Bool.false_eq_true, if_false, next z l.length (show z < l.length by omega) (by omega)]; exact hc))
            rw [ddiref46_Check.l1, if_pos (by omega), if_pos (by omega), if_pos (by omega), if_pos (by omega), if_pos (by omega), rdB l i hi, rdB l z (by omega)]
          · rcases Nat.eq_or_lt_of_le hy1 with rfl | hy1
            · exact hbb
            · exact (hp h0).2 y (by omega) hy2
    · obtain ⟨c, hc, hp⟩ := hK
      refine ⟨c, Ev_shift 1 (fun k => ?_) hc, fun h0 => ⟨hp h0, fun y _ _ => absurd hd (by omega)⟩⟩
      rw [ddiref46_Check.l1, if_neg (by omega), next i l.length hi (by omega)]
theorem check_from (l : List S60) (hl : l.length ≤ 1000000) (ok : okT l) : ∀ (d i : Nat), l.length - i ≤ d → i ≤ l.length → ∃ c, Ev (fun k => ddiref46_Check.l0 k l (i : Int)) c ∧ (c = 0 → ∀ q (_ : i ≤ q) (hq : q < l.length), TabAt l q hq)
  | d, i, hd, hi => by
    by_cases h : i < l.length
    · cases d with
      | zero => exact absurd hd (by omega)
      | succ d =>
        have hK := check_from l hl ok d (i + 1) (by omega) (by omega)
        obtain ⟨c1, h1, hp1⟩ := check_l1 l hl ok i h _ hK i 0 (by omega) (Nat.zero_le _)
        obtain ⟨hu, hsz⟩ := ok _ (List.getElem_mem h)
        have hv := rvalid_pfx l[i].f0
        have hm := rmay_ev l[i] hsz
        have hG : ∀ k, ddiref46_Check.l0 (k + 1) l (i : Int) = (ddiref03_Valid.f k l[i].f0.f0.f0 l[i].f0.f0.f1 l[i].f0.f0.f2 l[i].f0.f1).bind fun t147 => (if t147 = true then ((ddiref46_may.f k l[i].f0.f0.f0 l[i].f0.f0.f1 l[i].f0.f0.f2 l[i].f0.f1 l[i].f1 l[i].f2 l[i].f3 l[i].f4).bind fun t149 => (if t149 = true then (if (i : Int) > 0 then (if 0 ≤ (wrap64 ((i : Int) - 1)) then (if (wrap64 ((i : Int) - 1)) < (l.length : Int) then ((ddiref03_Compare.f ((rd_T60 l (wrap64 ((i : Int) - 1))).f0.f0.f0) ((rd_T60 l (wrap64 ((i : Int) - 1))).f0.f0.f1) ((rd_T60 l (wrap64 ((i : Int) - 1))).f0.f0.f2) ((rd_T60 l (wrap64 ((i : Int) - 1))).f0.f1) l[i].f0.f0.f0 l[i].f0.f0.f1 l[i].f0.f0.f2 l[i].f0.f1).bind fun t152 => (ddiref46_Check.j1 k l (i : Int) (decide (t152 > 0)))) else (none)) else (none)) else (ddiref46_Check.j1 k l (i : Int) false)) else (some 1))) else (some 3)) := fun k => by
          rw [ddiref46_Check.l0, if_pos (by omega), if_pos (by omega), rdB l i h]
        have hj2 : ∀ k, ddiref46_Check.j2 (k + 1) l (i : Int) false = ddiref46_Check.l1 k l (i : Int) ((0 : Nat) : Int) := fun k => by
          rw [ddiref46_Check.j2, if_neg Bool.false_ne_true]; rfl
        cases hpv : pvB l[i].f0 with
        | false =>
          refine ⟨3, Ev_shift 1 hG (Ev_bind hv ?_), fun h => absurd h (by decide)⟩
          simp only [hpv, Bool.false_eq_true, if_false]
          exact Ev_const rfl
        | true =>
          cases hmv : mayV l[i] with
          | false =>
            refine ⟨1, Ev_shift 1 hG (Ev_bind hv ?_), fun h => absurd h (by decide)⟩
            simp only [hpv, if_true]
            refine Ev_bind hm ?_
            simp only [hmv, Bool.false_eq_true, if_false]
            exact Ev_const rfl
          | true =>
            have hvb : vB l[i] = true := by unfold vB; rw [hpv, hmv]; rfl
            have fin : ∀ r, Ev (fun k => if (i : Int) > 0 then (if 0 ≤ (wrap64 ((i : Int) - 1)) then (if (wrap64 ((i : Int) - 1)) < (l.length : Int) then ((ddiref03_Compare.f ((rd_T60 l (wrap64 ((i : Int) - 1))).f0.f0.f0) ((rd_T60 l (wrap64 ((i : Int) - 1))).f0.f0.f1) ((rd_T60 l (wrap64 ((i : Int) - 1))).f0.f0.f2) ((rd_T60 l (wrap64 ((i : Int) - 1))).f0.f1) l[i].f0.f0.f0 l[i].f0.f0.f1 l[i].f0.f0.f2 l[i].f0.f1).bind fun t152 => (ddiref46_Check.j1 k l (i : Int) (decide (t152 > 0)))) else (none)) else (none)) else (ddiref46_Check.j1 k l (i : Int) false)) r → Ev (fun k => ddiref46_Check.l0 k l (i : Int)) r := fun r hr => by
              refine Ev_shift 1 hG (Ev_bind hv ?_)
              simp only [hpv, if_true]
              refine Ev_bind hm ?_
              simp only [hmv, if_true]
              exact hr
            by_cases h0 : 0 < i
            · have hw : wrap64 ((i : Int) - 1) = ((i - 1 : Nat) : Int) := by rw [wrap_id (by omega) (by omega)]; omega
              have hr1 : rd_T60 l ((i - 1 : Nat) : Int) = l[i - 1]'(by omega) := rdB l (i - 1) (by omega)
              have hcm := rpcm (l[i - 1]'(by omega)).f0 l[i].f0
              simp only [hw, if_pos (show (i : Int) > 0 by omega), if_pos (show 0 ≤ ((i - 1 : Nat) : Int) by omega), if_pos (show ((i - 1 : Nat) : Int) < (l.length : Int) by omega), hr1, hcm, Option.bind_some] at fin
              by_cases hc : pcm (l[i - 1]'(by omega)).f0 l[i].f0 > 0
              · refine ⟨7, fin 7 (Ev_shift 1 (f := fun _ => some 7) (fun k => ?_) (Ev_const rfl)), fun h => absurd h (by decide)⟩
                rw [decide_eq_true hc, ddiref46_Check.j1, if_pos rfl]
              · have hj1 : ∀ k, ddiref46_Check.j1 (k + 1) l (i : Int) (decide (pcm (l[i - 1]'(by omega)).f0 l[i].f0 > 0)) = ddiref46_Check.j2 k l (i : Int) (eqPfx (l[i - 1]'(by omega)).f0 l[i].f0) := fun k => by
                  rw [decide_eq_false hc, ddiref46_Check.j1, if_neg Bool.false_ne_true, hw, if_pos (by omega), if_pos (by omega), if_pos (by omega), if_pos (by omega), if_pos (by omega), hr1, rdB l i h]
                  rfl
                cases he : eqPfx (l[i - 1]'(by omega)).f0 l[i].f0 with
                | true =>
                  refine ⟨12, fin 12 (Ev_shift 2 (f := fun _ => some 12) (fun k => ?_) (Ev_const rfl)), fun h => absurd h (by decide)⟩
                  rw [hj1, he, ddiref46_Check.j2, if_pos rfl]
                | false =>
                  refine ⟨c1, fin c1 (Ev_shift 2 (fun k => ?_) h1), fun hz q hq1 hq2 => ?_⟩
                  · rw [hj1, he, hj2]
                  · rcases Nat.eq_or_lt_of_le hq1 with rfl | hq1
                    · exact ⟨hvb, fun _ => ⟨by omega, he⟩, fun z hz2 => (hp1 hz).2 z (Nat.zero_le _) hz2⟩
                    · exact (hp1 hz).1 q (by omega) hq2
            · obtain rfl : i = 0 := by omega
              have hj1 : ∀ k, ddiref46_Check.j1 (k + 1) l ((0 : Nat) : Int) false = ddiref46_Check.j2 k l ((0 : Nat) : Int) false := fun k => by
                rw [ddiref46_Check.j1, if_neg Bool.false_ne_true, if_neg (by omega)]
              simp only [if_neg (show ¬ (((0 : Nat) : Int) > 0) by omega)] at fin
              refine ⟨c1, fin c1 (Ev_shift 2 (fun k => ?_) h1), fun hz q hq1 hq2 => ?_⟩
              · rw [hj1, hj2]
              · rcases Nat.eq_or_lt_of_le hq1 with rfl | hq1
                · exact ⟨hvb, fun hh => absurd hh (by omega), fun z hz2 => absurd hz2 (by omega)⟩
                · exact (hp1 hz).1 q (by omega) hq2
    · refine ⟨0, Ev_shift 1 (f := fun _ => some 0) (fun k => by rw [ddiref46_Check.l0, if_neg (by omega)]) (Ev_const rfl), fun _ q hq1 hq2 => absurd hq2 (by omega)⟩
theorem rcheck_ev (l : List S60) (hl : l.length ≤ 1000000) (ok : okT l) : ∃ c, Ev (fun k => ddiref46_Check.f k l) c ∧ (c = 0 → l.length ≤ 512 ∧ ∀ q (hq : q < l.length), TabAt l q hq) := by
  unfold ddiref46_Check.f
  by_cases h : (l.length : Int) > 512
  · simp only [if_pos h]
    exact ⟨9, Ev_const rfl, fun h => absurd h (by decide)⟩
  · simp only [if_neg h]
    obtain ⟨c, hc, hp⟩ := check_from l hl ok l.length 0 (by omega) (Nat.zero_le _)
    exact ⟨c, hc, fun h0 => ⟨by omega, fun q hq => hp h0 q (Nat.zero_le _) hq⟩⟩
/-- Whether a space is looked at. -/
theorem right_ev (l : List S60) (hs : List S73) (zs : List ByteArray) (ok : okT l) : ∃ b, Ev (fun k => ddilaw48_right.f k l hs zs) b ∧ (b = true → l.length ≤ 60 ∧ hs.length ≤ 200 ∧ ∀ q (hq : q < l.length), TabAt l q hq) := by
  unfold ddilaw48_right.f
  by_cases h1 : (l.length : Int) ≤ 60
  · by_cases h2 : (hs.length : Int) ≤ 200
    · simp only [if_pos h1, if_pos h2]
      obtain ⟨c, hc, hp⟩ := rcheck_ev l (by omega) ok
      refine ⟨c == 0, Ev_bind hc (Ev_const rfl), fun h => ⟨by omega, by omega, (hp (by simpa using h)).2⟩⟩
    · simp only [if_pos h1, if_neg h2]
      exact ⟨false, Ev_const rfl, fun h => absurd h (by decide)⟩
  · simp only [if_neg h1]
    exact ⟨false, Ev_const rfl, fun h => absurd h (by decide)⟩
end Go.Proofs.Ytjifdgicamlikaa.Ma
namespace Go.Proofs.Ytjifdgicamlikaa.Ma
open Go.RowKit Go.Proofs.YtjifdgicamlikaaW.PrintWords Go.Proofs.YtjifdgicamlikaaW.PrintLast Go.Proofs.YtjifdgicamlikaaW.PrintMore Go.Proofs.Ytjifdgicamlikaa.XP Go.Proofs.Ytjifdgicamlikaa.QA Go.Proofs.Ytjifdgicamlikaa.Cm
set_option linter.unusedVariables false
set_option linter.unusedSimpArgs false
/-! ### order: no prefix twice -/
theorem eqPfx_iff (p q : S31) : eqPfx p q = true ↔ p = q := by
  obtain ⟨⟨a, b, c⟩, d⟩ := p
  obtain ⟨⟨a', b', c'⟩, d'⟩ := q
  simp [eqPfx, and_assoc]
theorem pcm_zero {p q : S31} (h : pcm p q = 0) : p = q := by
  unfold pcm at h
  by_cases hc : cmp p.f0 q.f0 = 0
  · rw [if_pos hc] at h
    have h1 := (cmp_zero _ _).1 hc
    have h2 : p.f1 = q.f1 := by
      split at h
      · cases h
      · split at h
        · cases h
        · omega
    cases p; cases q
    simp only at h1 h2
    rw [h1, h2]
  · rw [if_neg hc] at h
    exact absurd h hc
theorem pcm_trans {p q r : S31} (h1 : pcm p q < 0) (h2 : pcm q r < 0) : pcm p r < 0 := by
  unfold pcm at *
  by_cases a : cmp p.f0 q.f0 = 0
  · have ea := (cmp_zero _ _).1 a
    rw [if_pos a] at h1
    rw [ea]
    by_cases b : cmp q.f0 r.f0 = 0
    · rw [if_pos b] at h2 ⊢
      split at h1
      · split at h2
        · rw [if_pos (by omega)]; decide
        · split at h2 <;> omega
      · split at h1 <;> omega
    · rw [if_neg b] at h2 ⊢
      exact h2
  · rw [if_neg a] at h1
    by_cases b : cmp q.f0 r.f0 = 0
    · have eb := (cmp_zero _ _).1 b
      rw [← eb, if_neg a]
      exact h1
    · rw [if_neg b] at h2
      have := cmp_trans h1 h2
      rw [if_neg (by omega)]
      exact this
theorem pcm_self (p : S31) : pcm p p = 0 := by
  unfold pcm
  rw [if_pos (cmp_self p.f0), if_neg (by omega), if_neg (by omega)]
def Lt (a b : S60) : Prop := pcm a.f0 b.f0 < 0
theorem tab_lt {l : List S60} (h : ∀ q (hq : q < l.length), TabAt l q hq) : l.Pairwise Lt := by
  have key : ∀ (j i : Nat) (hj : j < l.length) (hij : i < j), pcm (l[i]'(by omega)).f0 l[j].f0 < 0 := by
    intro j
    induction j with
    | zero => intro i hj hij; omega
    | succ j ih =>
      intro i hj hij
      obtain ⟨h1, h2⟩ := (h (j + 1) hj).2.1 (by omega)
      have hs : pcm (l[j]'(by omega)).f0 l[j + 1].f0 < 0 := by
        have h1' : pcm (l[j]'(by omega)).f0 l[j + 1].f0 ≤ 0 := h1
        have h2' : eqPfx (l[j]'(by omega)).f0 l[j + 1].f0 = false := h2
        have hne : pcm (l[j]'(by omega)).f0 l[j + 1].f0 ≠ 0 := fun h0 => by
          rw [(eqPfx_iff _ _).2 (pcm_zero h0)] at h2'
          cases h2'
        omega
      rcases Nat.eq_or_lt_of_le (Nat.le_of_lt_succ hij) with rfl | hlt
      · exact hs
      · exact pcm_trans (ih i (by omega) hlt) hs
  exact List.pairwise_iff_getElem.2 (fun i j hi hj hij => key j i hj hij)
theorem lt_inj {l : List S60} (h : l.Pairwise Lt) {a b : S60} (ha : a ∈ l) (hb : b ∈ l) (e : a.f0 = b.f0) : a = b := by
  induction l with
  | nil => cases ha
  | cons x r ih =>
    obtain ⟨h1, h2⟩ := List.pairwise_cons.1 h
    rcases List.mem_cons.1 ha with ea | ha'
    · rcases List.mem_cons.1 hb with eb | hb'
      · rw [ea, eb]
      · have := h1 b hb'
        unfold Lt at this
        rw [← ea, e, pcm_self] at this
        omega
    · rcases List.mem_cons.1 hb with eb | hb'
      · have := h1 a ha'
        unfold Lt at this
        rw [← eb, e, pcm_self] at this
        omega
      · exact ih h2 ha' hb'
/-! ### whether a block can be freed -/
def endB (now : Int) (b : S60) : Bool := !(decide (b.f4 = 0) || decide (b.f4 > now))
def apB (b x : S60) : Bool := eqPfx x.f0 b.f0 || !pwB x.f0 b.f0
def hsB (hs : List S73) (b : S60) : Bool := hs.all (fun h => !pcB b.f0 h.f1)
def freeB (hs : List S73) (now : Int) (l : List S60) (b : S60) : Bool := endB now b && (l.all (apB b) && hsB hs b)
theorem rd73 (l : List S73) (i : Nat) (x : S73) (r : List S73) (h : l.drop i = x :: r) : i < l.length ∧ rd_T73 l (i : Int) = x ∧ l.drop (i + 1) = r := by
  obtain ⟨hi, hx, hr⟩ := drop_at h
  refine ⟨hi, ?_, hr⟩
  simp [rd_T73, List.getD_eq_getElem?_getD, List.getElem?_eq_getElem hi, hx]
theorem host_from (b : S60) (hs : List S73) (hl : hs.length ≤ 140737488351232) : ∀ (r : List S73) (i : Nat), hs.drop i = r → ∃ v : Int, Ev (fun k => slices_IndexFunc_58.l0 k hs (hs.length : Int) (i : Int) b.f0.f0.f0 b.f0.f0.f1 b.f0.f0.f2 b.f0.f1 b.f1 b.f2 b.f3 b.f4) v ∧ decide (v ≥ 0) = !hsB r b
  | [], i, h => by
    have := drop_end h
    exact ⟨-1, Ev_shift 1 (f := fun _ => some (-1)) (fun k => by rw [slices_IndexFunc_58.l0, if_neg (by omega)]) (Ev_const rfl), rfl⟩
  | x :: r, i, h => by
    obtain ⟨hi, hx, hr⟩ := rd73 hs i x r h
    have h1 : Ev (fun k => usage_reclaimable_1.f k x.f0 x.f1.f0 x.f1.f1 x.f1.f2 x.f2 b.f0.f0.f0 b.f0.f0.f1 b.f0.f0.f2 b.f0.f1 b.f1 b.f2 b.f3 b.f4) (pcB b.f0 x.f1) := by
      unfold usage_reclaimable_1.f
      exact Ev_bind (contains_pfx b.f0 x.f1) (Ev_const rfl)
    cases hc : pcB b.f0 x.f1 with
    | true =>
      refine ⟨(i : Int), ?_, ?_⟩
      · refine Ev_shift 1 (fun k => by rw [slices_IndexFunc_58.l0, if_pos (by omega), if_pos (by omega), if_pos (by omega), hx]) ?_
        refine Ev_bind h1 ?_
        simp only [hc, if_true]
        exact Ev_const rfl
      · simp [hsB, hc]
    | false =>
      obtain ⟨v, hv, hd⟩ := host_from b hs hl r (i + 1) hr
      refine ⟨v, ?_, ?_⟩
      · refine Ev_shift 1 (fun k => by rw [slices_IndexFunc_58.l0, if_pos (by omega), if_pos (by omega), if_pos (by omega), hx, next i hs.length hi (by omega)]) ?_
        refine Ev_bind h1 ?_
        simp only [hc, Bool.false_eq_true, if_false]
        exact hv
      · rw [hd]
        simp [hsB, hc]
theorem ne_pfx (p q : S31) : ((!(p.f0.f0 == q.f0.f0) || (!(p.f0.f1 == q.f0.f1) || (!(p.f0.f2 == q.f0.f2)))) || (!(p.f1 == q.f1))) = !eqPfx p q := by
  unfold eqPfx
  simp only [Bool.not_and]
theorem recl_from (b : S60) (l : List S60) (hs : List S73) (zs : List ByteArray) (hl : l.length ≤ 140737488351232) (hh : hs.length ≤ 140737488351232) : ∀ (r : List S60) (i : Nat), l.drop i = r → Ev (fun k => usage_reclaimable.l0 k l (l.length : Int) (i : Int) l hs zs b.f0.f0.f0 b.f0.f0.f1 b.f0.f0.f2 b.f0.f1 b.f1 b.f2 b.f3 b.f4) (r.all (apB b) && hsB hs b)
  | [], i, h => by
    have := drop_end h
    obtain ⟨v, hv, hd⟩ := host_from b hs hh hs 0 rfl
    refine Ev_shift 1 (fun k => by rw [usage_reclaimable.l0, if_neg (by omega)]) ?_
    refine Ev_bind (a := !hsB hs b) ?_ ?_
    · unfold slices_ContainsFunc_58.f slices_IndexFunc_58.f
      refine Ev_bind hv ?_
      rw [hd]
      exact Ev_const rfl
    · rw [Bool.not_not]
      exact Ev_const rfl
  | x :: r, i, h => by
    obtain ⟨hi, hx, hr⟩ := rd60 l i x r h
    have ih := recl_from b l hs zs hl hh r (i + 1) hr
    have nf : ∀ k, usage_reclaimable.j2 (k + 1) l (l.length : Int) (i : Int) false l hs zs b.f0.f0.f0 b.f0.f0.f1 b.f0.f0.f2 b.f0.f1 b.f1 b.f2 b.f3 b.f4 = usage_reclaimable.l0 k l (l.length : Int) ((i + 1 : Nat) : Int) l hs zs b.f0.f0.f0 b.f0.f0.f1 b.f0.f0.f2 b.f0.f1 b.f1 b.f2 b.f3 b.f4 := fun k => by
      rw [usage_reclaimable.j2, if_neg Bool.false_ne_true, next i l.length hi (by omega)]
    refine Ev_shift 1 (fun k => by rw [usage_reclaimable.l0, if_pos (by omega), if_pos (by omega), if_pos (by omega), hx, ne_pfx]) ?_
    cases he : eqPfx x.f0 b.f0 with
    | true =>
      simp only [Bool.not_true, Bool.false_eq_true, if_false]
      have e : (x :: r).all (apB b) = r.all (apB b) := by simp [apB, he]
      rw [e]
      exact Ev_shift 1 nf ih
    | false =>
      simp only [Bool.not_false, if_true]
      refine Ev_bind (within_pfx x.f0 b.f0) ?_
      cases hw : pwB x.f0 b.f0 with
      | true =>
        have e : (x :: r).all (apB b) = false := by simp [apB, he, hw]
        rw [e]
        exact Ev_shift 1 (f := fun _ => some false) (fun k => by rw [usage_reclaimable.j2, if_pos rfl]) (Ev_const rfl)
      | false =>
        have e : (x :: r).all (apB b) = r.all (apB b) := by simp [apB, he, hw]
        rw [e]
        exact Ev_shift 1 nf ih
theorem recl_ev (b : S60) (l : List S60) (hs : List S73) (zs : List ByteArray) (now : Int) (hl : l.length ≤ 140737488351232) (hh : hs.length ≤ 140737488351232) : Ev (fun k => usage_reclaimable.f k l hs zs b.f0.f0.f0 b.f0.f0.f1 b.f0.f0.f2 b.f0.f1 b.f1 b.f2 b.f3 b.f4 now) (freeB hs now l b) := by
  have hj : ∀ x : Bool, x = !endB now b → Ev (fun k => usage_reclaimable.j0 k x l hs zs b.f0.f0.f0 b.f0.f0.f1 b.f0.f0.f2 b.f0.f1 b.f1 b.f2 b.f3 b.f4) (freeB hs now l b) := fun x hx => by
    unfold freeB
    cases he : endB now b with
    | true =>
      rw [he] at hx; subst hx
      refine Ev_shift 1 (fun k => ?_) (recl_from b l hs zs hl hh l 0 rfl)
      rw [usage_reclaimable.j0, if_neg (by simp)]
      rfl
    | false =>
      rw [he] at hx; subst hx
      exact Ev_shift 1 (f := fun _ => some false) (fun k => by rw [usage_reclaimable.j0, if_pos (by rfl)]) (Ev_const rfl)
  unfold usage_reclaimable.f
  by_cases h0 : b.f4 = 0
  · simp only [if_pos h0]
    exact hj true (by unfold endB; rw [decide_eq_true h0]; rfl)
  · simp only [if_neg h0]
    exact hj _ (by unfold endB; rw [decide_eq_false h0, Bool.not_not]; rfl)
/-! ### Reclaimable -/
def rclV (hs : List S73) (now : Int) (l : List S60) : List S31 := (l.filter (freeB hs now l)).map (·.f0)
theorem rcl_from (l : List S60) (hs : List S73) (zs : List ByteArray) (now : Int) (hl : l.length ≤ 1000000) (hh : hs.length ≤ 140737488351232) : ∀ (r : List S60) (i : Nat) (acc : List S31), l.drop i = r → acc.length ≤ i → Ev (fun k => usage_Reclaimable.l0 k now acc l (l.length : Int) (i : Int) l hs zs) (acc ++ (r.filter (freeB hs now l)).map (·.f0))
  | [], i, acc, h, _ => by
    have := drop_end h
    refine Ev_shift 1 (f := fun _ => some acc) (fun k => by rw [usage_Reclaimable.l0, if_neg (by omega)]) (Ev_const (by simp))
  | x :: r, i, acc, h, ha => by
    obtain ⟨hi, hx, hr⟩ := rd60 l i x r h
    refine Ev_shift 1 (fun k => by rw [usage_Reclaimable.l0, if_pos (by omega), if_pos (by omega), if_pos (by omega), hx, next i l.length hi (by omega)]) ?_
    refine Ev_bind (recl_ev x l hs zs now (by omega) hh) ?_
    cases hf : freeB hs now l x with
    | true =>
      have ih := rcl_from l hs zs now hl hh r (i + 1) (acc ++ [x.f0]) hr (by rw [List.length_append, List.length_singleton]; omega)
      rw [List.filter_cons_of_pos hf, List.map_cons]
      rw [List.append_assoc] at ih
      simp only [if_true, if_pos (show acc.length < 4398046511104 by omega)]
      exact ih
    | false =>
      have ih := rcl_from l hs zs now hl hh r (i + 1) acc hr (by omega)
      rw [List.filter_cons_of_neg (by rw [hf]; simp)]
      simp only [Bool.false_eq_true, if_false]
      exact ih
theorem rcl_ev (l : List S60) (hs : List S73) (zs : List ByteArray) (now : Int) (hl : l.length ≤ 1000000) (hh : hs.length ≤ 140737488351232) : Ev (fun k => usage_Reclaimable.f k l hs zs now) (rclV hs now l) := by
  unfold usage_Reclaimable.f
  exact rcl_from l hs zs now hl hh l 0 [] rfl (Nat.le_refl _)
/-! ### DeleteFunc -/
def delB (ps : List S31) (b : S60) : Bool := ps.any (fun q => eqPfx b.f0 q)
theorem con_from (b : S60) (ps : List S31) (hl : ps.length ≤ 140737488351232) : ∀ (r : List S31) (i : Nat), ps.drop i = r → ∃ v : Int, Ev (fun k => slices_Index.l0 k ps (ps.length : Int) (i : Int) b.f0.f0.f0 b.f0.f0.f1 b.f0.f0.f2 b.f0.f1) v ∧ decide (v ≥ 0) = delB r b
  | [], i, h => by
    have := drop_end h
    exact ⟨-1, Ev_shift 1 (f := fun _ => some (-1)) (fun k => by rw [slices_Index.l0, if_neg (by omega)]) (Ev_const rfl), rfl⟩
  | q :: r, i, h => by
    obtain ⟨hi, hx, hr⟩ := rd31 ps i q r h
    have he : ((b.f0.f0.f0 == q.f0.f0 && (b.f0.f0.f1 == q.f0.f1 && (b.f0.f0.f2 == q.f0.f2))) && (b.f0.f1 == q.f1)) = eqPfx b.f0 q := rfl
    cases hc : eqPfx b.f0 q with
    | true =>
      refine ⟨(i : Int), Ev_shift 1 (f := fun _ => some (i : Int)) (fun k => ?_) (Ev_const rfl), by simp [delB, hc]⟩
      rw [slices_Index.l0, if_pos (by omega), if_pos (by omega), if_pos (by omega), hx, he, hc, if_pos rfl]
    | false =>
      obtain ⟨v, hv, hd⟩ := con_from b ps hl r (i + 1) hr
      refine ⟨v, Ev_shift 1 (fun k => ?_) hv, by rw [hd]; simp [delB, hc]⟩
      rw [slices_Index.l0, if_pos (by omega), if_pos (by omega), if_pos (by omega), hx, he, hc, if_neg Bool.false_ne_true, next i ps.length hi (by omega)]
theorem del_ev (b : S60) (ps : List S31) (hl : ps.length ≤ 140737488351232) : Ev (fun k => usage_Reclaim_1.f k b.f0.f0.f0 b.f0.f0.f1 b.f0.f0.f2 b.f0.f1 b.f1 b.f2 b.f3 b.f4 ps) (delB ps b) := by
  obtain ⟨v, hv, hd⟩ := con_from b ps hl ps 0 rfl
  unfold usage_Reclaim_1.f
  refine Ev_bind (a := delB ps b) ?_ (Ev_const rfl)
  unfold slices_Contains.f slices_Index.f
  refine Ev_bind hv ?_
  rw [hd]
  exact Ev_const rfl
theorem first_from (ps : List S31) (hp : ps.length ≤ 140737488351232) (l : List S60) (hl : l.length ≤ 140737488351232) : ∀ (r : List S60) (i : Nat), l.drop i = r →
    (r.filter (fun b => !delB ps b) = r ∧ Ev (fun k => slices_IndexFunc_34.l0 k l (l.length : Int) (i : Int) ps) (-1)) ∨ ∃ j : Nat, i ≤ j ∧ j < l.length ∧ (l.drop i).take (j - i) = ((l.drop i).take (j + 1 - i)).filter (fun b => !delB ps b) ∧ Ev (fun k => slices_IndexFunc_34.l0 k l (l.length : Int) (i : Int) ps) (j : Int)
  | [], i, h => by
    have := drop_end h
    exact .inl ⟨rfl, Ev_shift 1 (f := fun _ => some (-1)) (fun k => by rw [slices_IndexFunc_34.l0, if_neg (by omega)]) (Ev_const rfl)⟩
  | x :: r, i, h => by
    obtain ⟨hi, hx, hr⟩ := rd60 l i x r h
    cases hd : delB ps x with
    | true =>
      refine .inr ⟨i, Nat.le_refl _, hi, ?_, ?_⟩
      · rw [h, Nat.sub_self, show i + 1 - i = 1 by omega]
        simp [hd]
      · refine Ev_shift 1 (fun k => by rw [slices_IndexFunc_34.l0, if_pos (by omega), if_pos (by omega), if_pos (by omega), hx]) ?_
        refine Ev_bind (del_ev x ps hp) ?_
        simp only [hd, if_true]
        exact Ev_const rfl
    | false =>
      have step : ∀ v, Ev (fun k => slices_IndexFunc_34.l0 k l (l.length : Int) ((i + 1 : Nat) : Int) ps) v → Ev (fun k => slices_IndexFunc_34.l0 k l (l.length : Int) (i : Int) ps) v := fun v hv => by
        refine Ev_shift 1 (fun k => by rw [slices_IndexFunc_34.l0, if_pos (by omega), if_pos (by omega), if_pos (by omega), hx, next i l.length hi (by omega)]) ?_
        refine Ev_bind (del_ev x ps hp) ?_
        simp only [hd, Bool.false_eq_true, if_false]
        exact hv
      rcases first_from ps hp l hl r (i + 1) hr with ⟨h1, h2⟩ | ⟨j, h1, h2, h3, h4⟩
      · exact .inl ⟨by rw [List.filter_cons_of_pos (by rw [hd]; rfl), h1], step _ h2⟩
      · refine .inr ⟨j, by omega, h2, ?_, step _ h4⟩
        rw [hr] at h3
        rw [h, show j - i = (j - (i + 1)) + 1 by omega, show j + 1 - i = (j + 1 - (i + 1)) + 1 by omega, List.take_succ_cons, List.take_succ_cons, List.filter_cons_of_pos (by rw [hd]; rfl), h3]
theorem delf_from (ps : List S31) (hp : ps.length ≤ 140737488351232) (l : List S60) (hl : l.length ≤ 1000000) : ∀ (d rd w : Nat) (x : List S60), l.length - rd ≤ d → rd ≤ l.length → w ≤ rd → x.length = l.length → x.drop rd = l.drop rd → x.take w = (l.take rd).filter (fun b => !delB ps b) → Ev (fun k => slices_DeleteFunc_34.l0 k x (w : Int) (rd : Int) ps) (l.filter (fun b => !delB ps b))
  | d, rd, w, x, hd, hrd, hw, hx, h1, h2 => by
    by_cases h : rd < l.length
    · cases d with
      | zero => exact absurd hd (by omega)
      | succ d =>
        have hxr : rd < x.length := by omega
        have e0 : x[rd] = l[rd] := by
          have := List.drop_eq_getElem_cons hxr
          rw [h1, List.drop_eq_getElem_cons h] at this
          injection this with h3 _
          exact h3.symm
        have hd1 : x.drop (rd + 1) = l.drop (rd + 1) := by
          have := List.drop_eq_getElem_cons hxr
          rw [h1, List.drop_eq_getElem_cons h] at this
          injection this with _ h3
          exact h3.symm
        refine Ev_shift 1 (fun k => by rw [slices_DeleteFunc_34.l0, if_pos (by omega), if_pos (by omega), rdB x rd hxr, next rd l.length h (by omega)]) ?_
        refine Ev_bind (del_ev x[rd] ps hp) ?_
        cases hde : delB ps x[rd] with
        | true =>
          simp only [if_true]
          refine delf_from ps hp l hl d (rd + 1) w x (by omega) (by omega) (by omega) hx hd1 ?_
          rw [List.take_succ_eq_append_getElem h, List.filter_append, ← h2, ← e0, List.filter_cons_of_neg (by rw [hde]; simp)]
          simp
        | false =>
          simp only [Bool.false_eq_true, if_false, if_pos (show 0 ≤ ((w : Nat) : Int) by omega), if_pos (show ((w : Nat) : Int) < (x.length : Int) by omega), next w l.length (by omega) (by omega), Int.toNat_natCast]
          refine delf_from ps hp l hl d (rd + 1) (w + 1) _ (by omega) (by omega) (by omega) (by rw [List.length_set]; exact hx) ?_ ?_
          · rw [List.drop_set_of_lt (by omega)]
            exact hd1
          · rw [List.take_succ_eq_append_getElem (by rw [List.length_set]; omega), List.take_set_of_le (Nat.le_refl _), h2, List.getElem_set_self, List.take_succ_eq_append_getElem h, List.filter_append, ← e0, List.filter_cons_of_pos (by rw [hde]; rfl)]
            rfl
    · refine Ev_shift 1 (f := fun _ => some (l.filter (fun b => !delB ps b))) (fun k => ?_) (Ev_const rfl)
      have hw2 : w ≤ x.length := by omega
      rw [slices_DeleteFunc_34.l0, if_neg (by omega), if_pos (by omega), if_pos (by omega), Int.toNat_natCast, List.take_append_of_le_length (by rw [List.length_take]; omega), List.take_take, Nat.min_self, h2, List.take_of_length_le (by omega)]
theorem delf_ev (ps : List S31) (hp : ps.length ≤ 140737488351232) (l : List S60) (hl : l.length ≤ 1000000) : Ev (fun k => slices_DeleteFunc_34.f k l ps) (l.filter (fun b => !delB ps b)) := by
  unfold slices_DeleteFunc_34.f slices_IndexFunc_34.f
  rcases first_from ps hp l (by omega) l 0 rfl with ⟨h1, h2⟩ | ⟨j, _, h2, h3, h4⟩
  · refine Ev_bind h2 ?_
    simp only [if_true, h1]
    exact Ev_const rfl
  · refine Ev_bind h4 ?_
    simp only [if_neg (show ¬ ((j : Nat) : Int) = -1 by omega), next j l.length h2 (by omega)]
    rw [List.drop_zero, Nat.sub_zero, Nat.sub_zero] at h3
    exact delf_from ps hp l hl l.length (j + 1) j l (by omega) (by omega) (by omega) rfl rfl h3
end Go.Proofs.Ytjifdgicamlikaa.Ma
namespace Go.Proofs.Ytjifdgicamlikaa.Ma
open Go.RowKit Go.Proofs.YtjifdgicamlikaaW.PrintWords Go.Proofs.YtjifdgicamlikaaW.PrintLast Go.Proofs.YtjifdgicamlikaaW.PrintMore Go.Proofs.Ytjifdgicamlikaa.XP Go.Proofs.Ytjifdgicamlikaa.QA Go.Proofs.Ytjifdgicamlikaa.Cm
set_option linter.unusedVariables false
set_option linter.unusedSimpArgs false
theorem okB_of {l : List S60} {hs : List S73} {zs : List ByteArray} (h : okS26 (⟨l, hs, zs⟩ : S26)) : l.length ≤ 1759218604440 ∧ okT l ∧ (∀ b ∈ l, okS60 b) ∧ (∀ x ∈ hs, okS73 x) := by
  obtain ⟨⟨h1, _, h2⟩, ⟨_, _, h3⟩, _⟩ := h
  exact ⟨by simp only at h1; omega, fun b hb => ⟨uA_of (h2 b hb).1.1, (h2 b hb).2.2.1, (h2 b hb).2.2.2.1⟩, h2, h3⟩
end Go.Proofs.Ytjifdgicamlikaa.Ma
namespace Go.Proofs.Ytjifdgicamlikaa.Ma
open Go.RowKit Go.Proofs.YtjifdgicamlikaaW.PrintWords Go.Proofs.YtjifdgicamlikaaW.PrintLast Go.Proofs.YtjifdgicamlikaaW.PrintMore Go.Proofs.Ytjifdgicamlikaa.XP Go.Proofs.Ytjifdgicamlikaa.QA Go.Proofs.Ytjifdgicamlikaa.Cm
set_option linter.unusedVariables false
set_option linter.unusedSimpArgs false
def stepB (hs : List S73) (now : Int) (l : List S60) : List S60 := l.filter (fun b => !freeB hs now l b)
def recl (hs : List S73) (now : Int) : Nat → List S60 → List S60
  | 0, l => l
  | n + 1, l => recl hs now n (stepB hs now l)
theorem step_sub (hs : List S73) (now : Int) (l : List S60) : (stepB hs now l).Sublist l := List.filter_sublist
theorem step_len (hs : List S73) (now : Int) (l : List S60) : (stepB hs now l).length + (l.filter (freeB hs now l)).length = l.length := by
  unfold stepB
  generalize freeB hs now l = f
  induction l with
  | nil => rfl
  | cons x r ih =>
    cases h : f x with
    | true => rw [List.filter_cons_of_neg (by rw [h]; simp), List.filter_cons_of_pos h, List.length_cons, List.length_cons]; omega
    | false => rw [List.filter_cons_of_pos (by rw [h]; rfl), List.filter_cons_of_neg (by rw [h]; simp), List.length_cons, List.length_cons]; omega
theorem step_fix {hs : List S73} {now : Int} {l : List S60} (h : l.filter (freeB hs now l) = []) : stepB hs now l = l := by
  have := step_len hs now l
  rw [h, List.length_nil] at this
  exact (step_sub hs now l).eq_of_length (by omega)
theorem recl_fix {hs : List S73} {now : Int} {l : List S60} (h : stepB hs now l = l) : ∀ n, recl hs now n l = l
  | 0 => rfl
  | n + 1 => by rw [recl, h]; exact recl_fix h n
theorem recl_end (hs : List S73) (now : Int) : ∀ (n : Nat) (l : List S60), l.length ≤ n → (recl hs now n l).filter (freeB hs now (recl hs now n l)) = []
  | 0, l, h => by
    obtain rfl := List.eq_nil_of_length_eq_zero (show l.length = 0 by omega)
    rfl
  | n + 1, l, h => by
    by_cases hf : l.filter (freeB hs now l) = []
    · rw [recl_fix (step_fix hf)]
      exact hf
    · have h1 := step_len hs now l
      have h2 : 0 < (l.filter (freeB hs now l)).length := List.length_pos_iff.2 hf
      rw [recl]
      exact recl_end hs now n (stepB hs now l) (by omega)
theorem recl_sub (hs : List S73) (now : Int) : ∀ (n : Nat) (l : List S60), (recl hs now n l).Sublist l
  | 0, l => List.Sublist.refl l
  | n + 1, l => (recl_sub hs now n _).trans (step_sub hs now l)
theorem del_free {hs : List S73} {now : Int} {l : List S60} (hL : l.Pairwise Lt) {b : S60} (hb : b ∈ l) : delB (rclV hs now l) b = freeB hs now l b := by
  rw [Bool.eq_iff_iff]
  unfold delB rclV
  rw [List.any_eq_true]
  constructor
  · rintro ⟨q, hq, he⟩
    obtain ⟨b', hb', rfl⟩ := List.mem_map.1 hq
    obtain ⟨h1, h2⟩ := List.mem_filter.1 hb'
    have := lt_inj hL hb h1 ((eqPfx_iff _ _).1 he)
    rw [this]
    exact h2
  · exact fun h => ⟨b.f0, List.mem_map.2 ⟨b, List.mem_filter.2 ⟨hb, h⟩, rfl⟩, (eqPfx_iff _ _).2 rfl⟩
theorem reclaim_ev (now : Int) (L0 : List S60) (h0 hs : List S73) (z0 zs : List ByteArray) (hh : hs.length ≤ 140737488351232) : ∀ (n : Nat) (l : List S60), l.length ≤ n → n ≤ 1000000 → l.Pairwise Lt → Ev (fun k => usage_Reclaim.l0 k now L0 h0 z0 l hs zs) (recl hs now n l, hs, zs, wrap64 ((L0.length : Int) - ((recl hs now n l).length : Int)))
  | n, l, hn, hm, hL => by
    refine Ev_shift 1 (fun k => by rw [usage_Reclaim.l0]) ?_
    refine Ev_bind (rcl_ev l hs zs now (by omega) hh) ?_
    by_cases hf : l.filter (freeB hs now l) = []
    · have e : (rclV hs now l).length = 0 := by unfold rclV; rw [hf]; rfl
      simp only [e, Int.natCast_zero, if_true, recl_fix (step_fix hf)]
      exact Ev_const rfl
    · have h1 := step_len hs now l
      have h2 : 0 < (l.filter (freeB hs now l)).length := List.length_pos_iff.2 hf
      have e : (rclV hs now l).length = (l.filter (freeB hs now l)).length := by unfold rclV; rw [List.length_map]
      have e2 : l.filter (fun b => !delB (rclV hs now l) b) = stepB hs now l := List.filter_congr (fun b hb => by rw [del_free hL hb])
      simp only [if_neg (show ¬ (((rclV hs now l).length : Nat) : Int) = 0 by omega)]
      refine Ev_bind (delf_ev (rclV hs now l) (by have := List.length_filter_le (freeB hs now l) l; omega) l (by omega)) ?_
      rw [e2]
      cases n with
      | zero => exact absurd hn (by omega)
      | succ n =>
        have := reclaim_ev now L0 h0 hs z0 zs hh n (stepB hs now l) (by omega) (by omega) (hL.sublist (step_sub hs now l))
        exact this
/-! ### the reference -/
def okH (hs : List S73) : Prop := ∀ x ∈ hs, uA x.f1
/-! ### equal spaces -/
theorem okS_more {l : List S60} {hs : List S73} {zs : List ByteArray} (h : okS26 (⟨l, hs, zs⟩ : S26)) : (l.length * 80 ≤ 140737488351232 ∧ hs.length * 48 ≤ 140737488351232 ∧ zs.length * 16 ≤ 140737488351232) ∧ okH hs := by
  obtain ⟨⟨h1, _, _⟩, ⟨h4, _, h3⟩, h5, _⟩ := h
  exact ⟨⟨h1, h4, h5⟩, fun x hx => uA_of (h3 x hx).2.1⟩
theorem reclaim_all (l : List S60) (hs : List S73) (zs : List ByteArray) (now : Int) (hS : okS26 (⟨l, hs, zs⟩ : S26)) (h60 : l.length ≤ 60) (hL : l.Pairwise Lt) : Ev (fun k => usage_Reclaim.f k l hs zs now) (recl hs now l.length l, hs, zs, wrap64 ((l.length : Int) - ((recl hs now l.length l).length : Int))) := by
  obtain ⟨⟨h1, h2, h3⟩, _⟩ := okS_more hS
  unfold usage_Reclaim.f slices_Clone_30.f slices_Clone_31.f slices_Clone_32.f
  simp only [if_pos (show l.length * 80 ≤ 140737488355328 by omega), if_pos (show hs.length * 48 ≤ 140737488355328 by omega), if_pos (show zs.length * 16 ≤ 140737488355328 by omega), Option.bind_some]
  exact reclaim_ev now l hs hs zs zs (by omega) l.length l (Nat.le_refl _) (by omega) hL
end Go.Proofs.Ytjifdgicamlikaa.Ma
namespace Go.Proofs.Ytjifdgicamlikaa.Ma
open Go.RowKit Go.Proofs.YtjifdgicamlikaaW.PrintWords Go.Proofs.YtjifdgicamlikaaW.PrintLast Go.Proofs.YtjifdgicamlikaaW.PrintMore Go.Proofs.Ytjifdgicamlikaa.XP Go.Proofs.Ytjifdgicamlikaa.QA Go.Proofs.Ytjifdgicamlikaa.Cm
set_option linter.unusedVariables false
set_option linter.unusedSimpArgs false
/-! ### a block by itself -/
theorem vis_from (s : ByteArray) (hs : s.size ≤ 140737488351232) : ∀ (r : List UInt8) (i : Nat), s.data.toList.drop i = r → Ev (fun k => blocks_visible.l0 k s (s.size : Int) (i : Int)) (r.all visB)
  | [], i, h => by
    have := size_end s i h
    exact Ev_shift 1 (f := fun _ => some true) (fun k => by rw [blocks_visible.l0, if_neg (by omega)]) (Ev_const rfl)
  | c :: r, i, h => by
    obtain ⟨hi, hb, hr⟩ := bt_at_drop s i c r h
    have ih := vis_from s hs r (i + 1) hr
    by_cases h1 : (c.toNat : Int) < 33
    · have e : (c :: r).all visB = false := by simp [visB, h1]
      rw [e]
      refine Ev_shift 2 (f := fun _ => some false) (fun k => ?_) (Ev_const rfl)
      rw [blocks_visible.l0, if_pos (by omega), if_pos (by omega), if_pos (by omega), hb, if_pos h1, blocks_visible.j2, if_pos rfl]
    · by_cases h2 : (c.toNat : Int) > 126
      · have e : (c :: r).all visB = false := by
          have : visB c = false := by unfold visB; rw [decide_eq_true h2]; simp
          simp [this]
        rw [e]
        refine Ev_shift 2 (f := fun _ => some false) (fun k => ?_) (Ev_const rfl)
        rw [blocks_visible.l0, if_pos (by omega), if_pos (by omega), if_pos (by omega), hb, if_neg h1, decide_eq_true h2, blocks_visible.j2, if_pos rfl]
      · have e : (c :: r).all visB = r.all visB := by
          have : visB c = true := by unfold visB; rw [decide_eq_false h1, decide_eq_false h2]; rfl
          simp [this]
        rw [e]
        refine Ev_shift 2 (fun k => ?_) ih
        rw [blocks_visible.l0, if_pos (by omega), if_pos (by omega), if_pos (by omega), hb, if_neg h1, decide_eq_false h2, blocks_visible.j2, if_neg Bool.false_ne_true, next i s.size hi (by omega)]
theorem vis_ok (s : ByteArray) (lo hi : Nat) (hs : s.size ≤ 140737488351232) (h : strB lo hi s = true) : Ev (fun k => blocks_visible.f k s (lo : Int) (hi : Int)) true := by
  unfold strB at h
  obtain ⟨h1, h2⟩ := Bool.and_eq_true_iff.1 h
  obtain ⟨h2, h3⟩ := Bool.and_eq_true_iff.1 h2
  have h1 := of_decide_eq_true h1
  have h2 := of_decide_eq_true h2
  unfold blocks_visible.f
  have := vis_from s hs s.data.toList 0 rfl
  rw [h3] at this
  simp only [if_neg (show ¬ ((s.size : Nat) : Int) < (lo : Int) by omega), decide_eq_false (show ¬ ((s.size : Nat) : Int) > (hi : Int) by omega)]
  refine Ev_shift 1 (fun k => ?_) this
  rw [blocks_visible.j0, if_neg Bool.false_ne_true]
  rfl
theorem bwhole_v (p : S31) : blocks_whole.f p.f0.f0 p.f0.f1 p.f0.f2 p.f1 = some (lenV p.f0.f0) := by
  unfold blocks_whole.f
  cases p.f0.f0 <;> rfl
theorem fault_ok (b : S60) (hs : szB b) (h : vB b = true) : Ev (fun k => blocks_fault.f k b.f0.f0.f0 b.f0.f0.f1 b.f0.f0.f2 b.f0.f1 b.f1 b.f2 b.f3 b.f4) 0 := by
  unfold vB mayV at h
  obtain ⟨hv, h⟩ := Bool.and_eq_true_iff.1 h
  obtain ⟨hk, h⟩ := Bool.and_eq_true_iff.1 h
  obtain ⟨h2, h⟩ := Bool.and_eq_true_iff.1 h
  obtain ⟨h3, h4⟩ := Bool.and_eq_true_iff.1 h
  unfold kdB at hk
  obtain ⟨k1, hk⟩ := Bool.and_eq_true_iff.1 hk
  obtain ⟨k2, k3⟩ := Bool.and_eq_true_iff.1 hk
  have k1 := of_decide_eq_true k1
  have k2 := of_decide_eq_true k2
  unfold tmB at h4
  obtain ⟨t1, t2⟩ := Bool.and_eq_true_iff.1 h4
  have t1 := of_decide_eq_true t1
  have t2 := of_decide_eq_true t2
  have hj : Ev (fun k => blocks_fault.j0 k false b.f0.f0.f0 b.f0.f0.f1 b.f0.f0.f2 b.f0.f1 b.f1 b.f2 b.f3 b.f4) 0 := by
    refine Ev_shift 1 (fun k => by rw [blocks_fault.j0, if_neg Bool.false_ne_true]) ?_
    refine Ev_bind (vis_ok b.f2 1 63 hs.1 h2) ?_
    simp only [if_true]
    refine Ev_bind (vis_ok b.f3 0 32 hs.2 h3) ?_
    simp only [if_true, if_neg (show ¬ b.f4 < 0 by omega), decide_eq_false (show ¬ b.f4 > 4294967295 by omega)]
    exact Ev_shift 1 (f := fun _ => some 0) (fun k => by rw [blocks_fault.j1, if_neg Bool.false_ne_true]) (Ev_const rfl)
  unfold blocks_fault.f
  refine Ev_bind (valid_pfx b.f0) ?_
  simp only [hv, if_true, if_neg (show ¬ b.f1 < 1 by omega), if_neg (show ¬ b.f1 > 3 by omega)]
  by_cases h3 : b.f1 = 3
  · simp only [if_pos h3, bwhole_v b.f0, Option.bind_some]
    rw [decide_eq_true h3, Bool.not_true, Bool.false_or] at k3
    have e : (b.f0.f1 != lenV b.f0.f0.f0) = false := by rw [of_decide_eq_true k3]; simp
    simp only [e]
    exact hj
  · simp only [if_neg h3]
    exact hj
/-! ### order and place -/
theorem upcm (p q : S31) : Ev (fun k => prefix_Compare.f k p.f0.f0 p.f0.f1 p.f0.f2 p.f1 q.f0.f0 q.f0.f1 q.f0.f2 q.f1) (pcm p q) := by
  unfold prefix_Compare.f
  refine Ev_bind (ucmp p.f0 q.f0) ?_
  unfold pcm
  by_cases h : cmp p.f0 q.f0 = 0
  · simp only [if_pos h]
    by_cases h1 : p.f1 < q.f1
    · simp only [if_pos h1]; exact Ev_const rfl
    · by_cases h2 : p.f1 > q.f1
      · simp only [if_neg h1, if_pos h2]; exact Ev_const rfl
      · simp only [if_neg h1, if_neg h2]; exact Ev_const rfl
  · simp only [if_neg h]; exact Ev_const rfl
theorem pcm_flip {p q : S31} (h : pcm p q < 0) : pcm q p > 0 := by
  unfold pcm at *
  have hf := cmp_flip p.f0 q.f0
  by_cases a : cmp p.f0 q.f0 = 0
  · rw [if_pos a] at h
    rw [if_pos (show cmp q.f0 p.f0 = 0 by omega)]
    split at h
    · rw [if_neg (by omega), if_pos (by omega)]; decide
    · split at h <;> omega
  · rw [if_neg a] at h
    rw [if_neg (show ¬ cmp q.f0 p.f0 = 0 by omega)]
    omega
theorem lies_ev (p q : S31) : Ev (fun k => blocks_lies.f k p.f0.f0 p.f0.f1 p.f0.f2 p.f1 q.f0.f0 q.f0.f1 q.f0.f2 q.f1) (pin p q) := by
  unfold blocks_lies.f pin
  by_cases h : p.f1 > q.f1
  · simp only [if_pos h, decide_eq_true h, Bool.and_true]
    exact Ev_bind (within_pfx p q) (Ev_const rfl)
  · simp only [if_neg h, decide_eq_false h, Bool.and_false]
    exact Ev_const rfl
theorem mis1_ev (o b : S60) (ho : kdB o = true) : Ev (fun k => blocks_misplaced_1.f k o.f0.f0.f0 o.f0.f0.f1 o.f0.f0.f2 o.f0.f1 o.f1 o.f2 o.f3 o.f4 b.f0.f0.f0 b.f0.f0.f1 b.f0.f0.f2 b.f0.f1 b.f1 b.f2 b.f3 b.f4) (barB b o) := by
  unfold kdB at ho
  obtain ⟨k1, hk⟩ := Bool.and_eq_true_iff.1 ho
  obtain ⟨k2, _⟩ := Bool.and_eq_true_iff.1 hk
  have k1 := of_decide_eq_true k1
  have k2 := of_decide_eq_true k2
  unfold blocks_misplaced_1.f barB
  refine Ev_bind (lies_ev b.f0 o.f0) ?_
  cases pin b.f0 o.f0 with
  | false => exact Ev_const rfl
  | true =>
    simp only [if_true, Bool.true_and]
    unfold blocks_admits.f
    by_cases h1 : o.f1 = 1
    · simp only [if_pos h1, Option.bind_some, decide_eq_false (show ¬ o.f1 = 3 by omega), decide_eq_false (show ¬ o.f1 = 2 by omega)]
      exact Ev_const rfl
    · simp only [if_neg h1]
      by_cases h2 : o.f1 = 2
      · simp only [if_pos h2, Option.bind_some, decide_eq_false (show ¬ o.f1 = 3 by omega), decide_eq_true h2]
        exact Ev_const (by simp [bne])
      · simp only [if_neg h2, Option.bind_some, decide_eq_true (show o.f1 = 3 by omega)]
        exact Ev_const rfl
theorem mis_from (b : S60) (t : List S60) (ht : t.length ≤ 1000000) (hk : ∀ o ∈ t, kdB o = true ∧ barB b o = false) : ∀ (r : List S60) (i : Nat), t.drop i = r → Ev (fun k => slices_IndexFunc_64.l0 k t (t.length : Int) (i : Int) b.f0.f0.f0 b.f0.f0.f1 b.f0.f0.f2 b.f0.f1 b.f1 b.f2 b.f3 b.f4) (-1)
  | [], i, h => by
    have := drop_end h
    exact Ev_shift 1 (f := fun _ => some (-1)) (fun k => by rw [slices_IndexFunc_64.l0, if_neg (by omega)]) (Ev_const rfl)
  | x :: r, i, h => by
    obtain ⟨hi, hx, hr⟩ := rd60 t i x r h
    have hm : x ∈ t := by rw [← (drop_at h).2.1]; exact List.getElem_mem hi
    refine Ev_shift 1 (fun k => by rw [slices_IndexFunc_64.l0, if_pos (by omega), if_pos (by omega), if_pos (by omega), hx, next i t.length hi (by omega)]) ?_
    refine Ev_bind (mis1_ev x b (hk x hm).1) ?_
    simp only [(hk x hm).2, Bool.false_eq_true, if_false]
    exact mis_from b t ht hk r (i + 1) hr
theorem mis_ev (b : S60) (t : List S60) (ht : t.length ≤ 1000000) (hk : ∀ o ∈ t, kdB o = true ∧ barB b o = false) : Ev (fun k => blocks_misplaced.f k t b.f0.f0.f0 b.f0.f0.f1 b.f0.f0.f2 b.f0.f1 b.f1 b.f2 b.f3 b.f4) false := by
  unfold blocks_misplaced.f
  refine Ev_bind (a := false) ?_ (Ev_const rfl)
  unfold slices_ContainsFunc_64.f
  refine Ev_bind (a := -1) ?_ (Ev_const rfl)
  unfold slices_IndexFunc_64.f
  exact mis_from b t ht hk t 0 rfl
/-- A table. -/
structure Tab (l : List S60) : Prop where
  v : ∀ b ∈ l, vB b = true ∧ szB b
  lt : l.Pairwise Lt
  bar : l.Pairwise (fun o b => barB b o = false)
theorem Tab.sub {l l' : List S60} (h : Tab l) (hs : l'.Sublist l) : Tab l' := ⟨fun b hb => h.v b (hs.subset hb), h.lt.sublist hs, h.bar.sublist hs⟩
theorem tab_of {l : List S60} (ok : okT l) (h : ∀ q (hq : q < l.length), TabAt l q hq) : Tab l := by
  refine ⟨fun b hb => ?_, tab_lt h, List.pairwise_iff_getElem.2 (fun i j hi hj hij => (h j hj).2.2 i hij)⟩
  obtain ⟨i, hi, rfl⟩ := List.getElem_of_mem hb
  exact ⟨(h i hi).1, (ok _ hb).2⟩
theorem kd_of {b : S60} (h : vB b = true) : kdB b = true := by
  unfold vB mayV at h
  exact (Bool.and_eq_true_iff.1 (Bool.and_eq_true_iff.1 h).2).1
theorem check_up (l : List S60) (hl : l.length ≤ 1000000) (hT : Tab l) : ∀ (d i : Nat), l.length - i ≤ d → i ≤ l.length → Ev (fun k => blocks_Check.l0 k l l (l.length : Int) (i : Int)) 0
  | d, i, hd, hi => by
    by_cases h : i < l.length
    · cases d with
      | zero => exact absurd hd (by omega)
      | succ d =>
        have ih := check_up l hl hT d (i + 1) (by omega) (by omega)
        have hm := List.getElem_mem h
        obtain ⟨hv, hsz⟩ := hT.v _ hm
        have hj : Ev (fun k => blocks_Check.j1 k l (i : Int) l (l.length : Int) (i : Int) l[i].f0.f0.f0 l[i].f0.f0.f1 l[i].f0.f0.f2 l[i].f0.f1 l[i].f1 l[i].f2 l[i].f3 l[i].f4) 0 := by
          refine Ev_shift 1 (fun k => by rw [blocks_Check.j1, if_pos (by omega), if_pos (by omega), Int.toNat_natCast, next i l.length h (by omega)]) ?_
          refine Ev_bind (mis_ev l[i] (l.take i) (by rw [List.length_take]; omega) (fun o ho => ?_)) ?_
          · obtain ⟨j, hj, rfl⟩ := List.getElem_of_mem ho
            have hjl : j < i := by rw [List.length_take] at hj; omega
            rw [List.getElem_take]
            exact ⟨kd_of (hT.v _ (List.getElem_mem _)).1, List.pairwise_iff_getElem.1 hT.bar j i (by omega) h hjl⟩
          · simp only [Bool.false_eq_true, if_false]
            exact ih
        refine Ev_shift 1 (fun k => by rw [blocks_Check.l0, if_pos (by omega), if_pos (by omega), if_pos (by omega), rdB l i h]) ?_
        refine Ev_bind (fault_ok l[i] hsz hv) ?_
        simp only [if_true]
        by_cases h0 : 0 < i
        · have hw : wrap64 ((i : Int) - 1) = ((i - 1 : Nat) : Int) := by rw [wrap_id (by omega) (by omega)]; omega
          have hr1 : rd_T60 l ((i - 1 : Nat) : Int) = l[i - 1]'(by omega) := rdB l (i - 1) (by omega)
          have hlt : pcm l[i].f0 (l[i - 1]'(by omega)).f0 > 0 := pcm_flip (List.pairwise_iff_getElem.1 hT.lt (i - 1) i (by omega) h (by omega))
          simp only [hw, if_pos (show (i : Int) > 0 by omega), if_pos (show 0 ≤ ((i - 1 : Nat) : Int) by omega), if_pos (show ((i - 1 : Nat) : Int) < (l.length : Int) by omega), hr1]
          refine Ev_bind (upcm l[i].f0 (l[i - 1]'(by omega)).f0) ?_
          simp only [if_neg (show ¬ pcm l[i].f0 (l[i - 1]'(by omega)).f0 < 0 by omega), if_neg (show ¬ pcm l[i].f0 (l[i - 1]'(by omega)).f0 = 0 by omega)]
          exact hj
        · simp only [if_neg (show ¬ ((i : Int) > 0) by omega)]
          exact hj
    · exact Ev_shift 1 (f := fun _ => some 0) (fun k => by rw [blocks_Check.l0, if_neg (by omega)]) (Ev_const rfl)
theorem check_ok (l : List S60) (hl : l.length ≤ 512) (hT : Tab l) : Ev (fun k => blocks_Check.f k l) 0 := by
  unfold blocks_Check.f
  simp only [if_neg (show ¬ ((l.length : Nat) : Int) > 512 by omega)]
  exact check_up l (by omega) hT l.length 0 (by omega) (Nat.zero_le _)
/-! ### what is away had ended -/
theorem free_end {hs : List S73} {now : Int} {l : List S60} {b : S60} (h : freeB hs now l b = true) : endB now b = true := (Bool.and_eq_true_iff.1 h).1
theorem recl_gone (hs : List S73) (now : Int) : ∀ (n : Nat) (l : List S60) (b : S60), b ∈ l → b ∉ recl hs now n l → endB now b = true
  | 0, l, b, hb, hn => absurd hb hn
  | n + 1, l, b, hb, hn => by
    by_cases h : freeB hs now l b = true
    · exact free_end h
    · exact recl_gone hs now n (stepB hs now l) b (List.mem_filter.2 ⟨hb, by simpa using h⟩) hn
theorem end_less {now e : Int} {b : S60} (h : endB (mn now e) b = true) : endB now b = true := by
  unfold endB at *
  simp only [Bool.not_eq_true', Bool.or_eq_false_iff, decide_eq_false_iff_not] at *
  refine ⟨h.1, fun hc => h.2 ?_⟩
  unfold mn
  split <;> omega
theorem rcl_none {hs : List S73} {now e : Int} {l : List S60} (h : l.filter (freeB hs now l) = []) : rclV hs (mn now e) l = [] := by
  unfold rclV
  have : l.filter (freeB hs (mn now e) l) = [] := by
    rw [List.filter_eq_nil_iff] at h ⊢
    intro b hb hf
    refine h b hb ?_
    obtain ⟨h1, h2⟩ := Bool.and_eq_true_iff.1 hf
    exact Bool.and_eq_true_iff.2 ⟨end_less h1, h2⟩
  rw [this]
  rfl
def eqB (y b : S60) : Bool := (((y.f0.f0.f0 == b.f0.f0.f0 && (y.f0.f0.f1 == b.f0.f0.f1 && (y.f0.f0.f2 == b.f0.f0.f2))) && (y.f0.f1 == b.f0.f1)) && (y.f1 == b.f1 && ((y.f2.toList == b.f2.toList) && ((y.f3.toList == b.f3.toList) && (y.f4 == b.f4)))))
theorem eqB_iff (y b : S60) : eqB y b = true ↔ y = b := by
  obtain ⟨p, a1, a2, a3, a4⟩ := y
  obtain ⟨q, b1, b2, b3, b4⟩ := b
  have e : eqB ⟨p, a1, a2, a3, a4⟩ ⟨q, b1, b2, b3, b4⟩ = (eqPfx p q && (a1 == b1 && ((a2.toList == b2.toList) && ((a3.toList == b3.toList) && (a4 == b4))))) := rfl
  rw [e, Bool.and_eq_true_iff, eqPfx_iff]
  simp only [Bool.and_eq_true, beq_iff_eq, S60.mk.injEq]
  constructor
  · rintro ⟨h0, h1, h2, h3, h4⟩
    exact ⟨h0, h1, toList_inj h2, toList_inj h3, h4⟩
  · rintro ⟨h0, h1, h2, h3, h4⟩
    exact ⟨h0, h1, by rw [h2], by rw [h3], h4⟩
theorem done_from (now : Int) (l y : List S60) (hs : List S73) (zs : List ByteArray) (hl : l.length ≤ 1000000) (hy : y.length ≤ 1000000) : ∀ (r : List S60) (i k0 : Nat), l.drop i = r → k0 ≤ y.length → (y.drop k0).Sublist r → r.Pairwise Lt → (∀ b ∈ r, b ∉ y.drop k0 → endB now b = true) → Ev (fun k => ddilaw48_UsageDone.l0 k now (k0 : Int) (i : Int) l hs zs y hs zs) true
  | [], i, k0, h, hk, hsub, _, _ => by
    have := drop_end h
    have e := List.sublist_nil.1 hsub
    have := drop_end e
    refine Ev_shift 1 (fun k => by rw [ddilaw48_UsageDone.l0, if_neg (by omega), if_pos (by omega)]) ?_
    exact Ev_bind awake_ev (Ev_const rfl)
  | b :: r, i, k0, h, hk, hsub, hL, hg => by
    obtain ⟨hi, hx, hr⟩ := rd60 l i b r h
    obtain ⟨hlt, hL'⟩ := List.pairwise_cons.1 hL
    have hbr : b ∉ r := fun hb => by
      have := hlt b hb
      unfold Lt at this
      rw [pcm_self] at this
      omega
    have nomatch_ : b ∉ y.drop k0 → Ev (fun k => ddilaw48_UsageDone.j2 k now (k0 : Int) (i : Int) false l hs zs y hs zs b.f0.f0.f0 b.f0.f0.f1 b.f0.f0.f2 b.f0.f1 b.f1 b.f2 b.f3 b.f4) true := fun hb => by
      have he := hg b List.mem_cons_self hb
      unfold endB at he
      simp only [Bool.not_eq_true', Bool.or_eq_false_iff, decide_eq_false_iff_not] at he
      have hs2 : (y.drop k0).Sublist r := by
        clear hg
        generalize y.drop k0 = yd at hsub hb
        cases hsub with
        | cons _ h => exact h
        | cons_cons _ h => exact absurd List.mem_cons_self hb
      have ih := done_from now l y hs zs hl hy r (i + 1) k0 hr hk hs2 hL' (fun c hc hn => hg c (List.mem_cons_of_mem _ hc) hn)
      refine Ev_shift 2 (fun k => ?_) ih
      rw [ddilaw48_UsageDone.j2, if_neg Bool.false_ne_true, if_neg he.1, decide_eq_false he.2, ddilaw48_UsageDone.j3, if_neg Bool.false_ne_true, next i l.length hi (by omega)]
    by_cases hky : k0 < y.length
    · refine Ev_shift 1 (fun k => by rw [ddilaw48_UsageDone.l0, if_pos (by omega), if_pos (by omega), if_pos (by omega), if_pos (by omega), hx, rdB y k0 hky]) ?_
      have hdy := List.drop_eq_getElem_cons hky
      by_cases he : eqB y[k0] b = true
      · have heq := (eqB_iff _ _).1 he
        have he' : (((y[k0].f0.f0.f0 == b.f0.f0.f0 && (y[k0].f0.f0.f1 == b.f0.f0.f1 && (y[k0].f0.f0.f2 == b.f0.f0.f2))) && (y[k0].f0.f1 == b.f0.f1)) && (y[k0].f1 == b.f1 && ((y[k0].f2.toList == b.f2.toList) && ((y[k0].f3.toList == b.f3.toList) && (y[k0].f4 == b.f4))))) = true := he
        have hs2 : (y.drop (k0 + 1)).Sublist r := by
          rw [hdy, heq] at hsub
          exact List.cons_sublist_cons.1 hsub
        have ih := done_from now l y hs zs hl hy r (i + 1) (k0 + 1) hr (by omega) hs2 hL' (fun c hc hn => by
          refine hg c (List.mem_cons_of_mem _ hc) ?_
          rw [hdy, heq]
          intro hm
          rcases List.mem_cons.1 hm with rfl | hm
          · exact hbr hc
          · exact hn hm)
        simp only [he']
        refine Ev_shift 1 (fun k => ?_) ih
        rw [ddilaw48_UsageDone.j2, if_pos rfl, next k0 y.length hky (by omega), next i l.length hi (by omega)]
      · have he2 : eqB y[k0] b = false := by simpa using he
        have he' : (((y[k0].f0.f0.f0 == b.f0.f0.f0 && (y[k0].f0.f0.f1 == b.f0.f0.f1 && (y[k0].f0.f0.f2 == b.f0.f0.f2))) && (y[k0].f0.f1 == b.f0.f1)) && (y[k0].f1 == b.f1 && ((y[k0].f2.toList == b.f2.toList) && ((y[k0].f3.toList == b.f3.toList) && (y[k0].f4 == b.f4))))) = false := he2
        simp only [he']
        refine nomatch_ (fun hm => ?_)
        rw [hdy] at hm hsub
        rcases List.mem_cons.1 hm with e | hm
        · exact he ((eqB_iff _ _).2 e.symm)
        · cases hsub with
          | cons _ h => exact hbr (h.subset (List.mem_cons_of_mem _ hm))
          | cons_cons _ h => exact he ((eqB_iff _ _).2 rfl)
    · refine Ev_shift 1 (fun k => by rw [ddilaw48_UsageDone.l0, if_pos (by omega), if_pos (by omega), if_neg (by omega), hx]) ?_
      exact nomatch_ (by rw [List.drop_eq_nil_of_le (by omega)]; simp)
theorem usageDone : ddilaw48_UsageDone.Pure := by
  intro l hs zs now early hS _ _
  obtain ⟨hl, hT, _, _⟩ := okB_of hS
  obtain ⟨⟨h1, h2, h3⟩, hH⟩ := okS_more hS
  refine Ev.rounds (?_ : Ev (fun k => ddilaw48_UsageDone.f k l hs zs now early) true)
  obtain ⟨t, ht, hp⟩ := right_ev l hs zs hT
  unfold ddilaw48_UsageDone.f
  refine Ev_bind ht ?_
  cases t with
  | false =>
    simp only [Bool.false_eq_true, if_false]
    exact Ev_bind awake_ev (Ev_const rfl)
  | true =>
    obtain ⟨h60, h200, htab⟩ := hp rfl
    have hTab := tab_of hT htab
    have hL := hTab.lt
    have hsub := recl_sub hs now l.length l
    have hend := recl_end hs now l.length l (Nat.le_refl _)
    have hlen := hsub.length_le
    simp only [if_true]
    refine Ev_bind (reclaim_all l hs zs now hS h60 hL) ?_
    refine Ev_bind (check_ok (recl hs now l.length l) (by omega) (hTab.sub hsub)) ?_
    simp only [if_true]
    refine Ev_bind (rcl_ev (recl hs now l.length l) hs zs (mn now early) (by omega) (by omega)) ?_
    rw [rcl_none hend]
    refine Ev_shift 1 (fun k => ?_) (done_from now l (recl hs now l.length l) hs zs (by omega) (by omega) l 0 0 rfl (Nat.zero_le _) (by rw [List.drop_zero]; exact hsub) hL (fun b hb hn => recl_gone hs now l.length l b hb (by rw [List.drop_zero] at hn; exact hn)))
    rw [ddilaw48_UsageDone.j0, if_neg (by simp)]
    rfl
end Go.Proofs.Ytjifdgicamlikaa.Ma
namespace Go.Proofs.Ytjifdgicamlikaa.Pure
theorem UsageDone : QA.ddilaw48_UsageDone.Pure := Ma.usageDone
end Go.Proofs.Ytjifdgicamlikaa.Pure
