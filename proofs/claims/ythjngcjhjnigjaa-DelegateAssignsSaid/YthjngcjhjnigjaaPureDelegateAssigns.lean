/- what any client gets of any pool, with any hint, or why it gets nothing, and what is left when it gives a prefix back, are as the document says: the pure statement of DelegateAssigns (no condition but the sizes that every argument has). -/
import Derived.Test.YthjngcjhjnigjaaQAd1
import Derived.Test.YthjngcjhjnigjaaXP
import Derived.Test.YthjngcjhjnigjaaQAd2
import Derived.Laws.Bits64
namespace Go.Proofs.Ythjngcjhjnigjaa.Cm
open Go.RowKit Go.Proofs.YthjngcjhjnigjaaW.PrintWords Go.Proofs.YthjngcjhjnigjaaW.PrintLast Go.Proofs.YthjngcjhjnigjaaW.PrintMore Go.Proofs.Ythjngcjhjnigjaa.XP Go.Proofs.Ythjngcjhjnigjaa.QA
set_option linter.unusedVariables false
set_option linter.unusedSimpArgs false
def cmp (a b : S24) : Int := if (a.f0 != b.f0) = true then (if b.f0 = true then -1 else 1) else (if a.f1 = b.f1 then (if a.f2 < b.f2 then -1 else (if a.f2 > b.f2 then 1 else 0)) else (if a.f1 < b.f1 then -1 else 1))
theorem rcmp (a b : S24) : ddiref02_Compare.f a.f0 a.f1 a.f2 b.f0 b.f1 b.f2 = some (cmp a b) := by
  unfold ddiref02_Compare.f cmp
  repeat' split
  all_goals first | rfl | omega
theorem num (a b : Int) : addr_number.f a b = some (if a < b then -1 else (if a > b then 1 else 0)) := by
  unfold addr_number.f
  repeat' split
  all_goals rfl
theorem ucmp (a b : S24) : Ev (fun k => addr_Compare.f k a.f0 a.f1 a.f2 b.f0 b.f1 b.f2) (cmp a b) := by
  refine Ev_shift 1 (f := fun _ => some (cmp a b)) (fun k => ?_) (Ev_const rfl)
  unfold addr_Compare.f addr_Compare.j0 cmp
  simp only [num]
  cases h0 : a.f0 <;> cases h1 : b.f0 <;> simp
  all_goals
    by_cases h : a.f1 = b.f1
    · simp [h]
    · simp only [h, if_false]
      by_cases h2 : a.f1 < b.f1
      · simp [h2]
      · simp [h2]
        omega
theorem cmp_zero (a b : S24) : cmp a b = 0 ↔ a = b := by
  obtain ⟨a0, a1, a2⟩ := a
  obtain ⟨b0, b1, b2⟩ := b
  simp only [cmp, S24.mk.injEq]
  cases a0 <;> cases b0 <;> simp <;> repeat' split
  all_goals omega
theorem cmp_self (a : S24) : cmp a a = 0 := (cmp_zero a a).2 rfl
theorem cmp_trans {a b c : S24} : cmp a b < 0 → cmp b c < 0 → cmp a c < 0 := by
  obtain ⟨a0, a1, a2⟩ := a
  obtain ⟨b0, b1, b2⟩ := b
  obtain ⟨c0, c1, c2⟩ := c
  simp only [cmp]
  cases a0 <;> cases b0 <;> cases c0 <;> simp <;> repeat' split
  all_goals omega
end Go.Proofs.Ythjngcjhjnigjaa.Cm
namespace Go.Proofs.Ythjngcjhjnigjaa.Cm
open Go.RowKit Go.Proofs.YthjngcjhjnigjaaW.PrintWords Go.Proofs.YthjngcjhjnigjaaW.PrintLast Go.Proofs.YthjngcjhjnigjaaW.PrintMore Go.Proofs.Ythjngcjhjnigjaa.XP Go.Proofs.Ythjngcjhjnigjaa.QA
set_option linter.unusedVariables false
set_option linter.unusedSimpArgs false
/-! ### bits -/
theorem bv_split (A B : BitVec 64) : (A &&& ~~~B) + (A &&& B) = A := by
  rw [BitVec.add_eq_or_of_and_eq_zero]
  · apply BitVec.eq_of_getLsbD_eq
    intro i hi
    simp only [BitVec.getLsbD_or, BitVec.getLsbD_and, BitVec.getLsbD_not, hi, decide_true, Bool.true_and]
    cases A.getLsbD i <;> cases B.getLsbD i <;> rfl
  · apply BitVec.eq_of_getLsbD_eq
    intro i hi
    simp only [BitVec.getLsbD_and, BitVec.getLsbD_not, hi, decide_true, Bool.true_and, BitVec.getLsbD_zero]
    cases A.getLsbD i <;> cases B.getLsbD i <;> rfl
theorem bv_of (x : Int) (h0 : 0 ≤ x) (h1 : x < 18446744073709551616) : ((BitVec.ofInt 64 x).toNat : Int) = x := by
  obtain ⟨n, rfl⟩ := Int.eq_ofNat_of_zero_le h0
  rw [BitVec.ofInt_natCast, BitVec.toNat_ofNat]
  omega
theorem b_and (x m : Int) : Go.bits .and .u64 x m = ((BitVec.ofInt 64 x &&& BitVec.ofInt 64 m).toNat : Int) := by
  show IntKind.u64.wrap ((BitVec.ofInt 64 x &&& BitVec.ofInt 64 m).toNat : Int) = _
  have := (BitVec.ofInt 64 x &&& BitVec.ofInt 64 m).isLt
  rw [IntKind.wrap_u64]
  omega
theorem b_or (x m : Int) : Go.bits .or .u64 x m = ((BitVec.ofInt 64 x ||| BitVec.ofInt 64 m).toNat : Int) := by
  show IntKind.u64.wrap ((BitVec.ofInt 64 x ||| BitVec.ofInt 64 m).toNat : Int) = _
  have := (BitVec.ofInt 64 x ||| BitVec.ofInt 64 m).isLt
  rw [IntKind.wrap_u64]
  omega
theorem b_not (x m : Int) : Go.bits .andNot .u64 x m = ((BitVec.ofInt 64 x &&& ~~~BitVec.ofInt 64 m).toNat : Int) := by
  show IntKind.u64.wrap ((BitVec.ofInt 64 x &&& ~~~BitVec.ofInt 64 m).toNat : Int) = _
  have := (BitVec.ofInt 64 x &&& ~~~BitVec.ofInt 64 m).isLt
  rw [IntKind.wrap_u64]
  omega
theorem andnot_sub (x m : Int) (h0 : 0 ≤ x) (h1 : x < 18446744073709551616) : IntKind.u64.wrap (x - Go.bits .and .u64 x m) = Go.bits .andNot .u64 x m := by
  rw [b_and, b_not, IntKind.wrap_u64]
  have hx := bv_of x h0 h1
  generalize BitVec.ofInt 64 x = A at hx
  generalize BitVec.ofInt 64 m = B
  have h := congrArg BitVec.toNat (bv_split A B)
  rw [BitVec.toNat_add] at h
  have c1 : (A &&& B).toNat ≤ A.toNat := by rw [BitVec.toNat_and]; exact Nat.and_le_left
  have c2 : (A &&& ~~~B).toNat ≤ A.toNat := by rw [BitVec.toNat_and]; exact Nat.and_le_left
  omega
theorem or_add (x m : Int) (h0 : 0 ≤ x) (h1 : x < 18446744073709551616) (g0 : 0 ≤ m) (g1 : m < 18446744073709551616) (h : Go.bits .and .u64 x m = 0) : IntKind.u64.wrap (x + m) = Go.bits .or .u64 x m := by
  rw [b_and] at h
  rw [b_or, IntKind.wrap_u64]
  have hx := bv_of x h0 h1
  have hm := bv_of m g0 g1
  generalize BitVec.ofInt 64 x = A at hx h
  generalize BitVec.ofInt 64 m = B at hm h
  have hz : A &&& B = 0#64 := by
    apply BitVec.eq_of_toNat_eq
    rw [BitVec.toNat_ofNat]
    omega
  rw [← BitVec.add_eq_or_of_and_eq_zero A B hz, BitVec.toNat_add]
  omega
/-! ### masks -/
def mHi (m : Nat) : Int := ((2 ^ (m - 64) - 1 : Nat) : Int)
def mLo (m : Nat) : Int := ((2 ^ (min m 64) - 1 : Nat) : Int)
def lenV (b : Bool) : Int := if b = true then 128 else 32
theorem later6 : ∀ n : Fin 129, prefix_later.f true ((n.val : Nat) : Int) = some (mHi (128 - n.val), mLo (128 - n.val)) := by decide +kernel
theorem later4 : ∀ n : Fin 33, prefix_later.f false ((n.val : Nat) : Int) = some (mHi (32 - n.val), mLo (32 - n.val)) := by decide +kernel
theorem ones_all : ∀ m : Fin 129, ddiref03_ones.f 300 ((m.val : Nat) : Int) = some (mHi m.val, mLo m.val) := by decide +kernel
theorem lenV_le (b : Bool) : 32 ≤ lenV b ∧ lenV b ≤ 128 := by
  cases b <;> simp [lenV]
theorem later_v (b : Bool) (n : Int) (h0 : 0 ≤ n) (h1 : n ≤ lenV b) : prefix_later.f b n = some (mHi (lenV b - n).toNat, mLo (lenV b - n).toNat) := by
  obtain ⟨j, rfl⟩ := Int.eq_ofNat_of_zero_le h0
  cases b with
  | true =>
    have h2 : lenV true = 128 := rfl
    rw [h2] at h1 ⊢
    have h := later6 ⟨j, by omega⟩
    simp only at h
    rw [h, show ((128 : Int) - (j : Int)).toNat = 128 - j by omega]
  | false =>
    have h2 : lenV false = 32 := rfl
    rw [h2] at h1 ⊢
    have h := later4 ⟨j, by omega⟩
    simp only at h
    rw [h, show ((32 : Int) - (j : Int)).toNat = 32 - j by omega]
theorem ones_ev (b : Bool) (n : Int) (h0 : 0 ≤ n) (h1 : n ≤ lenV b) : Ev (fun k => ddiref03_ones.f k (wrap64 (lenV b - n))) (mHi (lenV b - n).toNat, mLo (lenV b - n).toNat) := by
  have hl := lenV_le b
  rw [wrap_id (by omega) (by omega)]
  obtain ⟨j, hj⟩ := Int.eq_ofNat_of_zero_le (show 0 ≤ lenV b - n by omega)
  rw [hj, Int.toNat_natCast]
  have h := ones_all ⟨j, by omega⟩
  exact ⟨300, fun k hk => at_rounds (g := fun k => ddiref03_ones.f k (j : Int)) (ddiref03_ones.mono (j : Int)) hk h⟩
theorem long_v (b : Bool) : ddiref03_Long.f b = some (lenV b) := by cases b <;> rfl
theorem length_v (a : S24) : prefix_length.f a.f0 a.f1 a.f2 = some (lenV a.f0) := by
  unfold prefix_length.f
  cases a.f0 <;> rfl
/-! ### addresses -/
def adB (x : S24) : Bool := x.f0 || (decide (x.f1 = 0) && decide (x.f2 ≤ 4294967295))
theorem ad_v (x : S24) : addr_Valid.f x.f0 x.f1 x.f2 = some (adB x) := by
  unfold addr_Valid.f adB
  cases h : x.f0 with
  | true => rfl
  | false =>
    simp only [Bool.false_eq_true, if_false, Bool.false_or]
    by_cases h1 : x.f1 = 0
    · simp [h1]
    · simp [h1]
theorem rad_v (x : S24) : ddiref02_Valid.f x.f0 x.f1 x.f2 = some (adB x) := by
  unfold ddiref02_Valid.f adB
  cases h : x.f0 with
  | true => rfl
  | false =>
    simp only [Bool.false_eq_true, if_false, Bool.false_or]
    by_cases h1 : x.f1 = 0
    · simp [h1]
      omega
    · simp [h1]
/-! ### Valid -/
def mkH (a : S24) (n : Int) : Int := mHi (lenV a.f0 - n).toNat
def mkL (a : S24) (n : Int) : Int := mLo (lenV a.f0 - n).toNat
def inB (a : S24) (n : Int) : Bool := adB a && (decide (0 ≤ n) && decide (n ≤ lenV a.f0))
def pvB (p : S26) : Bool := inB p.f0 p.f1 && (decide (Go.bits .and .u64 p.f0.f1 (mkH p.f0 p.f1) = 0) && (Go.bits .and .u64 p.f0.f2 (mkL p.f0 p.f1) == 0))
theorem inB_iff (a : S24) (n : Int) : inB a n = true ↔ adB a = true ∧ 0 ≤ n ∧ n ≤ lenV a.f0 := by
  simp [inB]
theorem pv_in {p : S26} (h : pvB p = true) : adB p.f0 = true ∧ 0 ≤ p.f1 ∧ p.f1 ≤ lenV p.f0.f0 := by
  rw [pvB, Bool.and_eq_true] at h
  exact (inB_iff _ _).1 h.1
theorem pv_j (p : S26) (b : Bool) (hb : b = !inB p.f0 p.f1) : Ev (fun k => prefix_Valid.j0 k b p.f0.f0 p.f0.f1 p.f0.f2 p.f1) (pvB p) := by
  unfold pvB
  cases hi : inB p.f0 p.f1 with
  | false =>
    rw [hi] at hb
    subst hb
    refine Ev_shift 1 (f := fun _ => some false) (fun k => ?_) (Ev_const rfl)
    rw [prefix_Valid.j0]
    rfl
  | true =>
    rw [hi] at hb
    subst hb
    obtain ⟨_, h0, h1⟩ := (inB_iff _ _).1 hi
    refine Ev_shift 1 (f := fun _ => some (decide (Go.bits .and .u64 p.f0.f1 (mkH p.f0 p.f1) = 0) && (Go.bits .and .u64 p.f0.f2 (mkL p.f0 p.f1) == 0))) (fun k => ?_) (Ev_const rfl)
    rw [prefix_Valid.j0, if_neg (by decide), later_v p.f0.f0 p.f1 h0 h1]
    simp only [Option.bind_some]
    show (if Go.bits .and .u64 p.f0.f1 (mkH p.f0 p.f1) = 0 then _ else _) = _
    by_cases h : Go.bits .and .u64 p.f0.f1 (mkH p.f0 p.f1) = 0
    · rw [if_pos h, decide_eq_true h]; rfl
    · rw [if_neg h, decide_eq_false h]; rfl
theorem valid_pfx (p : S26) : Ev (fun k => prefix_Valid.f k p.f0.f0 p.f0.f1 p.f0.f2 p.f1) (pvB p) := by
  unfold prefix_Valid.f
  simp only [ad_v, Option.bind_some, length_v]
  cases ha : adB p.f0 with
  | false =>
    simp only [Bool.false_eq_true, if_false]
    exact pv_j p true (by simp [inB, ha])
  | true =>
    simp only [if_true]
    by_cases h0 : p.f1 < 0
    · simp only [if_pos h0]
      exact pv_j p true (by simp [inB, ha]; omega)
    · simp only [if_neg h0]
      refine pv_j p _ ?_
      by_cases h1 : p.f1 ≤ lenV p.f0.f0
      · rw [decide_eq_false (by omega)]; simp [inB, ha, h1]; omega
      · rw [decide_eq_true (by omega)]; simp [inB, ha, h1]
theorem rpv_j (p : S26) (b : Bool) (hb : b = !inB p.f0 p.f1) : Ev (fun k => ddiref03_Valid.j0 k b p.f0.f0 p.f0.f1 p.f0.f2 p.f1) (pvB p) := by
  unfold pvB
  cases hi : inB p.f0 p.f1 with
  | false =>
    rw [hi] at hb
    subst hb
    refine Ev_shift 1 (f := fun _ => some false) (fun k => ?_) (Ev_const rfl)
    rw [ddiref03_Valid.j0]
    rfl
  | true =>
    rw [hi] at hb
    subst hb
    obtain ⟨_, h0, h1⟩ := (inB_iff _ _).1 hi
    refine Ev_shift 1 (fun k => by rw [ddiref03_Valid.j0, if_neg (by decide), long_v, Option.bind_some]) ?_
    refine Ev.bind (ones_ev p.f0.f0 p.f1 h0 h1) ?_
    show Ev (fun n => if Go.bits .and .u64 p.f0.f1 (mkH p.f0 p.f1) = 0 then _ else _) _
    by_cases h : Go.bits .and .u64 p.f0.f1 (mkH p.f0 p.f1) = 0
    · simp only [if_pos h, decide_eq_true h]
      exact Ev_const rfl
    · simp only [if_neg h, decide_eq_false h]
      exact Ev_const rfl
theorem rvalid_pfx (p : S26) : Ev (fun k => ddiref03_Valid.f k p.f0.f0 p.f0.f1 p.f0.f2 p.f1) (pvB p) := by
  unfold ddiref03_Valid.f
  simp only [rad_v, Option.bind_some, long_v]
  cases ha : adB p.f0 with
  | false =>
    simp only [Bool.false_eq_true, if_false]
    exact rpv_j p true (by simp [inB, ha])
  | true =>
    simp only [if_true]
    by_cases h0 : p.f1 < 0
    · simp only [if_pos h0]
      exact rpv_j p true (by simp [inB, ha]; omega)
    · simp only [if_neg h0]
      refine rpv_j p _ ?_
      by_cases h1 : p.f1 ≤ lenV p.f0.f0
      · rw [decide_eq_false (by omega)]; simp [inB, ha, h1]; omega
      · rw [decide_eq_true (by omega)]; simp [inB, ha, h1]
/-! ### Of -/
def zPfx : S26 := ⟨⟨false, 0, 0⟩, 0⟩
def ofV (a : S24) (n : Int) : S26 := if inB a n = true then ⟨⟨a.f0, Go.bits .andNot .u64 a.f1 (mkH a n), Go.bits .andNot .u64 a.f2 (mkL a n)⟩, n⟩ else zPfx
def tPfx (p : S26) (b : Bool) : Bool × Int × Int × Int × Bool := (p.f0.f0, p.f0.f1, p.f0.f2, p.f1, b)
theorem of_j (a : S24) (n : Int) (b : Bool) (hb : b = !inB a n) : Ev (fun k => prefix_Of.j0 k n b a.f0 a.f1 a.f2) (tPfx (ofV a n) (inB a n)) := by
  unfold ofV
  cases hi : inB a n with
  | false =>
    rw [hi] at hb
    subst hb
    refine Ev_shift 1 (f := fun _ => some (tPfx zPfx false)) (fun k => ?_) (Ev_const rfl)
    rw [prefix_Of.j0]
    rfl
  | true =>
    rw [hi] at hb
    subst hb
    obtain ⟨_, h0, h1⟩ := (inB_iff _ _).1 hi
    refine Ev_shift 1 (f := fun _ => some (tPfx ⟨⟨a.f0, Go.bits .andNot .u64 a.f1 (mkH a n), Go.bits .andNot .u64 a.f2 (mkL a n)⟩, n⟩ true)) (fun k => ?_) (Ev_const rfl)
    rw [prefix_Of.j0, if_neg (by decide), later_v a.f0 n h0 h1]
    rfl
theorem of_pfx (a : S24) (n : Int) : Ev (fun k => prefix_Of.f k a.f0 a.f1 a.f2 n) (tPfx (ofV a n) (inB a n)) := by
  unfold prefix_Of.f
  simp only [ad_v, Option.bind_some, length_v]
  cases ha : adB a with
  | false =>
    simp only [Bool.false_eq_true, if_false]
    exact of_j a n true (by simp [inB, ha])
  | true =>
    simp only [if_true]
    by_cases h0 : n < 0
    · simp only [if_pos h0]
      exact of_j a n true (by simp [inB, ha]; omega)
    · simp only [if_neg h0]
      refine of_j a n _ ?_
      by_cases h1 : n ≤ lenV a.f0
      · rw [decide_eq_false (by omega)]; simp [inB, ha, h1]; omega
      · rw [decide_eq_true (by omega)]; simp [inB, ha, h1]
def uA (a : S24) : Prop := (0 ≤ a.f1 ∧ a.f1 < 18446744073709551616) ∧ (0 ≤ a.f2 ∧ a.f2 < 18446744073709551616)
theorem uA_of {a : S24} (h : okS24 a) : uA a := by
  obtain ⟨_, h1, h2⟩ := h
  have g1 := wf_u64 h1
  have g2 := wf_u64 h2
  exact ⟨⟨g1.1, by omega⟩, ⟨g2.1, by omega⟩⟩
theorem rof_j (a : S24) (ok : uA a) (n : Int) (b : Bool) (hb : b = !inB a n) : Ev (fun k => ddiref03_Of.j0 k n b a.f0 a.f1 a.f2) (tPfx (ofV a n) (inB a n)) := by
  unfold ofV
  cases hi : inB a n with
  | false =>
    rw [hi] at hb
    subst hb
    refine Ev_shift 1 (f := fun _ => some (tPfx zPfx false)) (fun k => ?_) (Ev_const rfl)
    rw [ddiref03_Of.j0]
    rfl
  | true =>
    rw [hi] at hb
    subst hb
    obtain ⟨_, h0, h1⟩ := (inB_iff _ _).1 hi
    refine Ev_shift 1 (fun k => by rw [ddiref03_Of.j0, if_neg (by decide), long_v, Option.bind_some]) ?_
    refine Ev.bind (ones_ev a.f0 n h0 h1) (Ev_const ?_)
    show some (a.f0, IntKind.u64.wrap (a.f1 - Go.bits .and .u64 a.f1 (mkH a n)), IntKind.u64.wrap (a.f2 - Go.bits .and .u64 a.f2 (mkL a n)), n, true) = _
    rw [andnot_sub _ _ ok.1.1 ok.1.2, andnot_sub _ _ ok.2.1 ok.2.2]
    rfl
theorem rof_pfx (a : S24) (ok : uA a) (n : Int) : Ev (fun k => ddiref03_Of.f k a.f0 a.f1 a.f2 n) (tPfx (ofV a n) (inB a n)) := by
  unfold ddiref03_Of.f
  simp only [rad_v, Option.bind_some, long_v]
  cases ha : adB a with
  | false =>
    simp only [Bool.false_eq_true, if_false]
    exact rof_j a ok n true (by simp [inB, ha])
  | true =>
    simp only [if_true]
    by_cases h0 : n < 0
    · simp only [if_pos h0]
      exact rof_j a ok n true (by simp [inB, ha]; omega)
    · simp only [if_neg h0]
      refine rof_j a ok n _ ?_
      by_cases h1 : n ≤ lenV a.f0
      · rw [decide_eq_false (by omega)]; simp [inB, ha, h1]; omega
      · rw [decide_eq_true (by omega)]; simp [inB, ha, h1]
/-! ### Contains, Within, Overlap -/
def eqPfx (x p : S26) : Bool := (x.f0.f0 == p.f0.f0 && (x.f0.f1 == p.f0.f1 && (x.f0.f2 == p.f0.f2))) && (x.f1 == p.f1)
def pcB (p : S26) (a : S24) : Bool := pvB p && ((p.f0.f0 == a.f0) && (inB a p.f1 && eqPfx (ofV a p.f1) p))
theorem con_j (p : S26) (a : S24) (b : Bool) (hb : b = !(pvB p && (p.f0.f0 == a.f0))) : Ev (fun k => prefix_Contains.j0 k b p.f0.f0 p.f0.f1 p.f0.f2 p.f1 a.f0 a.f1 a.f2) (pcB p a) := by
  unfold pcB
  rw [← Bool.and_assoc]
  cases hi : (pvB p && (p.f0.f0 == a.f0)) with
  | false =>
    rw [hi] at hb
    subst hb
    refine Ev_shift 1 (f := fun _ => some false) (fun k => ?_) (Ev_const rfl)
    rw [prefix_Contains.j0]
    rfl
  | true =>
    rw [hi] at hb
    subst hb
    refine Ev_shift 1 (fun k => by rw [prefix_Contains.j0, if_neg (by decide)]) ?_
    refine Ev.bind (of_pfx a p.f1) ?_
    show Ev (fun n => if inB a p.f1 = true then some (eqPfx (ofV a p.f1) p) else some false) _
    cases inB a p.f1 with
    | true => exact Ev_const rfl
    | false => exact Ev_const rfl
theorem contains_pfx (p : S26) (a : S24) : Ev (fun k => prefix_Contains.f k p.f0.f0 p.f0.f1 p.f0.f2 p.f1 a.f0 a.f1 a.f2) (pcB p a) := by
  unfold prefix_Contains.f
  refine Ev.bind (valid_pfx p) ?_
  cases hv : pvB p with
  | true =>
    simp only [if_true]
    exact con_j p a _ (by rw [hv]; rfl)
  | false =>
    simp only [Bool.false_eq_true, if_false]
    exact con_j p a _ (by rw [hv]; rfl)
theorem rcon_j (p : S26) (a : S24) (ok : uA a) (b : Bool) (hb : b = !((pvB p && adB a) && (p.f0.f0 == a.f0))) : Ev (fun k => ddiref03_Contains.j0 k b p.f0.f0 p.f0.f1 p.f0.f2 p.f1 a.f0 a.f1 a.f2) (pcB p a) := by
  have hE : pcB p a = (((pvB p && adB a) && (p.f0.f0 == a.f0)) && eqPfx (ofV a p.f1) p) := by
    unfold pcB
    cases hv : pvB p with
    | false => rfl
    | true =>
      obtain ⟨_, h0, h1⟩ := pv_in hv
      by_cases he : p.f0.f0 = a.f0
      · rw [he] at h1
        simp [inB, he, h0, h1]
      · have : (p.f0.f0 == a.f0) = false := by simpa using he
        rw [this]
        simp
  rw [hE]
  cases hi : ((pvB p && adB a) && (p.f0.f0 == a.f0)) with
  | false =>
    rw [hi] at hb
    subst hb
    refine Ev_shift 1 (f := fun _ => some false) (fun k => ?_) (Ev_const rfl)
    rw [ddiref03_Contains.j0]
    rfl
  | true =>
    rw [hi] at hb
    subst hb
    refine Ev_shift 1 (fun k => by rw [ddiref03_Contains.j0, if_neg (by decide)]) ?_
    refine Ev.bind (rof_pfx a ok p.f1) ?_
    exact Ev_const rfl
theorem rcontains_pfx (p : S26) (a : S24) (ok : uA a) : Ev (fun k => ddiref03_Contains.f k p.f0.f0 p.f0.f1 p.f0.f2 p.f1 a.f0 a.f1 a.f2) (pcB p a) := by
  unfold ddiref03_Contains.f
  refine Ev.bind (rvalid_pfx p) ?_
  cases hv : pvB p with
  | true =>
    simp only [if_true, rad_v, Option.bind_some]
    cases ha : adB a with
    | true =>
      simp only [if_true]
      exact rcon_j p a ok _ (by rw [hv, ha]; rfl)
    | false =>
      simp only [Bool.false_eq_true, if_false]
      exact rcon_j p a ok _ (by rw [hv, ha]; rfl)
  | false =>
    simp only [Bool.false_eq_true, if_false]
    exact rcon_j p a ok _ (by rw [hv]; rfl)
def pwB (p q : S26) : Bool := pvB p && (decide (q.f1 ≤ p.f1) && pcB q p.f0)
theorem pcB_v {q : S26} {a : S24} (h : pvB q = false) : pcB q a = false := by rw [pcB, h]; rfl
theorem within_pfx (p q : S26) : Ev (fun k => prefix_Within.f k p.f0.f0 p.f0.f1 p.f0.f2 p.f1 q.f0.f0 q.f0.f1 q.f0.f2 q.f1) (pwB p q) := by
  unfold prefix_Within.f pwB
  refine Ev.bind (valid_pfx p) ?_
  cases hv : pvB p with
  | false =>
    simp only [Bool.false_eq_true, if_false]
    exact Ev_const rfl
  | true =>
    simp only [if_true, Bool.true_and]
    refine Ev.bind (valid_pfx q) ?_
    cases hq : pvB q with
    | false =>
      simp only [Bool.false_eq_true, if_false]
      rw [pcB_v hq, Bool.and_false]
      exact Ev_const rfl
    | true =>
      simp only [if_true]
      by_cases h : p.f1 ≥ q.f1
      · simp only [if_pos h, decide_eq_true (show q.f1 ≤ p.f1 from h), Bool.true_and]
        exact Ev.bind (contains_pfx q p.f0) (Ev_const rfl)
      · simp only [if_neg h, decide_eq_false (show ¬ q.f1 ≤ p.f1 from h), Bool.false_and]
        exact Ev_const rfl
theorem rwithin_pfx (p q : S26) (ok : uA p.f0) : Ev (fun k => ddiref03_Within.f k p.f0.f0 p.f0.f1 p.f0.f2 p.f1 q.f0.f0 q.f0.f1 q.f0.f2 q.f1) (pwB p q) := by
  unfold ddiref03_Within.f pwB
  refine Ev.bind (rvalid_pfx p) ?_
  cases hv : pvB p with
  | false =>
    simp only [Bool.false_eq_true, if_false]
    exact Ev_const rfl
  | true =>
    simp only [if_true, Bool.true_and]
    by_cases h : p.f1 ≥ q.f1
    · simp only [if_pos h, decide_eq_true (show q.f1 ≤ p.f1 from h), Bool.true_and]
      exact Ev.bind (rcontains_pfx q p.f0 ok) (Ev_const rfl)
    · simp only [if_neg h, decide_eq_false (show ¬ q.f1 ≤ p.f1 from h), Bool.false_and]
      exact Ev_const rfl
end Go.Proofs.Ythjngcjhjnigjaa.Cm
namespace Go.Proofs.Ythjngcjhjnigjaa.Ma
open Go.RowKit Go.Proofs.YthjngcjhjnigjaaW.PrintWords Go.Proofs.YthjngcjhjnigjaaW.PrintLast Go.Proofs.YthjngcjhjnigjaaW.PrintMore Go.Proofs.Ythjngcjhjnigjaa.XP Go.Proofs.Ythjngcjhjnigjaa.QA Go.Proofs.Ythjngcjhjnigjaa.Cm
set_option linter.unusedVariables false
set_option linter.unusedSimpArgs false
/-- The same grant, as the reference has it. -/
def cv (x : S61) : S70 := ⟨x.f0, x.f1, x.f2⟩
def cutG (x : S70) : S61 := ⟨x.f0, x.f1.extract 0 (min x.f1.size 100), x.f2⟩
def ownT (l : List S70) : List S61 := (l.take 40).map cutG
theorem rd61 (l : List S61) (i : Nat) (x : S61) (r : List S61) (h : l.drop i = x :: r) : i < l.length ∧ rd_T61 l (i : Int) = x ∧ l.drop (i + 1) = r := by
  obtain ⟨hi, hx, hr⟩ := drop_at h
  refine ⟨hi, ?_, hr⟩
  simp [rd_T61, List.getD_eq_getElem?_getD, List.getElem?_eq_getElem hi, hx]
theorem rd70 (l : List S61) (i : Nat) (x : S61) (r : List S61) (h : l.drop i = x :: r) : rd_T70 (l.map cv) (i : Int) = cv x := by
  obtain ⟨hi, hx, hr⟩ := drop_at h
  simp [rd_T70, List.getD_eq_getElem?_getD, List.getElem?_eq_getElem hi, hx]
theorem rdAt (l : List S61) (q : Nat) (h : q < l.length) : rd_T61 l (q : Int) = l[q] := by
  simp [rd_T61, List.getD_eq_getElem?_getD, List.getElem?_eq_getElem h]
theorem rdAt70 (l : List S61) (q : Nat) (h : q < l.length) : rd_T70 (l.map cv) (q : Int) = cv l[q] := by
  simp [rd_T70, List.getD_eq_getElem?_getD, List.getElem?_eq_getElem h]
theorem len_cv (l : List S61) : ((l.map cv).length : Int) = (l.length : Int) := by rw [List.length_map]
theorem own_from (l : List S70) (hl : l.length ≤ 140737488351232) : ∀ (d i : Nat), 40 - i ≤ d → i ≤ 40 → i ≤ l.length → Ev (fun k => ddilaw43_own.l0 k l ((l.take i).map cutG) (i : Int)) (ownT l)
  | d, i, hd, h4, hi => by
    have hstop : i = l.length ∨ i = 40 → Ev (fun k => ddilaw43_own.j1 k l ((l.take i).map cutG) (i : Int) false) (ownT l) := fun h => by
      refine Ev_shift 1 (f := fun _ => some (ownT l)) (fun k => ?_) (Ev_const rfl)
      rw [ddilaw43_own.j1, if_neg Bool.false_ne_true]
      unfold ownT
      rcases h with h | h
      · rw [List.take_of_length_le (by omega), List.take_of_length_le (by omega)]
      · rw [h]
    by_cases h : i < l.length
    · by_cases h40 : i < 40
      · cases d with
        | zero => exact absurd hd (by omega)
        | succ d =>
          have ih := own_from l hl d (i + 1) (by omega) (by omega) (by omega)
          have hx : rd_T70 l (i : Int) = l[i] := by simp [rd_T70, List.getD_eq_getElem?_getD, List.getElem?_eq_getElem h]
          obtain ⟨m0, m1, m2⟩ := (show 0 ≤ mn (l[i].f1.size : Int) 100 ∧ mn (l[i].f1.size : Int) 100 ≤ (l[i].f1.size : Int) ∧ (mn (l[i].f1.size : Int) 100).toNat = min l[i].f1.size 100 from mn_len' l[i].f1.size 100)
          have hlen : ((l.take i).map cutG).length < 2513169434916 := by rw [List.length_map, List.length_take]; omega
          rw [List.take_succ_eq_append_getElem h, List.map_append] at ih
          refine Ev_shift 2 (fun k => ?_) ih
          rw [ddilaw43_own.l0, if_pos (by omega), decide_eq_true (show (i : Int) < 40 by omega), ddilaw43_own.j1, if_pos rfl, if_pos (by omega), if_pos (by omega), hx, if_pos m0, if_pos m1, if_pos hlen, next i l.length h (by omega), m2]
          rfl
      · exact Ev_shift 1 (fun k => by rw [ddilaw43_own.l0, if_pos (by omega), decide_eq_false (show ¬ (i : Int) < 40 by omega)]) (hstop (.inr (by omega)))
    · exact Ev_shift 1 (fun k => by rw [ddilaw43_own.l0, if_neg (by omega)]) (hstop (.inl (by omega)))
theorem own_ev (l : List S70) (hl : l.length ≤ 140737488351232) : Ev (fun k => ddilaw43_own.f k l) (ownT l) := by
  unfold ddilaw43_own.f
  exact own_from l hl 40 0 (by omega) (by omega) (by omega)
theorem few_from (l : List S61) (hl : l.length ≤ 40) : ∀ (r : List S61) (i : Nat), l.drop i = r → Ev (fun k => ddilaw43_few.l0 k ((l.take i).map cv) l (l.length : Int) (i : Int)) (l.map cv)
  | [], i, h => by
    have := drop_end h
    refine Ev_shift 1 (f := fun _ => some (l.map cv)) (fun k => ?_) (Ev_const rfl)
    rw [ddilaw43_few.l0, if_neg (by omega), List.take_of_length_le (by omega)]
  | x :: r, i, h => by
    obtain ⟨hi, hx, hr⟩ := rd61 l i x r h
    have hxi : l[i] = x := (drop_at h).2.1
    have ih := few_from l hl r (i + 1) hr
    have hlen : ((l.take i).map cv).length < 2513169434916 := by rw [List.length_map, List.length_take]; omega
    rw [List.take_succ_eq_append_getElem hi, List.map_append, hxi] at ih
    refine Ev_shift 1 (fun k => ?_) ih
    rw [ddilaw43_few.l0, if_pos (by omega), if_pos (by omega), if_pos (by omega), if_pos hlen, next i l.length hi (by omega), hx]
    rfl
theorem ownT_len (l : List S70) : (ownT l).length ≤ 40 := by
  unfold ownT
  rw [List.length_map, List.length_take]
  omega
theorem few_ev (l : List S70) (hl : l.length ≤ 140737488351232) : Ev (fun k => ddilaw43_few.f k l) ((ownT l).map cv) := by
  unfold ddilaw43_few.f
  refine Ev.bind (own_ev l hl) ?_
  exact few_from (ownT l) (ownT_len l) (ownT l) 0 rfl
theorem ext_self (s : ByteArray) (n : Nat) (h : s.size ≤ n) : s.extract 0 n = s := by
  apply data_inj
  rw [data_ext]
  simp only [List.drop_zero, Nat.sub_zero]
  exact List.take_of_length_le (by rw [← size_data]; exact h)
theorem cut_cv (x : S61) (h : x.f1.size ≤ 100) : cutG (cv x) = x := by
  obtain ⟨a, b, c⟩ := x
  simp only [cutG, cv]
  rw [ext_self b _ (by simp only at h; omega)]
theorem cut_size (x : S70) : (cutG x).f1.size ≤ 100 := by
  unfold cutG
  show (x.f1.extract 0 (min x.f1.size 100)).size ≤ 100
  rw [size_data, data_ext]
  simp
  omega
theorem ownT_own (l : List S70) : ownT ((ownT l).map cv) = ownT l := by
  have h1 := ownT_len l
  unfold ownT at h1 ⊢
  rw [List.take_of_length_le (by rw [List.length_map]; exact h1), List.map_map]
  rw [List.map_congr_left (g := id)]
  · rw [List.map_id]
  · intro x hx
    obtain ⟨y, _, rfl⟩ := List.mem_map.1 hx
    exact cut_cv (cutG y) (cut_size y)
/-! ### equal lists -/
theorem same_from (l : List S61) (hl : l.length ≤ 140737488351232) : ∀ (r : List S61) (i : Nat), l.drop i = r → Ev (fun k => ddilaw43_same.l0 k l (l.map cv) (l.length : Int) (i : Int)) true
  | [], i, h => by
    have := drop_end h
    exact Ev_shift 1 (f := fun _ => some true) (fun k => by rw [ddilaw43_same.l0, if_neg (by omega)]) (Ev_const rfl)
  | x :: r, i, h => by
    obtain ⟨hi, hx, hr⟩ := rd61 l i x r h
    have hx7 := rd70 l i x r h
    have ih := same_from l hl r (i + 1) hr
    refine Ev_shift 1 (fun k => ?_) ih
    rw [ddilaw43_same.l0, if_pos (by omega), if_pos (by omega), if_pos (by omega), len_cv, if_pos (by omega), hx, hx7, if_neg (by simp [cv]), next i l.length hi (by omega)]
theorem same_ev (l : List S61) (hl : l.length ≤ 140737488351232) : Ev (fun k => ddilaw43_same.f k l (l.map cv)) true := by
  unfold ddilaw43_same.f
  simp only [len_cv, if_true]
  exact same_from l hl l 0 rfl
/-! ### Expire -/
def liveB (t : Int) (x : S61) : Bool := !decide (x.f2 ≤ t)
def expT (l : List S61) (t : Int) : List S61 := l.filter (liveB t)
theorem idx_from (l : List S61) (hl : l.length ≤ 140737488351232) (t : Int) : ∀ (r : List S61) (i : Nat), l.drop i = r → (l.take i).filter (liveB t) = l.take i → ∃ v : Int, Ev (fun k => slices_IndexFunc_45.l0 k l (l.length : Int) (i : Int) t) v ∧ ((v = -1 ∧ expT l t = l) ∨ ∃ j : Nat, v = (j : Int) ∧ j < l.length ∧ (l.take j).filter (liveB t) = l.take j ∧ (l.take (j + 1)).filter (liveB t) = l.take j)
  | [], i, h, hf => by
    have := drop_end h
    refine ⟨-1, Ev_shift 1 (f := fun _ => some (-1)) (fun k => by rw [slices_IndexFunc_45.l0, if_neg (by omega)]) (Ev_const rfl), .inl ⟨rfl, ?_⟩⟩
    rw [List.take_of_length_le this] at hf
    exact hf
  | x :: r, i, h, hf => by
    obtain ⟨hi, hx, hr⟩ := rd61 l i x r h
    have hxi : l[i] = x := (drop_at h).2.1
    by_cases hb : x.f2 ≤ t
    · refine ⟨(i : Int), Ev_shift 1 (f := fun _ => some (i : Int)) (fun k => ?_) (Ev_const rfl), .inr ⟨i, rfl, hi, hf, ?_⟩⟩
      · rw [slices_IndexFunc_45.l0, if_pos (by omega), if_pos (by omega), if_pos (by omega), hx, delegate_Expire_1.f, Option.bind_some, if_pos (decide_eq_true hb)]
      · rw [List.take_succ_eq_append_getElem hi, List.filter_append, hf, hxi, List.filter_cons, if_neg (by unfold liveB; rw [decide_eq_true hb]; decide), List.filter_nil, List.append_nil]
    · have hf2 : (l.take (i + 1)).filter (liveB t) = l.take (i + 1) := by
        rw [List.take_succ_eq_append_getElem hi, List.filter_append, hf, hxi, List.filter_cons, if_pos (by unfold liveB; rw [decide_eq_false hb]; rfl), List.filter_nil]
      obtain ⟨v, h1, h2⟩ := idx_from l hl t r (i + 1) hr hf2
      refine ⟨v, Ev_shift 1 (fun k => ?_) h1, h2⟩
      rw [slices_IndexFunc_45.l0, if_pos (by omega), if_pos (by omega), if_pos (by omega), hx, delegate_Expire_1.f, Option.bind_some, if_neg (by rw [decide_eq_false hb]; decide), next i l.length hi (by omega)]
/-- In place: the first n are what lives of the first j of l; from j on all is as it was. -/
theorem del_from (l : List S61) (hl : l.length ≤ 140737488351232) (t : Int) : ∀ (r : List S61) (j : Nat) (m : List S61) (n : Nat), l.drop j = r → m.length = l.length → n = ((l.take j).filter (liveB t)).length → m.take n = (l.take j).filter (liveB t) → m.drop j = r → Ev (fun k => slices_DeleteFunc_45.l0 k m (n : Int) (j : Int) t) (expT l t)
  | [], j, m, n, h, hm, hn, ht, _ => by
    have := drop_end h
    refine Ev_shift 1 (f := fun _ => some (expT l t)) (fun k => ?_) (Ev_const rfl)
    have hnl : n ≤ m.length := by
      have h3 := List.length_filter_le (liveB t) (l.take j)
      rw [List.length_take] at h3
      omega
    rw [slices_DeleteFunc_45.l0, if_neg (by omega), if_pos (by omega), if_pos (by omega), Int.toNat_natCast, List.take_left' (by rw [List.length_take]; omega), ht, List.take_of_length_le this]
    rfl
  | x :: r, j, m, n, h, hm, hn, ht, hd => by
    obtain ⟨hj, hx, hr⟩ := rd61 m j x r hd
    obtain ⟨hjl, hxl, hrl⟩ := drop_at h
    have hnj : n ≤ j := by
      have h3 := List.length_filter_le (liveB t) (l.take j)
      rw [List.length_take] at h3
      omega
    by_cases hb : x.f2 ≤ t
    · have ht2 : m.take n = (l.take (j + 1)).filter (liveB t) := by
        rw [List.take_succ_eq_append_getElem hjl, List.filter_append, ht, hxl, List.filter_cons, if_neg (by unfold liveB; rw [decide_eq_true hb]; decide), List.filter_nil, List.append_nil]
      have ih := del_from l hl t r (j + 1) m n hrl hm (by rw [← ht2, ht]; exact hn) ht2 hr
      refine Ev_shift 1 (fun k => ?_) ih
      rw [slices_DeleteFunc_45.l0, if_pos (by omega), if_pos (by omega), hx, delegate_Expire_1.f, Option.bind_some, if_pos (decide_eq_true hb), next j m.length hj (by omega)]
    · have hnm : n < m.length := by omega
      have ht2 : (m.set n x).take (n + 1) = (l.take (j + 1)).filter (liveB t) := by
        rw [List.take_succ_eq_append_getElem hjl, List.filter_append, ← ht, hxl, List.filter_cons, if_pos (by unfold liveB; rw [decide_eq_false hb]; rfl), List.filter_nil, List.take_succ_eq_append_getElem (by rw [List.length_set]; exact hnm), List.getElem_set_self, List.take_set_of_le (Nat.le_refl n)]
      have hd2 : (m.set n x).drop (j + 1) = r := by
        rw [List.drop_set_of_lt (by omega)]
        exact hr
      have ih := del_from l hl t r (j + 1) (m.set n x) (n + 1) hrl (by rw [List.length_set]; exact hm) (by rw [← ht2, List.length_take, List.length_set]; omega) ht2 hd2
      refine Ev_shift 1 (fun k => ?_) ih
      rw [slices_DeleteFunc_45.l0, if_pos (by omega), if_pos (by omega), hx, delegate_Expire_1.f, Option.bind_some, if_neg (by rw [decide_eq_false hb]; decide), if_pos (by omega), if_pos (by omega), next j m.length hj (by omega), next n m.length hnm (by omega), Int.toNat_natCast]
theorem exp_ev (l : List S61) (hl : l.length ≤ 1000000000) (t : Int) : Ev (fun k => delegate_Expire.f k l t) (expT l t) := by
  unfold delegate_Expire.f
  have hc : slices_Clone.f l = some l := by rw [slices_Clone.f, if_pos (by omega)]
  rw [hc]
  refine Ev.bind (a := l) (Ev_const rfl) ?_
  refine Ev.bind (?_ : Ev (fun k => slices_DeleteFunc_45.f k l t) (expT l t)) (Ev_const rfl)
  unfold slices_DeleteFunc_45.f slices_IndexFunc_45.f
  obtain ⟨v, h1, h2⟩ := idx_from l (by omega) t l 0 rfl (by simp)
  refine Ev.bind h1 ?_
  rcases h2 with ⟨rfl, he⟩ | ⟨j, rfl, hj, hf, hf2⟩
  · simp only [if_true]
    rw [he]
    exact Ev_const rfl
  · have hne : ¬ (j : Int) = -1 := by omega
    simp only [if_neg hne]
    rw [next j l.length hj (by omega)]
    exact del_from l (by omega) t (l.drop (j + 1)) (j + 1) l j rfl rfl (by rw [hf2, List.length_take]; omega) hf2.symm rfl
theorem rexp_from (l : List S61) (hl : l.length ≤ 1000000000) (t : Int) : ∀ (r : List S61) (i : Nat), l.drop i = r → Ev (fun k => ddiref43_Expire.l0 k (l.map cv) t (((l.take i).filter (liveB t)).map cv) (i : Int)) ((expT l t).map cv)
  | [], i, h => by
    have := drop_end h
    refine Ev_shift 1 (f := fun _ => some ((expT l t).map cv)) (fun k => ?_) (Ev_const rfl)
    rw [ddiref43_Expire.l0, len_cv, if_neg (by omega), List.take_of_length_le this]
    rfl
  | x :: r, i, h => by
    obtain ⟨hi, hxi, hr⟩ := drop_at h
    have hx7 := rd70 l i x r h
    have ih := rexp_from l hl t r (i + 1) hr
    have hlen : (((l.take i).filter (liveB t)).map cv).length < 2513169434916 := by
      have h3 := List.length_filter_le (liveB t) (l.take i)
      rw [List.length_take] at h3
      rw [List.length_map]
      omega
    rw [List.take_succ_eq_append_getElem hi, List.filter_append, hxi, List.filter_cons] at ih
    refine Ev_shift 1 (fun k => ?_) ih
    rw [ddiref43_Expire.l0, len_cv, if_pos (by omega), if_pos (by omega), hx7, next i l.length hi (by omega), show (cv x).f2 = x.f2 from rfl]
    by_cases hb : x.f2 ≤ t
    · rw [if_neg (by omega), if_neg (by unfold liveB; rw [decide_eq_true hb]; decide), List.filter_nil, List.append_nil]
    · rw [if_pos (by omega), if_pos hlen, if_pos (by unfold liveB; rw [decide_eq_false hb]; rfl), List.filter_nil, List.map_append]
      rfl
theorem rexp_ev (l : List S61) (hl : l.length ≤ 1000000000) (t : Int) : Ev (fun k => ddiref43_Expire.f k (l.map cv) t) ((expT l t).map cv) := by
  unfold ddiref43_Expire.f
  exact rexp_from l hl t l 0 rfl
/-! ### Route -/
end Go.Proofs.Ythjngcjhjnigjaa.Ma
namespace Go.Proofs.Ythjngcjhjnigjaa.Cm
open Go.RowKit Go.Proofs.YthjngcjhjnigjaaW.PrintWords Go.Proofs.YthjngcjhjnigjaaW.PrintLast Go.Proofs.YthjngcjhjnigjaaW.PrintMore Go.Proofs.Ythjngcjhjnigjaa.XP
set_option linter.unusedVariables false
set_option linter.unusedSimpArgs false
theorem bt_at_drop (s : ByteArray) (i : Nat) (c : UInt8) (r : List UInt8) (h : s.data.toList.drop i = c :: r) : i < s.size ∧ bt s (i : Int) = (c.toNat : Int) ∧ s.data.toList.drop (i + 1) = r := by
  obtain ⟨hi, hx, hr⟩ := drop_at h
  refine ⟨by rw [size_data]; exact hi, ?_, hr⟩
  rw [bt_get s i hi, hx]
theorem size_end (s : ByteArray) (i : Nat) (h : s.data.toList.drop i = []) : s.size ≤ i := by rw [size_data]; exact drop_end h
theorem toL (s : ByteArray) : s.toList = s.data.toList := ByteArray.toList_eq s
end Go.Proofs.Ythjngcjhjnigjaa.Cm
namespace Go.Proofs.Ythjngcjhjnigjaa.Ma
open Go.RowKit Go.Proofs.YthjngcjhjnigjaaW.PrintWords Go.Proofs.YthjngcjhjnigjaaW.PrintLast Go.Proofs.YthjngcjhjnigjaaW.PrintMore Go.Proofs.Ythjngcjhjnigjaa.XP Go.Proofs.Ythjngcjhjnigjaa.QA Go.Proofs.Ythjngcjhjnigjaa.Cm
set_option linter.unusedVariables false
set_option linter.unusedSimpArgs false
def vis (c : UInt8) : Bool := decide (33 ≤ c.toNat) && decide (c.toNat ≤ 126)
theorem vis_at (c : UInt8) {β : Type} (g : Bool → β) : (if (c.toNat : Int) < 33 then g true else g (decide ((c.toNat : Int) > 126))) = g (!vis c) := by
  unfold vis
  split
  · rw [decide_eq_false (show ¬ 33 ≤ c.toNat by omega)]; rfl
  · rw [decide_eq_true (show 33 ≤ c.toNat by omega), Bool.true_and]
    congr 1
    rw [Bool.eq_iff_iff]
    simp
    omega
theorem named_from (s : ByteArray) (hs : s.size ≤ 140737488351232) : ∀ (r : List UInt8) (i : Nat), s.data.toList.drop i = r → Ev (fun k => delegate_named.l0 k s (s.size : Int) (i : Int)) (r.all vis)
  | [], i, h => by
    have := size_end s i h
    exact Ev_shift 1 (f := fun _ => some true) (fun k => by rw [delegate_named.l0, if_neg (by omega)]) (Ev_const rfl)
  | c :: r, i, h => by
    obtain ⟨hi, hb, hr⟩ := bt_at_drop s i c r h
    have ih := named_from s hs r (i + 1) hr
    refine Ev_shift 1 (f := fun k => delegate_named.j2 k s (s.size : Int) (i : Int) (!vis c)) (fun k => ?_) ?_
    · rw [delegate_named.l0, if_pos (by omega), if_pos (by omega), if_pos (by omega), hb]
      exact vis_at c (fun b => delegate_named.j2 k s (s.size : Int) (i : Int) b)
    · rw [List.all_cons]
      cases vis c with
      | false => exact Ev_shift 1 (f := fun _ => some false) (fun k => by rw [delegate_named.j2]; rfl) (Ev_const rfl)
      | true =>
        rw [Bool.true_and]
        exact Ev_shift 1 (fun k => by rw [delegate_named.j2, next i s.size hi (by omega)]; rfl) ih
theorem rnamed_from (s : ByteArray) (hs : s.size ≤ 140737488351232) : ∀ (r : List UInt8) (i : Nat), s.data.toList.drop i = r → Ev (fun k => ddiref43_isClient.l0 k s (i : Int)) (r.all vis)
  | [], i, h => by
    have := size_end s i h
    exact Ev_shift 1 (f := fun _ => some true) (fun k => by rw [ddiref43_isClient.l0, if_neg (by omega)]) (Ev_const rfl)
  | c :: r, i, h => by
    obtain ⟨hi, hb, hr⟩ := bt_at_drop s i c r h
    have ih := rnamed_from s hs r (i + 1) hr
    refine Ev_shift 1 (f := fun k => ddiref43_isClient.j2 k s (i : Int) (!vis c)) (fun k => ?_) ?_
    · rw [ddiref43_isClient.l0, if_pos (by omega), if_pos (by omega), hb]
      exact vis_at c (fun b => ddiref43_isClient.j2 k s (i : Int) b)
    · rw [List.all_cons]
      cases vis c with
      | false => exact Ev_shift 1 (f := fun _ => some false) (fun k => by rw [ddiref43_isClient.j2]; rfl) (Ev_const rfl)
      | true =>
        rw [Bool.true_and]
        exact Ev_shift 1 (fun k => by rw [ddiref43_isClient.j2, next i s.size hi (by omega)]; rfl) ih
def cliB (s : ByteArray) : Bool := decide (1 ≤ s.size) && (decide (s.size ≤ 32) && s.data.toList.all vis)
theorem toList_nil (s : ByteArray) : s.toList = [] ↔ s.size = 0 := by
  rw [toL, size_data]
  exact List.length_eq_zero_iff.symm
theorem named_ev (s : ByteArray) (hs : s.size ≤ 140737488351232) : Ev (fun k => delegate_named.f k s) (cliB s) := by
  unfold delegate_named.f cliB
  have hj : ∀ b : Bool, Ev (fun k => delegate_named.j0 k s b) (if b = true then false else s.data.toList.all vis) := fun b => by
    cases b with
    | true => exact Ev_shift 1 (f := fun _ => some false) (fun k => by rw [delegate_named.j0, if_pos rfl]) (Ev_const rfl)
    | false => exact Ev_shift 1 (fun k => by rw [delegate_named.j0, if_neg Bool.false_ne_true]; rfl) (named_from s hs _ 0 rfl)
  by_cases h : s.toList = []
  · simp only [if_pos h]
    have := (toList_nil s).1 h
    rw [decide_eq_false (show ¬ 1 ≤ s.size by omega), Bool.false_and]
    exact hj true
  · simp only [if_neg h]
    have h0 : ¬ s.size = 0 := fun h2 => h ((toList_nil s).2 h2)
    rw [decide_eq_true (show 1 ≤ s.size by omega), Bool.true_and]
    have := hj (decide ((s.size : Int) > 32))
    by_cases h3 : s.size ≤ 32
    · rw [decide_eq_false (show ¬ (s.size : Int) > 32 by omega)] at this ⊢
      rw [decide_eq_true h3, Bool.true_and]
      exact this
    · rw [decide_eq_true (show (s.size : Int) > 32 by omega)] at this ⊢
      rw [decide_eq_false h3, Bool.false_and]
      exact this
theorem rnamed_ev (s : ByteArray) (hs : s.size ≤ 140737488351232) : Ev (fun k => ddiref43_isClient.f k s) (cliB s) := by
  unfold ddiref43_isClient.f cliB
  have hj : ∀ b : Bool, Ev (fun k => ddiref43_isClient.j0 k s b) (if b = true then false else s.data.toList.all vis) := fun b => by
    cases b with
    | true => exact Ev_shift 1 (f := fun _ => some false) (fun k => by rw [ddiref43_isClient.j0, if_pos rfl]) (Ev_const rfl)
    | false => exact Ev_shift 1 (fun k => by rw [ddiref43_isClient.j0, if_neg Bool.false_ne_true]; rfl) (rnamed_from s hs _ 0 rfl)
  by_cases h : (s.size : Int) < 1
  · simp only [if_pos h]
    rw [decide_eq_false (show ¬ 1 ≤ s.size by omega), Bool.false_and]
    exact hj true
  · simp only [if_neg h]
    rw [decide_eq_true (show 1 ≤ s.size by omega), Bool.true_and]
    have := hj (decide ((s.size : Int) > 32))
    by_cases h3 : s.size ≤ 32
    · rw [decide_eq_false (show ¬ (s.size : Int) > 32 by omega)] at this ⊢
      rw [decide_eq_true h3, Bool.true_and]
      exact this
    · rw [decide_eq_true (show (s.size : Int) > 32 by omega)] at this ⊢
      rw [decide_eq_false h3, Bool.false_and]
      exact this
/-! ### pools -/
def poolB (p : S28) : Bool := pvB p.f0 && (decide (p.f1 ≥ p.f0.f1) && (decide (p.f1 ≤ lenV p.f0.f0.f0) && decide (p.f1 - p.f0.f1 ≤ 32)))
theorem right_ev (p : S28) (hp : (Lit.int .i64 p.f1).wf = true) : Ev (fun k => delegate_right.f k p.f0.f0.f0 p.f0.f0.f1 p.f0.f0.f2 p.f0.f1 p.f1) (poolB p) := by
  have hw := wf_i64 hp
  have hj : ∀ m : Int, m = lenV p.f0.f0.f0 → Ev (fun k => delegate_right.j0 k m p.f0.f0.f0 p.f0.f0.f1 p.f0.f0.f2 p.f0.f1 p.f1) (poolB p) := fun m hm => by
    subst hm
    refine Ev_shift 1 (fun k => by rw [delegate_right.j0]) ?_
    refine Ev.bind (valid_pfx p.f0) ?_
    unfold poolB
    cases hv : pvB p.f0 with
    | false => exact Ev_const rfl
    | true =>
      obtain ⟨_, h0, h1⟩ := pv_in hv
      have hl := lenV_le p.f0.f0.f0
      have hwr : wrap64 (p.f0.f1 + 32) = p.f0.f1 + 32 := wrap_id (by omega) (by omega)
      simp only [if_true, Bool.true_and, hwr]
      by_cases g1 : p.f1 ≥ p.f0.f1
      · simp only [if_pos g1, decide_eq_true g1, Bool.true_and]
        by_cases g2 : p.f1 ≤ lenV p.f0.f0.f0
        · simp only [if_pos g2, decide_eq_true g2, Bool.true_and]
          refine Ev_const ?_
          congr 1
          rw [Bool.eq_iff_iff, decide_eq_true_eq, decide_eq_true_eq]
          omega
        · simp only [if_neg g2, decide_eq_false g2, Bool.false_and]
          exact Ev_const rfl
      · simp only [if_neg g1, decide_eq_false g1, Bool.false_and]
        exact Ev_const rfl
  unfold delegate_right.f
  cases hb : p.f0.f0.f0 with
  | true =>
    simp only [if_true]
    have := hj 128 (by rw [hb]; rfl)
    rw [hb] at this
    exact this
  | false =>
    simp only [Bool.false_eq_true, if_false]
    have := hj 32 (by rw [hb]; rfl)
    rw [hb] at this
    exact this
theorem rright_ev (p : S28) (hp : (Lit.int .i64 p.f1).wf = true) : Ev (fun k => ddiref43_isPool.f k p.f0.f0.f0 p.f0.f0.f1 p.f0.f0.f2 p.f0.f1 p.f1) (poolB p) := by
  have hw := wf_i64 hp
  unfold ddiref43_isPool.f
  refine Ev.bind (rvalid_pfx p.f0) ?_
  unfold poolB
  cases hv : pvB p.f0 with
  | false => exact Ev_const rfl
  | true =>
    obtain ⟨_, h0, h1⟩ := pv_in hv
    have hl := lenV_le p.f0.f0.f0
    have key : ∀ m : Int, m = lenV p.f0.f0.f0 → (if p.f1 ≥ p.f0.f1 then (if p.f1 ≤ m then some (decide (wrap64 (p.f1 - p.f0.f1) ≤ 32)) else some false) else some false) = some (true && (decide (p.f1 ≥ p.f0.f1) && (decide (p.f1 ≤ lenV p.f0.f0.f0) && decide (p.f1 - p.f0.f1 ≤ 32)))) := fun m hm => by
      subst hm
      by_cases g1 : p.f1 ≥ p.f0.f1
      · by_cases g2 : p.f1 ≤ lenV p.f0.f0.f0
        · rw [if_pos g1, if_pos g2, wrap_id (by omega) (by omega), decide_eq_true g1, decide_eq_true g2]; rfl
        · rw [if_pos g1, if_neg g2, decide_eq_true g1, decide_eq_false g2]; rfl
      · rw [if_neg g1, decide_eq_false g1]; rfl
    simp only [if_true]
    cases hb : p.f0.f0.f0 with
    | true =>
      have := key 128 (by rw [hb]; rfl)
      rw [hb] at this
      simp only [if_true]
      exact Ev_const this
    | false =>
      have := key 32 (by rw [hb]; rfl)
      rw [hb] at this
      simp only [Bool.false_eq_true, if_false]
      exact Ev_const this
def ofB (p : S28) (x : S26) : Bool := decide (x.f1 = p.f1) && pwB x p.f0
theorem belongs_ev (p : S28) (x : S26) : Ev (fun k => delegate_belongs.f k p.f0.f0.f0 p.f0.f0.f1 p.f0.f0.f2 p.f0.f1 p.f1 x.f0.f0 x.f0.f1 x.f0.f2 x.f1) (ofB p x) := by
  unfold delegate_belongs.f ofB
  by_cases h : x.f1 = p.f1
  · simp only [if_pos h, decide_eq_true h, Bool.true_and]
    exact Ev.bind (within_pfx x p.f0) (Ev_const rfl)
  · simp only [if_neg h, decide_eq_false h, Bool.false_and]
    exact Ev_const rfl
theorem rof_ev (p : S28) (x : S26) (ok : uA x.f0) : Ev (fun k => ddiref43_of.f k p.f0.f0.f0 p.f0.f0.f1 p.f0.f0.f2 p.f0.f1 p.f1 x.f0.f0 x.f0.f1 x.f0.f2 x.f1) (ofB p x) := by
  unfold ddiref43_of.f ofB
  refine Ev.bind (rvalid_pfx x) ?_
  cases hv : pvB x with
  | false =>
    have : pwB x p.f0 = false := by unfold pwB; rw [hv]; rfl
    rw [this, Bool.and_false]
    exact Ev_const rfl
  | true =>
    simp only [if_true]
    by_cases h : x.f1 = p.f1
    · simp only [if_pos h, decide_eq_true h, Bool.true_and]
      exact Ev.bind (rwithin_pfx x p.f0 ok) (Ev_const rfl)
    · simp only [if_neg h, decide_eq_false h, Bool.false_and]
      exact Ev_const rfl
def pcmp (x y : S26) : Int := if cmp x.f0 y.f0 = 0 then (if x.f1 < y.f1 then -1 else (if x.f1 > y.f1 then 1 else 0)) else cmp x.f0 y.f0
theorem pcmp_ev (x y : S26) : Ev (fun k => prefix_Compare.f k x.f0.f0 x.f0.f1 x.f0.f2 x.f1 y.f0.f0 y.f0.f1 y.f0.f2 y.f1) (pcmp x y) := by
  unfold prefix_Compare.f pcmp
  refine Ev.bind (ucmp x.f0 y.f0) (Ev_const ?_)
  repeat' split
  all_goals rfl
theorem rpcmp (x y : S26) : ddiref03_Compare.f x.f0.f0 x.f0.f1 x.f0.f2 x.f1 y.f0.f0 y.f0.f1 y.f0.f2 y.f1 = some (pcmp x y) := by
  unfold ddiref03_Compare.f pcmp
  rw [rcmp, Option.bind_some]
  repeat' split
  all_goals rfl
/-! ### the check -/
def mineB (c : ByteArray) (h : S61) : Bool := h.f1.toList == c.toList
theorem has_from (q : List S61) (hq : q.length ≤ 140737488351232) (g : S61) : ∀ (r : List S61) (i : Nat), q.drop i = r → ∃ v : Int, Ev (fun k => slices_IndexFunc_37.l0 k q (q.length : Int) (i : Int) g.f0.f0.f0 g.f0.f0.f1 g.f0.f0.f2 g.f0.f1 g.f1 g.f2) v ∧ decide (v ≥ 0) = r.any (mineB g.f1)
  | [], i, h => by
    have := drop_end h
    exact ⟨-1, Ev_shift 1 (f := fun _ => some (-1)) (fun k => by rw [slices_IndexFunc_37.l0, if_neg (by omega)]) (Ev_const rfl), rfl⟩
  | x :: r, i, h => by
    obtain ⟨hi, hx, hr⟩ := rd61 q i x r h
    cases hb : mineB g.f1 x with
    | true =>
      refine ⟨(i : Int), Ev_shift 1 (f := fun _ => some (i : Int)) (fun k => ?_) (Ev_const rfl), by rw [List.any_cons, hb, decide_eq_true (show (i : Int) ≥ 0 by omega)]; rfl⟩
      rw [slices_IndexFunc_37.l0, if_pos (by omega), if_pos (by omega), if_pos (by omega), hx, delegate_Check_1.f, Option.bind_some, if_pos (show (x.f1.toList == g.f1.toList) = true from hb)]
    | false =>
      obtain ⟨v, h1, h2⟩ := has_from q hq g r (i + 1) hr
      refine ⟨v, Ev_shift 1 (fun k => ?_) h1, by rw [List.any_cons, hb, Bool.false_or]; exact h2⟩
      rw [slices_IndexFunc_37.l0, if_pos (by omega), if_pos (by omega), if_pos (by omega), hx, delegate_Check_1.f, Option.bind_some, if_neg (show ¬ (x.f1.toList == g.f1.toList) = true by show ¬ mineB g.f1 x = true; rw [hb]; decide), next i q.length hi (by omega)]
theorem has_ev (q : List S61) (hq : q.length ≤ 140737488351232) (g : S61) : Ev (fun k => slices_ContainsFunc_37.f k q g.f0.f0.f0 g.f0.f0.f1 g.f0.f0.f2 g.f0.f1 g.f1 g.f2) (q.any (mineB g.f1)) := by
  unfold slices_ContainsFunc_37.f slices_IndexFunc_37.f
  obtain ⟨v, h1, h2⟩ := has_from q hq g q 0 rfl
  exact Ev.bind h1 (Ev_const (by rw [h2]))
def timeB (t : Int) : Bool := decide (0 ≤ t) && decide (t ≤ 4294967295)
def upB : Option S26 → S26 → Bool
  | none, _ => true
  | some p, a => decide (pcmp p a < 0)
def chk (p : S28) (q : Option S26) (had : List S61) : List S61 → Int
  | [] => 0
  | g :: r => if ofB p g.f0 = true then (if upB q g.f0 = true then (if (cliB g.f1 && timeB g.f2) = true then (if had.any (mineB g.f1) = true then 12 else chk p (some g.f0) (had ++ [g]) r) else 1) else 7) else 3
theorem chk_from (p : S28) (l : List S61) (hl : l.length ≤ 140737488351232) (ok : ∀ g ∈ l, g.f1.size ≤ 140737488351232) : ∀ (r : List S61) (i : Nat) (q : Option S26), l.drop i = r → (i = 0 → q = none) → (∀ j : Nat, i = j + 1 → q = some (rd_T61 l (j : Int)).f0) → Ev (fun k => delegate_Check.l0 k l l (l.length : Int) (i : Int) p.f0.f0.f0 p.f0.f0.f1 p.f0.f0.f2 p.f0.f1 p.f1) (chk p q (l.take i) r)
  | [], i, q, h, _, _ => by
    have := drop_end h
    exact Ev_shift 1 (f := fun _ => some 0) (fun k => by rw [delegate_Check.l0, if_neg (by omega)]) (Ev_const rfl)
  | g :: r, i, q, h, hq0, hq1 => by
    obtain ⟨hi, hx, hr⟩ := rd61 l i g r h
    have hgi : l[i] = g := (drop_at h).2.1
    have hgl : g ∈ l := List.mem_of_mem_drop (i := i) (by rw [h]; exact List.mem_cons_self ..)
    have ih := chk_from p l hl ok r (i + 1) (some g.f0) hr (fun e => by omega) (fun j e => by
      have : j = i := by omega
      rw [this, hx])
    rw [List.take_succ_eq_append_getElem hi, hgi, ← next i l.length hi (by omega)] at ih
    have h2 : ∀ b : Bool, Ev (fun k => delegate_Check.j2 k l (i : Int) l (l.length : Int) (i : Int) b p.f0.f0.f0 p.f0.f0.f1 p.f0.f0.f2 p.f0.f1 p.f1 g.f0.f0.f0 g.f0.f0.f1 g.f0.f0.f2 g.f0.f1 g.f1 g.f2) (if b = true then 1 else (if (l.take i).any (mineB g.f1) = true then 12 else chk p (some g.f0) (l.take i ++ [g]) r)) := fun b => by
      cases b with
      | true => exact Ev_shift 1 (f := fun _ => some 1) (fun k => by rw [delegate_Check.j2, if_pos rfl]) (Ev_const rfl)
      | false =>
        refine Ev_shift 1 (fun k => by rw [delegate_Check.j2, if_neg Bool.false_ne_true, if_pos (by omega), if_pos (by omega), Int.toNat_natCast]) ?_
        refine Ev.bind (has_ev (l.take i) (by rw [List.length_take]; omega) g) ?_
        cases (l.take i).any (mineB g.f1) with
        | true => exact Ev_const rfl
        | false => exact ih
    have h1 : ∀ b : Bool, b = !upB q g.f0 → Ev (fun k => delegate_Check.j1 k l (i : Int) l (l.length : Int) (i : Int) b p.f0.f0.f0 p.f0.f0.f1 p.f0.f0.f2 p.f0.f1 p.f1 g.f0.f0.f0 g.f0.f0.f1 g.f0.f0.f2 g.f0.f1 g.f1 g.f2) (if upB q g.f0 = true then (if (cliB g.f1 && timeB g.f2) = true then (if (l.take i).any (mineB g.f1) = true then 12 else chk p (some g.f0) (l.take i ++ [g]) r) else 1) else 7) := by
      rintro b rfl
      cases upB q g.f0 with
      | false => exact Ev_shift 1 (f := fun _ => some 7) (fun k => by rw [delegate_Check.j1, Bool.not_false, if_pos rfl]) (Ev_const rfl)
      | true =>
        refine Ev_shift 1 (fun k => by rw [delegate_Check.j1, Bool.not_true, if_neg Bool.false_ne_true]) ?_
        refine Ev.bind (named_ev g.f1 (ok g hgl)) ?_
        simp only [if_true]
        cases cliB g.f1 with
        | false => exact h2 true
        | true =>
          simp only [if_true, Bool.true_and]
          unfold timeB
          by_cases g0 : g.f2 < 0
          · simp only [if_pos g0, decide_eq_false (show ¬ 0 ≤ g.f2 by omega), Bool.false_and]
            exact h2 true
          · simp only [if_neg g0, decide_eq_true (show 0 ≤ g.f2 by omega), Bool.true_and]
            by_cases g1 : g.f2 ≤ 4294967295
            · have := h2 (decide (g.f2 > 4294967295))
              simp only [decide_eq_false (show ¬ g.f2 > 4294967295 by omega), decide_eq_true g1, if_true] at this ⊢
              exact this
            · have := h2 (decide (g.f2 > 4294967295))
              simp only [decide_eq_true (show g.f2 > 4294967295 by omega), decide_eq_false g1, if_true] at this ⊢
              exact this
    unfold chk
    have hcx : ∀ b : Bool, Ev (fun k => delegate_belongs.f k p.f0.f0.f0 p.f0.f0.f1 p.f0.f0.f2 p.f0.f1 p.f1 g.f0.f0.f0 g.f0.f0.f1 g.f0.f0.f2 g.f0.f1) (ofB p g.f0) := fun _ => belongs_ev p g.f0
    cases i with
    | zero =>
      have h3 := h1 false (by rw [hq0 rfl]; rfl)
      refine Ev_shift 1 (fun k => by rw [delegate_Check.l0, if_pos (by omega), if_pos (by omega), if_pos (by omega), hx]) ?_
      refine Ev.bind (belongs_ev p g.f0) ?_
      cases ofB p g.f0 with
      | false => exact Ev_const rfl
      | true =>
        simp only [if_true, if_neg (show ¬ ((0 : Nat) : Int) > 0 by omega)]
        exact h3
    | succ j =>
      have hpj := hq1 j rfl
      have hj : (wrap64 (((j + 1 : Nat) : Int) - 1)) = (j : Int) := by rw [wrap_id (by omega) (by omega)]; omega
      have e0 : (0 : Int) ≤ (j : Int) := by omega
      have e1 : (j : Int) < (l.length : Int) := by omega
      have e2 : ((j + 1 : Nat) : Int) > 0 := by omega
      refine Ev_shift 1 (fun k => by rw [delegate_Check.l0, if_pos (by omega), if_pos (by omega), if_pos (by omega), hx]) ?_
      refine Ev.bind (belongs_ev p g.f0) ?_
      cases ofB p g.f0 with
      | false => exact Ev_const rfl
      | true =>
        simp only [if_true, if_pos e2, hj, if_pos e0, if_pos e1]
        refine Ev.bind (pcmp_ev (rd_T61 l (j : Int)).f0 g.f0) ?_
        refine h1 _ ?_
        rw [hpj]
        unfold upB
        rw [Bool.eq_iff_iff]
        simp
theorem rl1_from (p : S28) (l : List S61) (hl : l.length ≤ 140737488351232) (i : Nat) (hi : i < l.length) (g : S61) (R : Int) (hR : Ev (fun k => ddiref43_Check.l0 k (l.map cv) (wrap64 ((i : Int) + 1)) p.f0.f0.f0 p.f0.f0.f1 p.f0.f0.f2 p.f0.f1 p.f1) R) : ∀ (d j : Nat), i - j ≤ d → j ≤ i → Ev (fun k => ddiref43_Check.l1 k (l.map cv) (i : Int) (j : Int) p.f0.f0.f0 p.f0.f0.f1 p.f0.f0.f2 p.f0.f1 p.f1 g.f0.f0.f0 g.f0.f0.f1 g.f0.f0.f2 g.f0.f1 g.f1 g.f2) (if ((l.take i).drop j).any (mineB g.f1) = true then 12 else R)
  | d, j, hd, hj => by
    by_cases h : j < i
    · have hjl : j < (l.take i).length := by rw [List.length_take]; omega
      have e : (l.take i).drop j = (l.take i)[j] :: (l.take i).drop (j + 1) := List.drop_eq_getElem_cons hjl
      have e2 : (l.take i)[j] = l[j] := List.getElem_take
      cases d with
      | zero => exact absurd hd (by omega)
      | succ d =>
        have ih := rl1_from p l hl i hi g R hR d (j + 1) (by omega) (by omega)
        rw [e, e2, List.any_cons]
        by_cases hc : l[j].f1.toList = g.f1.toList
        · have hb : mineB g.f1 l[j] = true := by unfold mineB; rw [hc]; exact beq_self_eq_true _
          rw [hb, Bool.true_or, if_pos rfl]
          exact Ev_shift 1 (f := fun _ => some 12) (fun k => by rw [ddiref43_Check.l1, if_pos (by omega), if_pos (by omega), len_cv, if_pos (by omega), rdAt70 l j (by omega), if_pos (show (cv l[j]).f1.toList = g.f1.toList from hc)]) (Ev_const rfl)
        · have hb : mineB g.f1 l[j] = false := beq_eq_false_iff_ne.2 hc
          rw [hb, Bool.false_or]
          exact Ev_shift 1 (fun k => by rw [ddiref43_Check.l1, if_pos (by omega), if_pos (by omega), len_cv, if_pos (by omega), rdAt70 l j (by omega), if_neg (show ¬ (cv l[j]).f1.toList = g.f1.toList from hc), next j l.length (by omega) (by omega)]) ih
    · rw [List.drop_eq_nil_of_le (by rw [List.length_take]; omega)]
      exact Ev_shift 1 (fun k => by rw [ddiref43_Check.l1, if_neg (by omega)]) hR
theorem rchk_from (p : S28) (l : List S61) (hl : l.length ≤ 140737488351232) (ok : ∀ g ∈ l, g.f1.size ≤ 140737488351232) (okA : ∀ g ∈ l, uA g.f0.f0) : ∀ (r : List S61) (i : Nat) (q : Option S26), l.drop i = r → (i = 0 → q = none) → (∀ j : Nat, i = j + 1 → q = some (rd_T61 l (j : Int)).f0) → Ev (fun k => ddiref43_Check.l0 k (l.map cv) (i : Int) p.f0.f0.f0 p.f0.f0.f1 p.f0.f0.f2 p.f0.f1 p.f1) (chk p q (l.take i) r)
  | [], i, q, h, _, _ => by
    have := drop_end h
    exact Ev_shift 1 (f := fun _ => some 0) (fun k => by rw [ddiref43_Check.l0, len_cv, if_neg (by omega)]) (Ev_const rfl)
  | g :: r, i, q, h, hq0, hq1 => by
    obtain ⟨hi, hx0, hr⟩ := rd61 l i g r h
    have hx := rd70 l i g r h
    have hgi : l[i] = g := (drop_at h).2.1
    have hgl : g ∈ l := List.mem_of_mem_drop (i := i) (by rw [h]; exact List.mem_cons_self ..)
    have ih := rchk_from p l hl ok okA r (i + 1) (some g.f0) hr (fun e => by omega) (fun j e => by
      have : j = i := by omega
      rw [this, hx0])
    rw [List.take_succ_eq_append_getElem hi, hgi, ← next i l.length hi (by omega)] at ih
    have h2 : ∀ b : Bool, Ev (fun k => ddiref43_Check.j2 k (l.map cv) (i : Int) b p.f0.f0.f0 p.f0.f0.f1 p.f0.f0.f2 p.f0.f1 p.f1 g.f0.f0.f0 g.f0.f0.f1 g.f0.f0.f2 g.f0.f1 g.f1 g.f2) (if b = true then 1 else (if (l.take i).any (mineB g.f1) = true then 12 else chk p (some g.f0) (l.take i ++ [g]) r)) := fun b => by
      cases b with
      | true => exact Ev_shift 1 (f := fun _ => some 1) (fun k => by rw [ddiref43_Check.j2, if_pos rfl]) (Ev_const rfl)
      | false =>
        refine Ev_shift 1 (fun k => by rw [ddiref43_Check.j2, if_neg Bool.false_ne_true]) ?_
        exact rl1_from p l hl i hi g _ ih i 0 (by omega) (by omega)
    have h1 : ∀ b : Bool, b = !upB q g.f0 → Ev (fun k => ddiref43_Check.j1 k (l.map cv) (i : Int) b p.f0.f0.f0 p.f0.f0.f1 p.f0.f0.f2 p.f0.f1 p.f1 g.f0.f0.f0 g.f0.f0.f1 g.f0.f0.f2 g.f0.f1 g.f1 g.f2) (if upB q g.f0 = true then (if (cliB g.f1 && timeB g.f2) = true then (if (l.take i).any (mineB g.f1) = true then 12 else chk p (some g.f0) (l.take i ++ [g]) r) else 1) else 7) := by
      rintro b rfl
      cases upB q g.f0 with
      | false => exact Ev_shift 1 (f := fun _ => some 7) (fun k => by rw [ddiref43_Check.j1, Bool.not_false, if_pos rfl]) (Ev_const rfl)
      | true =>
        refine Ev_shift 1 (fun k => by rw [ddiref43_Check.j1, Bool.not_true, if_neg Bool.false_ne_true]) ?_
        refine Ev.bind (rnamed_ev g.f1 (ok g hgl)) ?_
        simp only [if_true]
        cases cliB g.f1 with
        | false => exact h2 true
        | true =>
          simp only [if_true, Bool.true_and]
          unfold timeB
          by_cases g0 : g.f2 < 0
          · simp only [if_pos g0, decide_eq_false (show ¬ 0 ≤ g.f2 by omega), Bool.false_and]
            exact h2 true
          · simp only [if_neg g0, decide_eq_true (show 0 ≤ g.f2 by omega), Bool.true_and]
            by_cases g1 : g.f2 ≤ 4294967295
            · have := h2 (decide (g.f2 > 4294967295))
              simp only [decide_eq_false (show ¬ g.f2 > 4294967295 by omega), decide_eq_true g1, if_true] at this ⊢
              exact this
            · have := h2 (decide (g.f2 > 4294967295))
              simp only [decide_eq_true (show g.f2 > 4294967295 by omega), decide_eq_false g1, if_true] at this ⊢
              exact this
    unfold chk
    cases i with
    | zero =>
      have h3 := h1 false (by rw [hq0 rfl]; rfl)
      refine Ev_shift 1 (fun k => by rw [ddiref43_Check.l0, len_cv, if_pos (by omega), if_pos (by omega), hx]) ?_
      refine Ev.bind (rof_ev p g.f0 (okA g hgl)) ?_
      cases ofB p g.f0 with
      | false => exact Ev_const rfl
      | true =>
        simp only [if_true, if_neg (show ¬ ((0 : Nat) : Int) > 0 by omega)]
        exact h3
    | succ j =>
      have hpj := hq1 j rfl
      have hj : (wrap64 (((j + 1 : Nat) : Int) - 1)) = (j : Int) := by rw [wrap_id (by omega) (by omega)]; omega
      have e0 : (0 : Int) ≤ (j : Int) := by omega
      have e1 : (j : Int) < (l.length : Int) := by omega
      have e2 : ((j + 1 : Nat) : Int) > 0 := by omega
      have hjl : j < l.length := by omega
      refine Ev_shift 1 (fun k => by rw [ddiref43_Check.l0, len_cv, if_pos (by omega), if_pos (by omega), hx]) ?_
      refine Ev.bind (rof_ev p g.f0 (okA g hgl)) ?_
      cases ofB p g.f0 with
      | false => exact Ev_const rfl
      | true =>
        simp only [if_true, if_pos e2, hj, if_pos e0, if_pos e1, rdAt70 l j hjl]
        have hc : ddiref03_Compare.f (cv l[j]).f0.f0.f0 (cv l[j]).f0.f0.f1 (cv l[j]).f0.f0.f2 (cv l[j]).f0.f1 (cv g).f0.f0.f0 (cv g).f0.f0.f1 (cv g).f0.f0.f2 (cv g).f0.f1 = some (pcmp l[j].f0 g.f0) := rpcmp l[j].f0 g.f0
        rw [hc]
        simp only [Option.bind_some]
        refine h1 _ ?_
        rw [hpj, rdAt l j hjl]
        unfold upB
        rw [Bool.eq_iff_iff]
        simp
/-- The check of a pool and its grants. -/
def chkT (p : S28) (l : List S61) : Int := if poolB p = true then (if l.length > 512 then 9 else chk p none [] l) else 3
theorem check_ev (p : S28) (hp : (Lit.int .i64 p.f1).wf = true) (l : List S61) (hl : l.length ≤ 140737488351232) (ok : ∀ g ∈ l, g.f1.size ≤ 140737488351232) : Ev (fun k => delegate_Check.f k p.f0.f0.f0 p.f0.f0.f1 p.f0.f0.f2 p.f0.f1 p.f1 l) (chkT p l) := by
  unfold delegate_Check.f chkT
  refine Ev.bind (right_ev p hp) ?_
  cases poolB p with
  | false => exact Ev_const rfl
  | true =>
    simp only [if_true]
    by_cases h : l.length > 512
    · simp only [if_pos h, if_pos (show (l.length : Int) > 512 by omega)]
      exact Ev_const rfl
    · simp only [if_neg h, if_neg (show ¬ (l.length : Int) > 512 by omega)]
      exact chk_from p l hl ok l 0 none rfl (fun _ => rfl) (fun j e => by omega)
theorem rcheck_ev (p : S28) (hp : (Lit.int .i64 p.f1).wf = true) (l : List S61) (hl : l.length ≤ 140737488351232) (ok : ∀ g ∈ l, g.f1.size ≤ 140737488351232) (okA : ∀ g ∈ l, uA g.f0.f0) : Ev (fun k => ddiref43_Check.f k p.f0.f0.f0 p.f0.f0.f1 p.f0.f0.f2 p.f0.f1 p.f1 (l.map cv)) (chkT p l) := by
  unfold ddiref43_Check.f chkT
  refine Ev.bind (rright_ev p hp) ?_
  cases poolB p with
  | false => exact Ev_const rfl
  | true =>
    simp only [if_true, len_cv]
    by_cases h : l.length > 512
    · simp only [if_pos h, if_pos (show (l.length : Int) > 512 by omega)]
      exact Ev_const rfl
    · simp only [if_neg h, if_neg (show ¬ (l.length : Int) > 512 by omega)]
      exact rchk_from p l hl ok okA l 0 none rfl (fun _ => rfl) (fun j e => by omega)
end Go.Proofs.Ythjngcjhjnigjaa.Ma
namespace Go.Proofs.Ythjngcjhjnigjaa.Ma
open Go.RowKit Go.Proofs.YthjngcjhjnigjaaW.PrintWords Go.Proofs.YthjngcjhjnigjaaW.PrintLast Go.Proofs.YthjngcjhjnigjaaW.PrintMore Go.Proofs.Ythjngcjhjnigjaa.XP Go.Proofs.Ythjngcjhjnigjaa.QA Go.Proofs.Ythjngcjhjnigjaa.Cm
set_option linter.unusedVariables false
set_option linter.unusedSimpArgs false
theorem awake_ev : Ev (fun k => ddilaw43_awake.f k) true := ⟨60, fun k hk => at_rounds ddilaw43_awake.mono hk (by decide +kernel)⟩
theorem chkT_pool (p : S28) (l : List S61) (h : chkT p l = 0) : poolB p = true := by
  unfold chkT at h
  split at h
  · assumption
  · cases h
theorem pool_bits (p : S28) (h : poolB p = true) : p.f0.f1 ≤ p.f1 ∧ p.f1 - p.f0.f1 ≤ 32 ∧ 0 ≤ p.f0.f1 ∧ p.f0.f1 ≤ 128 := by
  unfold poolB at h
  simp only [Bool.and_eq_true, decide_eq_true_eq] at h
  obtain ⟨hv, h1, h2, h3⟩ := h
  obtain ⟨_, h4, h5⟩ := pv_in hv
  have := lenV_le p.f0.f0.f0
  omega
def pow2 (n : Nat) : Int := ((2 ^ n : Nat) : Int)
theorem pow2_le (n : Nat) (h : n ≤ 32) : 1 ≤ pow2 n ∧ pow2 n ≤ 4294967296 := by
  have : ∀ m : Fin 33, 1 ≤ pow2 m.val ∧ pow2 m.val ≤ 4294967296 := by decide
  exact this ⟨n, by omega⟩
theorem size_from (p : S28) (hb : p.f1 ≤ 1000) (h0 : 0 ≤ p.f0.f1) (hle : p.f0.f1 ≤ p.f1) (h32 : p.f1 - p.f0.f1 ≤ 32) : ∀ (d : Nat) (i : Int), (p.f1 - i).toNat ≤ d → p.f0.f1 ≤ i → i ≤ p.f1 → Ev (fun k => ddiref43_size.l0 k (pow2 (i - p.f0.f1).toNat) i p.f0.f0.f0 p.f0.f0.f1 p.f0.f0.f2 p.f0.f1 p.f1) (pow2 (p.f1 - p.f0.f1).toNat)
  | d, i, hd, h1, h2 => by
    by_cases h : i < p.f1
    · cases d with
      | zero => exact absurd hd (by omega)
      | succ d =>
        have ih := size_from p hb h0 hle h32 d (i + 1) (by omega) (by omega) (by omega)
        have hp := pow2_le (i - p.f0.f1).toNat (by omega)
        have hp2 := pow2_le (i + 1 - p.f0.f1).toNat (by omega)
        have e : (i + 1 - p.f0.f1).toNat = (i - p.f0.f1).toNat + 1 := by omega
        have e2 : pow2 (i + 1 - p.f0.f1).toNat = 2 * pow2 (i - p.f0.f1).toNat := by
          rw [e]
          unfold pow2
          rw [Nat.pow_succ]
          omega
        refine Ev_shift 1 (fun k => ?_) ih
        rw [ddiref43_size.l0, if_pos h, wrap_id (x := i + 1) (by omega) (by omega), e2, IntKind.wrap_u64]
        congr 1
        rw [← e2]
        omega
    · have : i = p.f1 := by omega
      subst this
      exact Ev_shift 1 (f := fun _ => some (pow2 (p.f1 - p.f0.f1).toNat)) (fun k => by rw [ddiref43_size.l0, if_neg (by omega)]) (Ev_const rfl)
theorem size_ev (p : S28) (h : poolB p = true) : Ev (fun k => ddiref43_size.f k p.f0.f0.f0 p.f0.f0.f1 p.f0.f0.f2 p.f0.f1 p.f1) (pow2 (p.f1 - p.f0.f1).toNat) := by
  obtain ⟨h1, h2, h3, h4⟩ := pool_bits p h
  unfold ddiref43_size.f
  have := size_from p (by omega) h3 h1 h2 (p.f1 - p.f0.f1).toNat p.f0.f1 (by omega) (by omega) h1
  rw [show (p.f0.f1 - p.f0.f1).toNat = 0 by omega] at this
  exact this
def freeT (p : S28) (l : List S61) (t : Int) : Int := if chkT p l = 0 then IntKind.u64.wrap (pow2 (p.f1 - p.f0.f1).toNat - IntKind.u64.wrap ((expT l t).length : Int)) else 0
theorem own_ok (l : List S70) (ok : ∀ y ∈ l, okS70 y) : (∀ g ∈ ownT l, g.f1.size ≤ 100) ∧ ∀ g ∈ ownT l, uA g.f0.f0 := by
  constructor
  · intro g hg
    unfold ownT at hg
    obtain ⟨y, _, rfl⟩ := List.mem_map.1 hg
    exact cut_size y
  · intro g hg
    unfold ownT at hg
    obtain ⟨y, hy, rfl⟩ := List.mem_map.1 hg
    exact uA_of (ok y (List.mem_of_mem_take hy)).1.1
end Go.Proofs.Ythjngcjhjnigjaa.Ma
namespace Go.Proofs.Ythjngcjhjnigjaa.Cm
open Go.RowKit Go.Proofs.YthjngcjhjnigjaaW.PrintWords Go.Proofs.YthjngcjhjnigjaaW.PrintLast Go.Proofs.YthjngcjhjnigjaaW.PrintMore Go.Proofs.Ythjngcjhjnigjaa.XP Go.Proofs.Ythjngcjhjnigjaa.QA
set_option linter.unusedVariables false
set_option linter.unusedSimpArgs false
/-! ### shifts over 128 bits -/
def pHi (i : Int) (s : Nat) : Int := i * 2 ^ s / 18446744073709551616 % 18446744073709551616
def pLo (i : Int) (s : Nat) : Int := i * 2 ^ s % 18446744073709551616
theorem dbl (V : Int) : IntKind.u64.wrap (IntKind.u64.wrap (V / 18446744073709551616 % 18446744073709551616 * 2) + IntKind.u64.wrap (Int.tdiv (V % 18446744073709551616) 9223372036854775808)) = V * 2 / 18446744073709551616 % 18446744073709551616 ∧ IntKind.u64.wrap (V % 18446744073709551616 * 2) = V * 2 % 18446744073709551616 := by
  rw [Int.tdiv_eq_ediv_of_nonneg (by omega)]
  simp only [IntKind.wrap_u64]
  omega
theorem pow_up (i : Int) (s : Nat) : i * 2 ^ s * 2 = i * 2 ^ (s + 1) := by rw [Int.pow_succ, Int.mul_assoc]
theorem pow_split (a b : Nat) : (2 : Int) ^ a * 2 ^ b = 2 ^ (a + b) := (Int.pow_add 2 a b).symm
theorem pow_posI (a : Nat) : (0 : Int) < 2 ^ a := Int.pow_pos (by decide)
theorem sh_big (i : Int) (s : Nat) (h : 64 ≤ s) (h2 : s ≤ 128) : shl .u64 i ((s : Int) - 64) = pHi i s ∧ pLo i s = 0 := by
  obtain ⟨t, rfl⟩ : ∃ t, s = 64 + t := ⟨s - 64, by omega⟩
  have e : i * 2 ^ (64 + t) = i * 2 ^ t * 18446744073709551616 := by
    rw [← pow_split 64 t, Int.mul_comm (2 ^ 64) (2 ^ t), ← Int.mul_assoc]; rfl
  unfold pHi pLo shl
  rw [e, show (((64 + t : Nat) : Int) - 64).toNat = t by omega, show min t IntKind.u64.bits = t by show min t 64 = t; omega, IntKind.wrap_u64]
  generalize i * 2 ^ t = V
  omega
theorem sh_small (i : Int) (h0 : 0 ≤ i) (h1 : i < 18446744073709551616) (s : Nat) (hs : s ≤ 64) : shr .u64 i (64 - (s : Int)) = pHi i s ∧ shl .u64 i (s : Int) = pLo i s := by
  constructor
  · unfold pHi shr
    have e : (18446744073709551616 : Int) = 2 ^ (64 - s) * 2 ^ s := by rw [pow_split, show 64 - s + s = 64 by omega]; rfl
    have hq : i * 2 ^ s / 18446744073709551616 = i / 2 ^ (64 - s) := by
      rw [e, Int.mul_ediv_mul_of_pos_left _ _ (pow_posI s)]
    rw [hq, show (64 - (s : Int)).toNat = 64 - s by omega, show min (64 - s) IntKind.u64.bits = 64 - s by show min (64 - s) 64 = 64 - s; omega]
    have hd : 0 ≤ i / 2 ^ (64 - s) := Int.ediv_nonneg h0 (Int.le_of_lt (pow_posI _))
    have hd2 : i / 2 ^ (64 - s) ≤ i := Int.ediv_le_self _ h0
    omega
  · unfold pLo shl
    rw [show ((s : Int)).toNat = s by omega, show min s IntKind.u64.bits = s by show min s 64 = s; omega, IntKind.wrap_u64]
theorem rpart_from (v : Bool) (n i : Int) (a1 a2 a3 : Int) (R : Bool × Int × Int × Int × Bool) (hR : R = (v, IntKind.u64.wrap (a1 + pHi i (lenV v - n).toNat), IntKind.u64.wrap (a2 + pLo i (lenV v - n).toNat), n, true)) (h0 : 0 ≤ n) (h1 : n ≤ lenV v) : ∀ (d s : Nat), (lenV v - n).toNat - s ≤ d → s ≤ (lenV v - n).toNat → Ev (fun k => ddiref03_Part.l0 k n (pHi i s) (pLo i s) (n + (s : Int)) v a1 a2 a3) R
  | d, s, hd, hs => by
    have hl := lenV_le v
    by_cases h : n + (s : Int) < lenV v
    · cases d with
      | zero => exact absurd hd (by omega)
      | succ d =>
        have ih := rpart_from v n i a1 a2 a3 R hR h0 h1 d (s + 1) (by omega) (by omega)
        refine Ev_shift 1 (fun k => ?_) ih
        have hd := dbl (i * 2 ^ s)
        rw [pow_up] at hd
        rw [ddiref03_Part.l0, long_v, Option.bind_some, if_pos h]
        unfold pHi pLo
        rw [hd.1, hd.2, wrap_id (by omega) (by omega), show n + (s : Int) + 1 = n + ((s + 1 : Nat) : Int) by omega]
    · have : s = (lenV v - n).toNat := by omega
      refine Ev_shift 1 (f := fun _ => some R) (fun k => ?_) (Ev_const rfl)
      rw [ddiref03_Part.l0, long_v, Option.bind_some, if_neg h, hR, ← this]
/-! ### bits that do not meet -/
theorem nat_apart (x k y : Nat) (hx : x &&& (2 ^ k - 1) = 0) (hy : y < 2 ^ k) : x &&& y = 0 := by
  apply Nat.eq_of_testBit_eq
  intro j
  rw [Nat.testBit_and, Nat.zero_testBit]
  by_cases h : j < k
  · have := congrArg (fun n => n.testBit j) hx
    simp only [Nat.testBit_and, Nat.zero_testBit, Nat.testBit_two_pow_sub_one, h, decide_true, Bool.and_true] at this
    rw [this, Bool.false_and]
  · rw [Nat.testBit_lt_two_pow (Nat.lt_of_lt_of_le hy (Nat.pow_le_pow_right (by decide) (by omega))), Bool.and_false]
theorem b_and_nat (x m : Nat) (hx : x < 18446744073709551616) (hm : m < 18446744073709551616) : Go.bits .and .u64 (x : Int) (m : Int) = ((x &&& m : Nat) : Int) := by
  rw [b_and, BitVec.ofInt_natCast, BitVec.ofInt_natCast, BitVec.toNat_and, BitVec.toNat_ofNat, BitVec.toNat_ofNat, Nat.mod_eq_of_lt (by omega), Nat.mod_eq_of_lt (by omega)]
theorem apart (x y : Int) (k : Nat) (hk : k ≤ 64) (h0 : 0 ≤ x) (h1 : x < 18446744073709551616) (g0 : 0 ≤ y) (g1 : y < 2 ^ k) (h : Go.bits .and .u64 x ((2 ^ k - 1 : Nat) : Int) = 0) : Go.bits .and .u64 x y = 0 := by
  obtain ⟨x, rfl⟩ := Int.eq_ofNat_of_zero_le h0
  obtain ⟨y, rfl⟩ := Int.eq_ofNat_of_zero_le g0
  have hp : (2 : Nat) ^ k ≤ 18446744073709551616 := Nat.pow_le_pow_right (n := 2) (by decide) hk
  have hy : y < 2 ^ k := by exact_mod_cast g1
  rw [b_and_nat x (2 ^ k - 1) (by omega) (by omega)] at h
  rw [b_and_nat x y (by omega) (by omega), nat_apart x k y (by exact_mod_cast h) hy]
  rfl
/-- A number below 2^d, moved s bits up, has no more than d + s bits. -/
theorem p_lt (i : Int) (d s : Nat) (h0 : 0 ≤ i) (h : i < 2 ^ d) (hds : d + s ≤ 128) : (0 ≤ pHi i s ∧ pHi i s < 2 ^ (d + s - 64)) ∧ (0 ≤ pLo i s ∧ pLo i s < 2 ^ (min (d + s) 64)) := by
  have hV0 : 0 ≤ i * 2 ^ s := Int.mul_nonneg h0 (Int.le_of_lt (pow_posI s))
  have hV : i * 2 ^ s < 2 ^ (d + s) := by rw [← pow_split]; exact Int.mul_lt_mul_of_pos_right h (pow_posI s)
  unfold pHi pLo
  generalize i * 2 ^ s = V at hV0 hV
  by_cases hc : 64 ≤ d + s
  · obtain ⟨t, ht⟩ : ∃ t, d + s = 64 + t := ⟨d + s - 64, by omega⟩
    rw [ht, ← pow_split, show (2 : Int) ^ 64 = 18446744073709551616 from rfl] at hV
    have hq : V / 18446744073709551616 < 2 ^ t := Int.ediv_lt_of_lt_mul (by decide) (by rw [Int.mul_comm]; exact hV)
    have hq0 : 0 ≤ V / 18446744073709551616 := Int.ediv_nonneg hV0 (by decide)
    have ht2 : (2 : Int) ^ t ≤ 18446744073709551616 := by
      have : (2 : Nat) ^ t ≤ 2 ^ 64 := Nat.pow_le_pow_right (by decide) (by omega)
      have h2 : ((2 ^ t : Nat) : Int) ≤ ((2 ^ 64 : Nat) : Int) := by omega
      simpa using h2
    rw [show d + s - 64 = t by omega, show min (d + s) 64 = 64 by omega, show (2 : Int) ^ 64 = 18446744073709551616 from rfl]
    omega
  · have hb : (2 : Int) ^ (d + s) ≤ 18446744073709551616 := by
      have : (2 : Nat) ^ (d + s) ≤ 2 ^ 64 := Nat.pow_le_pow_right (by decide) (by omega)
      have h2 : ((2 ^ (d + s) : Nat) : Int) ≤ ((2 ^ 64 : Nat) : Int) := by omega
      simpa using h2
    rw [show d + s - 64 = 0 by omega, show min (d + s) 64 = d + s by omega]
    simp only [Int.pow_zero]
    omega
/-! ### Part -/
def parB (p : S26) (n i : Int) : Bool := pvB p && (decide (p.f1 ≤ n) && (decide (n ≤ lenV p.f0.f0) && (decide (n - p.f1 ≥ 64) || decide (i < 2 ^ (n - p.f1).toNat))))
def parV (p : S26) (n i : Int) : S26 := if parB p n i = true then ⟨⟨p.f0.f0, Go.bits .or .u64 p.f0.f1 (pHi i (lenV p.f0.f0 - n).toNat), Go.bits .or .u64 p.f0.f2 (pLo i (lenV p.f0.f0 - n).toNat)⟩, n⟩ else zPfx
theorem pLo_zero (i : Int) (h0 : 0 ≤ i) (h1 : i < 18446744073709551616) : pHi i 0 = 0 ∧ pLo i 0 = i := by
  unfold pHi pLo
  rw [Int.pow_zero, Int.mul_one]
  omega
theorem part_pfx (p : S26) (n i : Int) (hn : -9223372036854775808 ≤ n ∧ n ≤ 9223372036854775807) (h0 : 0 ≤ i) (h1 : i < 18446744073709551616) : Ev (fun k => prefix_Part.f k p.f0.f0 p.f0.f1 p.f0.f2 p.f1 n i) (tPfx (parV p n i) (parB p n i)) := by
  have hno : parB p n i = false → tPfx (parV p n i) (parB p n i) = (false, 0, 0, 0, false) := fun h => by
    unfold parV
    rw [h]
    rfl
  have hj0 : parB p n i = false → Ev (fun k => prefix_Part.j0 k n i true p.f0.f0 p.f0.f1 p.f0.f2 p.f1) (tPfx (parV p n i) (parB p n i)) := fun h => by
    rw [hno h]
    exact Ev_shift 1 (f := fun _ => some (false, 0, 0, 0, false)) (fun k => by rw [prefix_Part.j0, if_pos rfl]) (Ev_const rfl)
  have hj1n : parB p n i = false → Ev (fun k => prefix_Part.j1 k n i true p.f0.f0 p.f0.f1 p.f0.f2 p.f1) (tPfx (parV p n i) (parB p n i)) := fun h => by
    rw [hno h]
    exact Ev_shift 1 (f := fun _ => some (false, 0, 0, 0, false)) (fun k => by rw [prefix_Part.j1, if_pos rfl]) (Ev_const rfl)
  unfold prefix_Part.f
  refine Ev.bind (valid_pfx p) ?_
  cases hv : pvB p with
  | false => exact hj0 (by unfold parB; rw [hv]; rfl)
  | true =>
    obtain ⟨_, b0, b1⟩ := pv_in hv
    have hl := lenV_le p.f0.f0
    simp only [if_true]
    by_cases g1 : n < p.f1
    · simp only [if_pos g1]
      exact hj0 (by unfold parB; rw [decide_eq_false (show ¬ p.f1 ≤ n by omega), Bool.false_and, Bool.and_false])
    · simp only [if_neg g1, length_v, Option.bind_some]
      by_cases g2 : n ≤ lenV p.f0.f0
      · rw [decide_eq_false (show ¬ n > lenV p.f0.f0 by omega)]
        have hj1 : parB p n i = true → Ev (fun k => prefix_Part.j1 k n i false p.f0.f0 p.f0.f1 p.f0.f2 p.f1) (tPfx (parV p n i) (parB p n i)) := fun h => by
          unfold parV
          rw [h, if_pos rfl]
          have hw : IntKind.u64.wrap (wrap64 (lenV p.f0.f0 - n)) = ((lenV p.f0.f0 - n).toNat : Int) := by
            rw [wrap_id (by omega) (by omega), IntKind.wrap_u64]
            omega
          refine Ev_shift 1 (f := fun _ => some (tPfx ⟨⟨p.f0.f0, Go.bits .or .u64 p.f0.f1 (pHi i (lenV p.f0.f0 - n).toNat), Go.bits .or .u64 p.f0.f2 (pLo i (lenV p.f0.f0 - n).toNat)⟩, n⟩ true)) (fun k => ?_) (Ev_const rfl)
          rw [prefix_Part.j1, if_neg Bool.false_ne_true, length_v, Option.bind_some, hw]
          have hs : (lenV p.f0.f0 - n).toNat ≤ 128 := by omega
          generalize (lenV p.f0.f0 - n).toNat = s at hs
          by_cases q1 : (s : Int) ≥ 64
          · obtain ⟨e1, e2⟩ := sh_big i s (by omega) hs
            have e3 : IntKind.u64.wrap ((s : Int) - 64) = (s : Int) - 64 := by rw [IntKind.wrap_u64]; omega
            rw [if_pos q1, e3, if_pos (by omega), e1, e2]
            rfl
          · rw [if_neg q1]
            obtain ⟨e1, e2⟩ := sh_small i h0 h1 s (by omega)
            by_cases q2 : (s : Int) > 0
            · have e3 : IntKind.u64.wrap (64 - (s : Int)) = 64 - (s : Int) := by rw [IntKind.wrap_u64]; omega
              rw [if_pos q2, e3, if_pos (by omega), if_pos (by omega), e1, e2]
              rfl
            · have : s = 0 := by omega
              subst this
              obtain ⟨e4, e5⟩ := pLo_zero i h0 h1
              rw [if_neg q2, e4, e5]
              rfl
        have hwd : wrap64 (n - p.f1) = n - p.f1 := wrap_id (by omega) (by omega)
        by_cases g3 : n - p.f1 < 64
        · have hud : IntKind.u64.wrap (n - p.f1) = n - p.f1 := by rw [IntKind.wrap_u64]; omega
          refine Ev_shift 1 (fun k => by rw [prefix_Part.j0, if_neg Bool.false_ne_true, hwd, if_pos g3, hud, if_pos (by omega)]) ?_
          have hsr : shr .u64 i (n - p.f1) = i / 2 ^ (n - p.f1).toNat := by
            unfold shr
            rw [show min (n - p.f1).toNat IntKind.u64.bits = (n - p.f1).toNat by show min (n - p.f1).toNat 64 = (n - p.f1).toNat; omega]
          rw [hsr]
          by_cases g4 : i < 2 ^ (n - p.f1).toNat
          · have hp : parB p n i = true := by
              unfold parB
              rw [hv, decide_eq_true (show p.f1 ≤ n by omega), decide_eq_true g2, decide_eq_true g4, Bool.or_true]
              rfl
            rw [show (i / 2 ^ (n - p.f1).toNat != 0) = false by rw [Int.ediv_eq_zero_of_lt h0 g4]; rfl]
            exact hj1 hp
          · have hp : parB p n i = false := by
              unfold parB
              rw [decide_eq_false g4, decide_eq_false (show ¬ n - p.f1 ≥ 64 by omega), Bool.or_false, Bool.and_false, Bool.and_false, Bool.and_false]
            rw [show (i / 2 ^ (n - p.f1).toNat != 0) = true by
              have : 0 < i / 2 ^ (n - p.f1).toNat := Int.lt_of_lt_of_le (by decide : (0 : Int) < 1) (Int.le_ediv_of_mul_le (pow_posI _) (by rw [Int.one_mul]; omega))
              simpa using (by omega : i / 2 ^ (n - p.f1).toNat ≠ 0)]
            exact hj1n hp
        · have hp : parB p n i = true := by
            unfold parB
            rw [hv, decide_eq_true (show p.f1 ≤ n by omega), decide_eq_true g2, decide_eq_true (show n - p.f1 ≥ 64 by omega)]
            rfl
          refine Ev_shift 1 (fun k => by rw [prefix_Part.j0, if_neg Bool.false_ne_true, hwd, if_neg g3]) ?_
          exact hj1 hp
      · rw [decide_eq_true (show n > lenV p.f0.f0 by omega)]
        exact hj0 (by unfold parB; rw [decide_eq_false g2, Bool.false_and, Bool.and_false, Bool.and_false])
theorem lo_of (d : Int) (h0 : 0 ≤ d) (h1 : d ≤ 128) (i : Int) (hi : i < 18446744073709551616) : (i > mLo d.toNat) ↔ ¬ (d ≥ 64 ∨ i < 2 ^ d.toNat) := by
  unfold mLo
  by_cases h : d ≥ 64
  · rw [show min d.toNat 64 = 64 by omega]
    simp only [h, true_or, not_true, iff_false]
    have : ((2 ^ 64 - 1 : Nat) : Int) = 18446744073709551615 := by decide
    omega
  · rw [show min d.toNat 64 = d.toNat by omega]
    have hp : 1 ≤ 2 ^ d.toNat := Nat.one_le_two_pow
    have : ((2 ^ d.toNat - 1 : Nat) : Int) = (2 : Int) ^ d.toNat - 1 := by
      rw [Int.natCast_sub hp, Int.natCast_pow]
      rfl
    rw [this]
    omega
theorem ones_d (d : Int) (h0 : 0 ≤ d) (h1 : d ≤ 128) : Ev (fun k => ddiref03_ones.f k d) (mHi d.toNat, mLo d.toNat) := by
  obtain ⟨j, hj⟩ := Int.eq_ofNat_of_zero_le h0
  subst hj
  rw [Int.toNat_natCast]
  have h := ones_all ⟨j, by omega⟩
  exact ⟨300, fun k hk => at_rounds (g := fun k => ddiref03_ones.f k (j : Int)) (ddiref03_ones.mono (j : Int)) hk h⟩
/-- What is added to a prefix' address has none of its bits. -/
theorem par_bits (p : S26) (hu : uA p.f0) (n i : Int) (h0 : 0 ≤ i) (h1 : i < 18446744073709551616) (h : parB p n i = true) :
    (0 ≤ pHi i (lenV p.f0.f0 - n).toNat ∧ pHi i (lenV p.f0.f0 - n).toNat < 2 ^ ((lenV p.f0.f0 - p.f1).toNat - 64)) ∧ (0 ≤ pLo i (lenV p.f0.f0 - n).toNat ∧ pLo i (lenV p.f0.f0 - n).toNat < 2 ^ (min (lenV p.f0.f0 - p.f1).toNat 64)) ∧
    Go.bits .and .u64 p.f0.f1 (pHi i (lenV p.f0.f0 - n).toNat) = 0 ∧ Go.bits .and .u64 p.f0.f2 (pLo i (lenV p.f0.f0 - n).toNat) = 0 := by
  unfold parB at h
  simp only [Bool.and_eq_true, decide_eq_true_eq, Bool.or_eq_true] at h
  obtain ⟨hv, g1, g2, g3⟩ := h
  obtain ⟨_, b0, b1⟩ := pv_in hv
  have hl := lenV_le p.f0.f0
  have hlt : i < 2 ^ (n - p.f1).toNat := by
    rcases g3 with g3 | g3
    · have : (2 : Nat) ^ 64 ≤ 2 ^ (n - p.f1).toNat := Nat.pow_le_pow_right (by decide) (by omega)
      have h2 : ((2 ^ 64 : Nat) : Int) ≤ ((2 ^ (n - p.f1).toNat : Nat) : Int) := by omega
      rw [Int.natCast_pow] at h2
      have h3 : ((2 ^ 64 : Nat) : Int) = 18446744073709551616 := by decide
      rw [Int.natCast_pow] at h3
      rw [h3] at h2
      exact Int.lt_of_lt_of_le h1 h2
    · exact g3
  have hb := p_lt i (n - p.f1).toNat (lenV p.f0.f0 - n).toNat h0 hlt (by omega)
  rw [show (n - p.f1).toNat + (lenV p.f0.f0 - n).toNat = (lenV p.f0.f0 - p.f1).toNat by omega] at hb
  unfold pvB at hv
  simp only [Bool.and_eq_true, decide_eq_true_eq, beq_iff_eq] at hv
  obtain ⟨_, v1, v2⟩ := hv
  refine ⟨hb.1, hb.2, apart _ _ ((lenV p.f0.f0 - p.f1).toNat - 64) (by omega) hu.1.1 hu.1.2 hb.1.1 hb.1.2 v1, apart _ _ (min (lenV p.f0.f0 - p.f1).toNat 64) (by omega) hu.2.1 hu.2.2 hb.2.1 hb.2.2 v2⟩
theorem rpart_pfx (p : S26) (hu : uA p.f0) (n i : Int) (hn : -9223372036854775808 ≤ n ∧ n ≤ 9223372036854775807) (h0 : 0 ≤ i) (h1 : i < 18446744073709551616) : Ev (fun k => ddiref03_Part.f k p.f0.f0 p.f0.f1 p.f0.f2 p.f1 n i) (tPfx (parV p n i) (parB p n i)) := by
  have hno : parB p n i = false → tPfx (parV p n i) (parB p n i) = (false, 0, 0, 0, false) := fun h => by
    unfold parV
    rw [h]
    rfl
  have hj0 : parB p n i = false → Ev (fun k => ddiref03_Part.j0 k n i true p.f0.f0 p.f0.f1 p.f0.f2 p.f1) (tPfx (parV p n i) (parB p n i)) := fun h => by
    rw [hno h]
    exact Ev_shift 1 (f := fun _ => some (false, 0, 0, 0, false)) (fun k => by rw [ddiref03_Part.j0, if_pos rfl]) (Ev_const rfl)
  unfold ddiref03_Part.f
  refine Ev.bind (rvalid_pfx p) ?_
  cases hv : pvB p with
  | false => exact hj0 (by unfold parB; rw [hv]; rfl)
  | true =>
    obtain ⟨_, b0, b1⟩ := pv_in hv
    have hl := lenV_le p.f0.f0
    simp only [if_true]
    by_cases g1 : n < p.f1
    · simp only [if_pos g1]
      exact hj0 (by unfold parB; rw [decide_eq_false (show ¬ p.f1 ≤ n by omega), Bool.false_and, Bool.and_false])
    · simp only [if_neg g1, long_v, Option.bind_some]
      by_cases g2 : n ≤ lenV p.f0.f0
      · rw [decide_eq_false (show ¬ n > lenV p.f0.f0 by omega)]
        refine Ev_shift 1 (fun k => by rw [ddiref03_Part.j0, if_neg Bool.false_ne_true, wrap_id (x := n - p.f1) (by omega) (by omega)]) ?_
        refine Ev.bind (ones_d (n - p.f1) (by omega) (by omega)) ?_
        have hlo := lo_of (n - p.f1) (by omega) (by omega) i h1
        by_cases g3 : n - p.f1 ≥ 64 ∨ i < 2 ^ (n - p.f1).toNat
        · have hp : parB p n i = true := by
            unfold parB
            rw [hv, decide_eq_true (show p.f1 ≤ n by omega), decide_eq_true g2]
            simpa using g3
          have hgt : ¬ i > mLo (n - p.f1).toNat := fun h => (hlo.1 h) g3
          simp only [if_neg hgt]
          have hz : pHi i 0 = 0 ∧ pLo i 0 = i := pLo_zero i h0 h1
          obtain ⟨c1, c2, c3, c4⟩ := par_bits p hu n i h0 h1 hp
          have := rpart_from p.f0.f0 n i p.f0.f1 p.f0.f2 p.f1 (tPfx (parV p n i) (parB p n i)) (by
            unfold parV
            rw [hp, if_pos rfl]
            have w1 : (2 : Int) ^ ((lenV p.f0.f0 - p.f1).toNat - 64) ≤ 18446744073709551616 := by
              have : (2 : Nat) ^ ((lenV p.f0.f0 - p.f1).toNat - 64) ≤ 2 ^ 64 := Nat.pow_le_pow_right (by decide) (by omega)
              have h2 : ((2 ^ ((lenV p.f0.f0 - p.f1).toNat - 64) : Nat) : Int) ≤ ((2 ^ 64 : Nat) : Int) := by omega
              simpa using h2
            have w2 : (2 : Int) ^ (min (lenV p.f0.f0 - p.f1).toNat 64) ≤ 18446744073709551616 := by
              have : (2 : Nat) ^ (min (lenV p.f0.f0 - p.f1).toNat 64) ≤ 2 ^ 64 := Nat.pow_le_pow_right (by decide) (by omega)
              have h2 : ((2 ^ (min (lenV p.f0.f0 - p.f1).toNat 64) : Nat) : Int) ≤ ((2 ^ 64 : Nat) : Int) := by omega
              simpa using h2
            rw [or_add _ _ hu.1.1 hu.1.2 c1.1 (by omega) c3, or_add _ _ hu.2.1 hu.2.2 c2.1 (by omega) c4]
            rfl) (by omega) g2 (lenV p.f0.f0 - n).toNat 0 (by omega) (by omega)
          rw [hz.1, hz.2, show n + ((0 : Nat) : Int) = n by omega] at this
          exact this
        · have hp : parB p n i = false := by
            unfold parB
            rw [Bool.eq_false_iff]
            intro h
            simp only [Bool.and_eq_true, decide_eq_true_eq, Bool.or_eq_true] at h
            exact g3 h.2.2.2
          simp only [if_pos (hlo.2 g3)]
          rw [hno hp]
          exact Ev_const rfl
      · rw [decide_eq_true (show n > lenV p.f0.f0 by omega)]
        exact hj0 (by unfold parB; rw [decide_eq_false g2, Bool.false_and, Bool.and_false, Bool.and_false])
end Go.Proofs.Ythjngcjhjnigjaa.Cm
namespace Go.Proofs.Ythjngcjhjnigjaa.Ma
open Go.RowKit Go.Proofs.YthjngcjhjnigjaaW.PrintWords Go.Proofs.YthjngcjhjnigjaaW.PrintLast Go.Proofs.YthjngcjhjnigjaaW.PrintMore Go.Proofs.Ythjngcjhjnigjaa.XP Go.Proofs.Ythjngcjhjnigjaa.QA Go.Proofs.Ythjngcjhjnigjaa.Cm
set_option linter.unusedVariables false
set_option linter.unusedSimpArgs false
/-! ### the first one for which something holds -/
def ixv (i : Nat) : Option Nat → Int
  | none => -1
  | some j => ((i + j : Nat) : Int)
theorem ixv_map (i : Nat) (o : Option Nat) : ixv i (o.map (· + 1)) = ixv (i + 1) o := by
  cases o with
  | none => rfl
  | some j => show ((i + (j + 1) : Nat) : Int) = ((i + 1 + j : Nat) : Int); omega
theorem ixv_hit (i : Nat) (f : S61 → Bool) (x : S61) (r : List S61) (h : f x = true) : ixv i ((x :: r).findIdx? f) = (i : Int) := by
  rw [List.findIdx?_cons, h]; rfl
theorem ixv_miss (i : Nat) (f : S61 → Bool) (x : S61) (r : List S61) (h : f x = false) : ixv i ((x :: r).findIdx? f) = ixv (i + 1) (r.findIdx? f) := by
  rw [List.findIdx?_cons, h]
  exact ixv_map i _
theorem ixv_ge (i : Nat) (f : S61 → Bool) (l : List S61) : decide (ixv i (l.findIdx? f) ≥ 0) = l.any f := by
  have h := List.findIdx?_isSome (xs := l) (p := f)
  cases ho : l.findIdx? f with
  | none => rw [ho] at h; rw [← h]; rfl
  | some j => rw [ho] at h; rw [← h]; show decide (((i + j : Nat) : Int) ≥ 0) = true; rw [decide_eq_true (by omega)]
theorem idx_lt {f : S61 → Bool} {l : List S61} {j : Nat} (h : l.findIdx? f = some j) : j < l.length := by
  obtain ⟨h1, _⟩ := List.findIdx?_eq_some_iff_getElem.1 h
  exact h1
theorem i47_from (l : List S61) (hl : l.length ≤ 140737488351232) (c : ByteArray) : ∀ (r : List S61) (i : Nat), l.drop i = r → Ev (fun k => slices_IndexFunc_47.l0 k l (l.length : Int) (i : Int) c) (ixv i (r.findIdx? (mineB c)))
  | [], i, h => by
    have := drop_end h
    exact Ev_shift 1 (f := fun _ => some (-1)) (fun k => by rw [slices_IndexFunc_47.l0, if_neg (by omega)]) (Ev_const rfl)
  | x :: r, i, h => by
    obtain ⟨hi, hx, hr⟩ := rd61 l i x r h
    cases hb : mineB c x with
    | true =>
      rw [ixv_hit i _ x r hb]
      refine Ev_shift 1 (f := fun _ => some (i : Int)) (fun k => ?_) (Ev_const rfl)
      rw [slices_IndexFunc_47.l0, if_pos (by omega), if_pos (by omega), if_pos (by omega), hx, delegate_Assign_1.f, Option.bind_some, if_pos (show (x.f1.toList == c.toList) = true from hb)]
    | false =>
      rw [ixv_miss i _ x r hb]
      refine Ev_shift 1 (fun k => ?_) (i47_from l hl c r (i + 1) hr)
      rw [slices_IndexFunc_47.l0, if_pos (by omega), if_pos (by omega), if_pos (by omega), hx, delegate_Assign_1.f, Option.bind_some, if_neg (show ¬ (x.f1.toList == c.toList) = true by show ¬ mineB c x = true; rw [hb]; decide), next i l.length hi (by omega)]
def hasB (x : S26) (g : S61) : Bool := eqPfx g.f0 x
theorem i73_from (l : List S61) (hl : l.length ≤ 140737488351232) (q : S26) : ∀ (r : List S61) (i : Nat), l.drop i = r → Ev (fun k => slices_IndexFunc_73.l0 k l (l.length : Int) (i : Int) q.f0.f0 q.f0.f1 q.f0.f2 q.f1) (ixv i (r.findIdx? (hasB q)))
  | [], i, h => by
    have := drop_end h
    exact Ev_shift 1 (f := fun _ => some (-1)) (fun k => by rw [slices_IndexFunc_73.l0, if_neg (by omega)]) (Ev_const rfl)
  | x :: r, i, h => by
    obtain ⟨hi, hx, hr⟩ := rd61 l i x r h
    cases hb : hasB q x with
    | true =>
      rw [ixv_hit i _ x r hb]
      refine Ev_shift 1 (f := fun _ => some (i : Int)) (fun k => ?_) (Ev_const rfl)
      rw [slices_IndexFunc_73.l0, if_pos (by omega), if_pos (by omega), if_pos (by omega), hx, delegate_granted_1.f, Option.bind_some, if_pos (show (x.f0.f0.f0 == q.f0.f0 && (x.f0.f0.f1 == q.f0.f1 && (x.f0.f0.f2 == q.f0.f2)) && (x.f0.f1 == q.f1)) = true from hb)]
    | false =>
      rw [ixv_miss i _ x r hb]
      refine Ev_shift 1 (fun k => ?_) (i73_from l hl q r (i + 1) hr)
      rw [slices_IndexFunc_73.l0, if_pos (by omega), if_pos (by omega), if_pos (by omega), hx, delegate_granted_1.f, Option.bind_some, if_neg (show ¬ (x.f0.f0.f0 == q.f0.f0 && (x.f0.f0.f1 == q.f0.f1 && (x.f0.f0.f2 == q.f0.f2)) && (x.f0.f1 == q.f1)) = true by show ¬ hasB q x = true; rw [hb]; decide), next i l.length hi (by omega)]
def takB (q : S26) (l : List S61) : Bool := l.any (hasB q)
theorem granted_ev (l : List S61) (hl : l.length ≤ 140737488351232) (q : S26) : Ev (fun k => delegate_granted.f k l q.f0.f0 q.f0.f1 q.f0.f2 q.f1) (takB q l) := by
  unfold delegate_granted.f
  refine Ev.bind (?_ : Ev (fun k => slices_ContainsFunc_73.f k l q.f0.f0 q.f0.f1 q.f0.f2 q.f1) (takB q l)) (Ev_const rfl)
  unfold slices_ContainsFunc_73.f slices_IndexFunc_73.f
  refine Ev.bind (i73_from l hl q l 0 rfl) (Ev_const ?_)
  rw [ixv_ge]
  rfl
theorem taken_from (l : List S61) (hl : l.length ≤ 140737488351232) (q : S26) : ∀ (r : List S61) (i : Nat), l.drop i = r → Ev (fun k => ddiref43_taken.l0 k (l.map cv) (i : Int) q.f0.f0 q.f0.f1 q.f0.f2 q.f1) (takB q r)
  | [], i, h => by
    have := drop_end h
    exact Ev_shift 1 (f := fun _ => some false) (fun k => by rw [ddiref43_taken.l0, len_cv, if_neg (by omega)]) (Ev_const rfl)
  | x :: r, i, h => by
    obtain ⟨hi, _, hr⟩ := drop_at h
    have hx := rd70 l i x r h
    have ih := taken_from l hl q r (i + 1) hr
    unfold takB at ih ⊢
    rw [List.any_cons]
    cases hb : hasB q x with
    | true =>
      rw [Bool.true_or]
      refine Ev_shift 1 (f := fun _ => some true) (fun k => ?_) (Ev_const rfl)
      rw [ddiref43_taken.l0, len_cv, if_pos (by omega), if_pos (by omega), hx, if_pos (show ((cv x).f0.f0.f0 == q.f0.f0 && ((cv x).f0.f0.f1 == q.f0.f1 && ((cv x).f0.f0.f2 == q.f0.f2)) && ((cv x).f0.f1 == q.f1)) = true from hb)]
    | false =>
      rw [Bool.false_or]
      refine Ev_shift 1 (fun k => ?_) ih
      rw [ddiref43_taken.l0, len_cv, if_pos (by omega), if_pos (by omega), hx, if_neg (show ¬ ((cv x).f0.f0.f0 == q.f0.f0 && ((cv x).f0.f0.f1 == q.f0.f1 && ((cv x).f0.f0.f2 == q.f0.f2)) && ((cv x).f0.f1 == q.f1)) = true by show ¬ hasB q x = true; rw [hb]; decide), next i l.length hi (by omega)]
theorem taken_ev (l : List S61) (hl : l.length ≤ 140737488351232) (q : S26) : Ev (fun k => ddiref43_taken.f k (l.map cv) q.f0.f0 q.f0.f1 q.f0.f2 q.f1) (takB q l) := by
  unfold ddiref43_taken.f
  exact taken_from l hl q l 0 rfl
/-! ### the prefix of a new grant -/
def ff (p : S28) (l : List S61) : Nat → Nat → Option S26
  | 0, _ => none
  | d + 1, i => if parB p.f0 p.f1 (i : Int) = true then (if takB (parV p.f0 p.f1 (i : Int)) l = true then ff p l d (i + 1) else some (parV p.f0 p.f1 (i : Int))) else none
def chooT (p : S28) (l : List S61) (h : S26) : Option S26 := if (ofB p h && !takB h l) = true then some h else ff p l (l.length + 1) 0
def tC (o : Option S26) : Bool × Int × Int × Int × Bool := match o with | none => (false, 0, 0, 0, false) | some x => tPfx x true
theorem ff_ev (p : S28) (hw : (Lit.int .i64 p.f1).wf = true) (l : List S61) (hl : l.length ≤ 1000000000) : ∀ (d i : Nat), d + i = l.length + 1 → Ev (fun k => delegate_choose.l0 k l ((l.length + 1 : Nat) : Int) (i : Int) p.f0.f0.f0 p.f0.f0.f1 p.f0.f0.f2 p.f0.f1 p.f1) (tC (ff p l d i))
  | 0, i, h => Ev_shift 1 (f := fun _ => some (false, 0, 0, 0, false)) (fun k => by rw [delegate_choose.l0, if_neg (by omega)]) (Ev_const rfl)
  | d + 1, i, h => by
    have ih := ff_ev p hw l hl d (i + 1) (by omega)
    refine Ev_shift 1 (fun k => by rw [delegate_choose.l0, if_pos (by omega)]) ?_
    refine Ev.bind (part_pfx p.f0 p.f1 (i : Int) (wf_i64 hw) (by omega) (by omega)) ?_
    unfold ff
    cases hb : parB p.f0 p.f1 (i : Int) with
    | false => exact Ev_const rfl
    | true =>
      simp only [if_true]
      show Ev (fun k => (delegate_granted.f k l (parV p.f0 p.f1 (i : Int)).f0.f0 (parV p.f0 p.f1 (i : Int)).f0.f1 (parV p.f0 p.f1 (i : Int)).f0.f2 (parV p.f0 p.f1 (i : Int)).f1).bind fun t => _) _
      refine Ev.bind (granted_ev l (by omega) (parV p.f0 p.f1 (i : Int))) ?_
      cases takB (parV p.f0 p.f1 (i : Int)) l with
      | false => exact Ev_const rfl
      | true =>
        have e : IntKind.u64.wrap ((i : Int) + 1) = ((i + 1 : Nat) : Int) := by rw [IntKind.wrap_u64]; omega
        simp only [if_true, e]
        exact ih
theorem choose_ev (p : S28) (hw : (Lit.int .i64 p.f1).wf = true) (l : List S61) (hl : l.length ≤ 1000000000) (h : S26) : Ev (fun k => delegate_choose.f k p.f0.f0.f0 p.f0.f0.f1 p.f0.f0.f2 p.f0.f1 p.f1 l h.f0.f0 h.f0.f1 h.f0.f2 h.f1) (tC (chooT p l h)) := by
  have hf : ff p l (l.length + 1) 0 = ff p l (l.length + 1) 0 := rfl
  have hj : ∀ b : Bool, Ev (fun k => delegate_choose.j0 k l b p.f0.f0.f0 p.f0.f0.f1 p.f0.f0.f2 p.f0.f1 p.f1 h.f0.f0 h.f0.f1 h.f0.f2 h.f1) (tC (if b = true then some h else ff p l (l.length + 1) 0)) := fun b => by
    cases b with
    | true => exact Ev_shift 1 (f := fun _ => some (tPfx h true)) (fun k => by rw [delegate_choose.j0, if_pos rfl]; rfl) (Ev_const rfl)
    | false =>
      refine Ev_shift 1 (fun k => ?_) (ff_ev p hw l hl (l.length + 1) 0 rfl)
      have e : IntKind.u64.wrap (wrap64 ((l.length : Int) + 1)) = ((l.length + 1 : Nat) : Int) := by
        rw [wrap_id (by omega) (by omega), IntKind.wrap_u64]
        omega
      rw [delegate_choose.j0, if_neg Bool.false_ne_true, e]
      rfl
  unfold delegate_choose.f chooT
  refine Ev.bind (belongs_ev p h) ?_
  cases ofB p h with
  | false => exact hj false
  | true =>
    simp only [if_true, Bool.true_and]
    refine Ev.bind (granted_ev l (by omega) h) ?_
    exact hj _
theorem par_pool (p : S28) (hp : poolB p = true) (i : Int) : parB p.f0 p.f1 i = decide (i < pow2 (p.f1 - p.f0.f1).toNat) := by
  obtain ⟨h1, h2, h3, h4⟩ := pool_bits p hp
  unfold poolB at hp
  simp only [Bool.and_eq_true, decide_eq_true_eq] at hp
  unfold parB
  rw [hp.1, decide_eq_true h1, decide_eq_true hp.2.2.1, decide_eq_false (show ¬ p.f1 - p.f0.f1 ≥ 64 by omega)]
  simp only [Bool.true_and, Bool.false_or]
  congr 1
theorem rff_ev (p : S28) (hw : (Lit.int .i64 p.f1).wf = true) (hp : poolB p = true) (hu : uA p.f0.f0) (l : List S61) (hl : l.length ≤ 1000000000) : ∀ (d i : Nat), d + i = l.length + 1 → Ev (fun k => ddiref43_choose.l0 k (l.map cv) (i : Int) p.f0.f0.f0 p.f0.f0.f1 p.f0.f0.f2 p.f0.f1 p.f1) (tC (ff p l d i))
  | d, i, h => by
    have hsz := size_ev p hp
    have hn : Ev (fun k => ddiref43_choose.j2 k (l.map cv) (i : Int) false p.f0.f0.f0 p.f0.f0.f1 p.f0.f0.f2 p.f0.f1 p.f1) (false, 0, 0, 0, false) :=
      Ev_shift 1 (f := fun _ => some (false, 0, 0, 0, false)) (fun k => by rw [ddiref43_choose.j2, if_neg Bool.false_ne_true]) (Ev_const rfl)
    refine Ev_shift 1 (fun k => by rw [ddiref43_choose.l0]) ?_
    refine Ev.bind hsz ?_
    have e : IntKind.u64.wrap (((l.map cv).length : Int)) = (l.length : Int) := by rw [len_cv, IntKind.wrap_u64]; omega
    cases d with
    | zero =>
      unfold ff
      by_cases hq : (i : Int) < pow2 (p.f1 - p.f0.f1).toNat
      · simp only [if_pos hq, e, decide_eq_false (show ¬ (i : Int) ≤ (l.length : Int) by omega)]
        exact hn
      · simp only [if_neg hq]
        exact hn
    | succ d =>
      have ih := rff_ev p hw hp hu l hl d (i + 1) (by omega)
      unfold ff
      rw [par_pool p hp]
      by_cases hq : (i : Int) < pow2 (p.f1 - p.f0.f1).toNat
      · simp only [if_pos hq, e, decide_eq_true (show (i : Int) ≤ (l.length : Int) by omega), decide_eq_true hq, if_true]
        refine Ev_shift 1 (fun k => by rw [ddiref43_choose.j2, if_pos rfl]) ?_
        refine Ev.bind (rpart_pfx p.f0 hu p.f1 (i : Int) (wf_i64 hw) (by omega) (by omega)) ?_
        have hb : parB p.f0 p.f1 (i : Int) = true := by rw [par_pool p hp, decide_eq_true hq]
        rw [hb]
        show Ev (fun k => (ddiref43_taken.f k (l.map cv) (parV p.f0 p.f1 (i : Int)).f0.f0 (parV p.f0 p.f1 (i : Int)).f0.f1 (parV p.f0 p.f1 (i : Int)).f0.f2 (parV p.f0 p.f1 (i : Int)).f1).bind fun t => ddiref43_choose.j3 k (l.map cv) (i : Int) (!t) p.f0.f0.f0 p.f0.f0.f1 p.f0.f0.f2 p.f0.f1 p.f1 (parV p.f0 p.f1 (i : Int)).f0.f0 (parV p.f0 p.f1 (i : Int)).f0.f1 (parV p.f0 p.f1 (i : Int)).f0.f2 (parV p.f0 p.f1 (i : Int)).f1) _
        refine Ev.bind (taken_ev l (by omega) (parV p.f0 p.f1 (i : Int))) ?_
        cases takB (parV p.f0 p.f1 (i : Int)) l with
        | false => exact Ev_shift 1 (f := fun _ => some (tPfx (parV p.f0 p.f1 (i : Int)) true)) (fun k => by rw [ddiref43_choose.j3, Bool.not_false, if_pos rfl]; rfl) (Ev_const rfl)
        | true =>
          have e2 : IntKind.u64.wrap ((i : Int) + 1) = ((i + 1 : Nat) : Int) := by rw [IntKind.wrap_u64]; omega
          exact Ev_shift 1 (fun k => by rw [ddiref43_choose.j3, Bool.not_true, if_neg Bool.false_ne_true, e2]) ih
      · simp only [if_neg hq, decide_eq_false hq, Bool.false_eq_true, if_false]
        exact hn
theorem rchoose_ev (p : S28) (hw : (Lit.int .i64 p.f1).wf = true) (hp : poolB p = true) (hu : uA p.f0.f0) (l : List S61) (hl : l.length ≤ 1000000000) (h : S26) (hh : uA h.f0) : Ev (fun k => ddiref43_choose.f k p.f0.f0.f0 p.f0.f0.f1 p.f0.f0.f2 p.f0.f1 p.f1 (l.map cv) h.f0.f0 h.f0.f1 h.f0.f2 h.f1) (tC (chooT p l h)) := by
  have hj : ∀ b : Bool, Ev (fun k => ddiref43_choose.j0 k (l.map cv) b p.f0.f0.f0 p.f0.f0.f1 p.f0.f0.f2 p.f0.f1 p.f1 h.f0.f0 h.f0.f1 h.f0.f2 h.f1) (tC (if b = true then some h else ff p l (l.length + 1) 0)) := fun b => by
    cases b with
    | true => exact Ev_shift 1 (f := fun _ => some (tPfx h true)) (fun k => by rw [ddiref43_choose.j0, if_pos rfl]; rfl) (Ev_const rfl)
    | false => exact Ev_shift 1 (fun k => by rw [ddiref43_choose.j0, if_neg Bool.false_ne_true]; rfl) (rff_ev p hw hp hu l hl (l.length + 1) 0 rfl)
  unfold ddiref43_choose.f chooT
  refine Ev.bind (rof_ev p h hh) ?_
  cases ofB p h with
  | false => exact hj false
  | true =>
    simp only [if_true, Bool.true_and]
    refine Ev.bind (taken_ev l (by omega) h) ?_
    exact hj _
/-! ### a grant at its place -/
def gtB (x : S26) (g : S61) : Bool := decide (pcmp g.f0 x > 0)
def plc (x : S26) (l : List S61) : Nat := (l.findIdx? (gtB x)).getD l.length
def putT (l : List S61) (g : S61) : List S61 := l.take (plc g.f0 l) ++ [g] ++ l.drop (plc g.f0 l)
theorem plc_le (x : S26) (l : List S61) : plc x l ≤ l.length := by
  unfold plc
  cases h : l.findIdx? (gtB x) with
  | none => exact Nat.le_refl _
  | some j => exact Nat.le_of_lt (idx_lt h)
theorem i49_from (l : List S61) (hl : l.length ≤ 140737488351232) (q : S26) : ∀ (r : List S61) (i : Nat), l.drop i = r → Ev (fun k => slices_IndexFunc_49.l0 k l (l.length : Int) (i : Int) q.f0.f0 q.f0.f1 q.f0.f2 q.f1) (ixv i (r.findIdx? (gtB q)))
  | [], i, h => by
    have := drop_end h
    exact Ev_shift 1 (f := fun _ => some (-1)) (fun k => by rw [slices_IndexFunc_49.l0, if_neg (by omega)]) (Ev_const rfl)
  | x :: r, i, h => by
    obtain ⟨hi, hx, hr⟩ := rd61 l i x r h
    refine Ev_shift 1 (fun k => by rw [slices_IndexFunc_49.l0, if_pos (by omega), if_pos (by omega), if_pos (by omega), hx]) ?_
    have hc : Ev (fun k => delegate_Assign_2.f k x.f0.f0.f0 x.f0.f0.f1 x.f0.f0.f2 x.f0.f1 x.f1 x.f2 q.f0.f0 q.f0.f1 q.f0.f2 q.f1) (gtB q x) := by
      unfold delegate_Assign_2.f
      exact Ev.bind (pcmp_ev x.f0 q) (Ev_const rfl)
    refine Ev.bind hc ?_
    cases hb : gtB q x with
    | true =>
      rw [ixv_hit i _ x r hb]
      exact Ev_const rfl
    | false =>
      rw [ixv_miss i _ x r hb]
      simp only [Bool.false_eq_true, if_false, next i l.length hi (by omega)]
      exact i49_from l hl q r (i + 1) hr
theorem plc_cons (x : S26) (y : S61) (r : List S61) : plc x (y :: r) = if gtB x y = true then 0 else plc x r + 1 := by
  unfold plc
  rw [List.findIdx?_cons]
  cases gtB x y with
  | true => rfl
  | false =>
    simp only [Bool.false_eq_true, if_false]
    cases r.findIdx? (gtB x) with
    | none => rfl
    | some j => rfl
theorem putT_cons (g y : S61) (r : List S61) : putT (y :: r) g = if gtB g.f0 y = true then g :: y :: r else y :: putT r g := by
  unfold putT
  rw [plc_cons]
  split
  · rfl
  · rfl
theorem rput_from (l : List S61) (hl : l.length ≤ 1000000000) (g : S61) : ∀ (r : List S61) (i : Nat) (a : List S61) (b : Bool), l.drop i = r → i ≤ l.length → a.length ≤ i + 1 → (b = false → a.length ≤ i) → Ev (fun k => ddiref43_put.l0 k (l.map cv) (a.map cv) b (i : Int) g.f0.f0.f0 g.f0.f0.f1 g.f0.f0.f2 g.f0.f1 g.f1 g.f2) ((a ++ (if b = true then r else putT r g)).map cv)
  | [], i, a, b, h, hil, ha, hab => by
    have := drop_end h
    cases b with
    | true =>
      refine Ev_shift 1 (f := fun _ => some (a.map cv)) (fun k => by rw [ddiref43_put.l0, len_cv, if_neg (by omega), if_pos rfl]) (Ev_const ?_)
      simp
    | false =>
      refine Ev_shift 1 (f := fun _ => some ((a ++ [g]).map cv)) (fun k => by rw [ddiref43_put.l0, len_cv, if_neg (by omega), if_neg Bool.false_ne_true, if_pos (by rw [List.length_map]; omega), List.map_append]; rfl) (Ev_const rfl)
  | x :: r, i, a, b, h, hil, ha, hab => by
    obtain ⟨hi, hxi, hr⟩ := drop_at h
    have hx := rd70 l i x r h
    have hla : (a.map cv).length < 2513169434916 := by rw [List.length_map]; omega
    have hj0 : (b = true ∨ gtB g.f0 x = false) → Ev (fun k => ddiref43_put.j1 k (l.map cv) (a.map cv) b (i : Int) false g.f0.f0.f0 g.f0.f0.f1 g.f0.f0.f2 g.f0.f1 g.f1 g.f2) ((a ++ (if b = true then x :: r else putT (x :: r) g)).map cv) := by
      intro hbx
      have ih := rput_from l hl g r (i + 1) (a ++ [x]) b hr (by omega) (by rw [List.length_append]; simp; omega) (fun e => by rw [List.length_append]; have := hab e; simp; omega)
      refine Ev_shift 1 (fun k => by rw [ddiref43_put.j1, if_neg Bool.false_ne_true, if_pos (by omega), len_cv, if_pos (by omega), if_pos hla, hx, next i l.length hi (by omega)]) ?_
      rw [List.map_append] at ih
      have e : (a ++ (if b = true then x :: r else putT (x :: r) g)) = (a ++ [x]) ++ (if b = true then r else putT r g) := by
        cases b with
        | true => simp
        | false =>
          rcases hbx with hbx | hbx
          · cases hbx
          · simp [putT_cons, hbx]
      rw [e]
      exact ih
    cases b with
    | true => exact Ev_shift 1 (fun k => by rw [ddiref43_put.l0, len_cv, if_pos (by omega), if_pos rfl]) (hj0 (.inl rfl))
    | false =>
      refine Ev_shift 1 (fun k => by rw [ddiref43_put.l0, len_cv, if_pos (by omega), if_neg Bool.false_ne_true, if_pos (by omega), hx]) ?_
      have hc : ddiref03_Compare.f (cv x).f0.f0.f0 (cv x).f0.f0.f1 (cv x).f0.f0.f2 (cv x).f0.f1 g.f0.f0.f0 g.f0.f0.f1 g.f0.f0.f2 g.f0.f1 = some (pcmp x.f0 g.f0) := rpcmp x.f0 g.f0
      simp only [hc, Option.bind_some]
      cases hb : gtB g.f0 x with
      | false =>
        rw [show decide (pcmp x.f0 g.f0 > 0) = false from hb]
        exact hj0 (.inr hb)
      | true =>
        have ih := rput_from l hl g r (i + 1) (a ++ [g] ++ [x]) true hr (by omega) (by have := hab rfl; simp; omega) (fun e => by cases e)
        rw [show decide (pcmp x.f0 g.f0 > 0) = true from hb]
        refine Ev_shift 1 (fun k => ?_) (?_ : Ev (fun k => ddiref43_put.l0 k (l.map cv) ((a ++ [g] ++ [x]).map cv) true ((i + 1 : Nat) : Int) g.f0.f0.f0 g.f0.f0.f1 g.f0.f0.f2 g.f0.f1 g.f1 g.f2) _)
        · rw [ddiref43_put.j1, if_pos rfl, if_pos hla]
          simp only [Option.bind_some]
          rw [if_pos (by omega), len_cv, if_pos (by omega), if_pos (by rw [List.length_append, List.length_map, List.length_singleton]; omega), hx, next i l.length hi (by omega)]
          rw [List.map_append, List.map_append]
          rfl
        · simp only [if_true] at ih
          rw [putT_cons, if_pos hb]
          simpa using ih
end Go.Proofs.Ythjngcjhjnigjaa.Ma
namespace Go.Proofs.Ythjngcjhjnigjaa.Ma
open Go.RowKit Go.Proofs.YthjngcjhjnigjaaW.PrintWords Go.Proofs.YthjngcjhjnigjaaW.PrintLast Go.Proofs.YthjngcjhjnigjaaW.PrintMore Go.Proofs.Ythjngcjhjnigjaa.XP Go.Proofs.Ythjngcjhjnigjaa.QA Go.Proofs.Ythjngcjhjnigjaa.Cm
set_option linter.unusedVariables false
set_option linter.unusedSimpArgs false
theorem put_ev (l : List S61) (hl : l.length ≤ 1000000000) (g : S61) : Ev (fun k => ddiref43_put.f k (l.map cv) g.f0.f0.f0 g.f0.f0.f1 g.f0.f0.f2 g.f0.f1 g.f1 g.f2) ((putT l g).map cv) := by
  unfold ddiref43_put.f
  exact rput_from l hl g l 0 [] false rfl (by omega) (by simp) (fun _ => by simp)
/-! ### Assign -/
def longer (x : S61) (e : Int) : S61 := ⟨x.f0, x.f1, mx x.f2 e⟩
def endT (now life : Int) : Int := if life < 4294967295 - now then now + life else 4294967295
def tA (l : List S61) (x : S26) (e : Int) : List S61 × Bool × Int × Int × Int × Int := (l, x.f0.f0, x.f0.f1, x.f0.f2, x.f1, e)
def tR (l : List S61) (x : S26) (e : Int) : List S70 × Bool × Int × Int × Int × Int := (l.map cv, x.f0.f0, x.f0.f1, x.f0.f2, x.f1, e)
def newT (p : S28) (out : List S61) (c : ByteArray) (h : S26) (e : Int) : List S61 × S26 × Int :=
  match chooT p out h with
  | none => ([], zPfx, 22)
  | some x => if out.length ≥ 512 then ([], zPfx, 9) else (putT out ⟨x, c, e⟩, x, 0)
def giveT (p : S28) (out : List S61) (c : ByteArray) (h : S26) (e : Int) : List S61 × S26 × Int :=
  match out.findIdx? (mineB c) with
  | some i => (out.set i (longer (rd_T61 out (i : Int)) e), (rd_T61 out (i : Int)).f0, 0)
  | none => newT p out c h e
def argsB (c : ByteArray) (now life : Int) : Bool := cliB c && (decide (0 ≤ now) && (decide (now ≤ 4294967295) && decide (1 ≤ life)))
def asgT (p : S28) (l : List S61) (c : ByteArray) (h : S26) (now life : Int) : List S61 × S26 × Int :=
  if chkT p l = 0 then (if argsB c now life = true then giveT p (expT l now) c h (endT now life) else ([], zPfx, 1)) else ([], zPfx, chkT p l)
theorem exp_len (l : List S61) (t : Int) : (expT l t).length ≤ l.length := List.length_filter_le ..
theorem set_rd (l : List S61) (i : Nat) (h : i < l.length) (v : S61) : rd_T61 (l.set i v) (i : Int) = v := by
  rw [rdAt _ i (by rw [List.length_set]; exact h), List.getElem_set_self]
theorem asg_j1 (p : S28) (hw : (Lit.int .i64 p.f1).wf = true) (l : List S61) (hl : l.length ≤ 1000000000) (c : ByteArray) (h : S26) (now e : Int) : Ev (fun k => delegate_Assign.j1 k l now e p.f0.f0.f0 p.f0.f0.f1 p.f0.f0.f2 p.f0.f1 p.f1 c h.f0.f0 h.f0.f1 h.f0.f2 h.f1) (tA (giveT p (expT l now) c h e).1 (giveT p (expT l now) c h e).2.1 (giveT p (expT l now) c h e).2.2) := by
  have hol : (expT l now).length ≤ 1000000000 := Nat.le_trans (exp_len l now) hl
  refine Ev_shift 1 (fun k => by rw [delegate_Assign.j1]) ?_
  refine Ev.bind (exp_ev l hl now) ?_
  generalize expT l now = out at hol
  refine Ev.bind (?_ : Ev (fun k => slices_IndexFunc_47.f k out c) (ixv 0 (out.findIdx? (mineB c)))) ?_
  · unfold slices_IndexFunc_47.f
    exact i47_from out (by omega) c out 0 rfl
  unfold giveT
  cases ho : out.findIdx? (mineB c) with
  | some i =>
    have hi := idx_lt ho
    have e0 : ixv 0 (some i) = (i : Int) := by show ((0 + i : Nat) : Int) = (i : Int); omega
    simp only [e0, if_pos (show (i : Int) ≥ 0 by omega), if_pos (show (0 : Int) ≤ (i : Int) by omega), if_pos (show (i : Int) < (out.length : Int) by omega), Option.bind_some, Int.toNat_natCast, set_rd out i hi]
    exact Ev_const rfl
  | none =>
    simp only [show ixv 0 none = -1 from rfl, if_neg (show ¬ (-1 : Int) ≥ 0 by decide)]
    refine Ev.bind (choose_ev p hw out hol h) ?_
    unfold newT
    cases hc : chooT p out h with
    | none => exact Ev_const rfl
    | some x =>
      show Ev (fun n => if (out.length : Int) ≥ 512 then some (([] : List S61), false, 0, 0, 0, 9) else (slices_IndexFunc_49.f n out x.f0.f0 x.f0.f1 x.f0.f2 x.f1).bind fun t => if t < 0 then delegate_Assign.j2 n e out (out.length : Int) c x.f0.f0 x.f0.f1 x.f0.f2 x.f1 else delegate_Assign.j2 n e out t c x.f0.f0 x.f0.f1 x.f0.f2 x.f1) _
      by_cases g : out.length ≥ 512
      · simp only [if_pos (show (out.length : Int) ≥ 512 by omega), if_pos g]
        exact Ev_const rfl
      · simp only [if_neg (show ¬ (out.length : Int) ≥ 512 by omega), if_neg g]
        have hj : ∀ n : Nat, n = plc x out → Ev (fun k => delegate_Assign.j2 k e out (n : Int) c x.f0.f0 x.f0.f1 x.f0.f2 x.f1) (tA (putT out ⟨x, c, e⟩) x 0) := fun n hn => by
          have hle := plc_le x out
          refine Ev_shift 1 (f := fun _ => some (tA (putT out ⟨x, c, e⟩) x 0)) (fun k => ?_) (Ev_const rfl)
          rw [delegate_Assign.j2, slices_Insert.f, if_pos (by omega), if_pos (by omega), if_pos (by rw [List.length_singleton]; omega), Option.bind_some, Int.toNat_natCast, hn]
          rfl
        refine Ev.bind (?_ : Ev (fun k => slices_IndexFunc_49.f k out x.f0.f0 x.f0.f1 x.f0.f2 x.f1) (ixv 0 (out.findIdx? (gtB x)))) ?_
        · unfold slices_IndexFunc_49.f
          exact i49_from out (by omega) x out 0 rfl
        cases hg : out.findIdx? (gtB x) with
        | none =>
          simp only [show ixv 0 none = -1 from rfl, if_pos (show (-1 : Int) < 0 by decide)]
          exact hj out.length (by unfold plc; rw [hg]; rfl)
        | some j =>
          have e0 : ixv 0 (some j) = (j : Int) := by show ((0 + j : Nat) : Int) = (j : Int); omega
          simp only [e0, if_neg (show ¬ (j : Int) < 0 by omega)]
          exact hj j (by unfold plc; rw [hg]; rfl)
theorem assign_ev (p : S28) (hw : (Lit.int .i64 p.f1).wf = true) (l : List S61) (hl : l.length ≤ 1000000000) (ok : ∀ g ∈ l, g.f1.size ≤ 140737488351232) (c : ByteArray) (hc : c.size ≤ 140737488351232) (h : S26) (now life : Int) (hlife : -9223372036854775808 ≤ life ∧ life ≤ 9223372036854775807) : Ev (fun k => delegate_Assign.f k p.f0.f0.f0 p.f0.f0.f1 p.f0.f0.f2 p.f0.f1 p.f1 l c h.f0.f0 h.f0.f1 h.f0.f2 h.f1 now life) (tA (asgT p l c h now life).1 (asgT p l c h now life).2.1 (asgT p l c h now life).2.2) := by
  unfold delegate_Assign.f asgT
  refine Ev.bind (check_ev p hw l (by omega) ok) ?_
  by_cases hk : chkT p l = 0
  · simp only [if_pos hk]
    have hj : ∀ b : Bool, b = !(decide (0 ≤ now) && (decide (now ≤ 4294967295) && decide (1 ≤ life))) → Ev (fun k => delegate_Assign.j0 k l now life b p.f0.f0.f0 p.f0.f0.f1 p.f0.f0.f2 p.f0.f1 p.f1 c h.f0.f0 h.f0.f1 h.f0.f2 h.f1) (tA (if b = true then ([], zPfx, 1) else giveT p (expT l now) c h (endT now life)).1 (if b = true then ([], zPfx, 1) else giveT p (expT l now) c h (endT now life)).2.1 (if b = true then ([], zPfx, 1) else giveT p (expT l now) c h (endT now life)).2.2) := fun b hb => by
      cases b with
      | true => exact Ev_shift 1 (f := fun _ => some (([] : List S61), false, 0, 0, 0, 1)) (fun k => by rw [delegate_Assign.j0, if_pos rfl]) (Ev_const rfl)
      | false =>
        have hb2 : 0 ≤ now ∧ now ≤ 4294967295 ∧ 1 ≤ life := by simpa using hb.symm
        have hw1 : wrap64 (4294967295 - now) = 4294967295 - now := wrap_id (by omega) (by omega)
        have hh := asg_j1 p hw l hl c h now (endT now life)
        simp only [Bool.false_eq_true, if_false]
        refine Ev_shift 1 (fun k => ?_) hh
        rw [delegate_Assign.j0, if_neg Bool.false_ne_true, hw1]
        unfold endT
        split
        · rw [wrap_id (by omega) (by omega)]
        · rfl
    refine Ev.bind (named_ev c hc) ?_
    unfold argsB
    cases cliB c with
    | false =>
      simp only [Bool.false_eq_true, if_false, Bool.false_and]
      exact Ev_shift 1 (f := fun _ => some (([] : List S61), false, 0, 0, 0, 1)) (fun k => by rw [delegate_Assign.j0, if_pos rfl]) (Ev_const rfl)
    | true =>
      simp only [if_true, Bool.true_and]
      have fin : ∀ b : Bool, b = !(decide (0 ≤ now) && (decide (now ≤ 4294967295) && decide (1 ≤ life))) → Ev (fun k => delegate_Assign.j0 k l now life b p.f0.f0.f0 p.f0.f0.f1 p.f0.f0.f2 p.f0.f1 p.f1 c h.f0.f0 h.f0.f1 h.f0.f2 h.f1) (tA (if (decide (0 ≤ now) && (decide (now ≤ 4294967295) && decide (1 ≤ life))) = true then giveT p (expT l now) c h (endT now life) else ([], zPfx, 1)).1 (if (decide (0 ≤ now) && (decide (now ≤ 4294967295) && decide (1 ≤ life))) = true then giveT p (expT l now) c h (endT now life) else ([], zPfx, 1)).2.1 (if (decide (0 ≤ now) && (decide (now ≤ 4294967295) && decide (1 ≤ life))) = true then giveT p (expT l now) c h (endT now life) else ([], zPfx, 1)).2.2) := fun b hb => by
        have h1 := hj b hb
        subst hb
        cases hq : (decide (0 ≤ now) && (decide (now ≤ 4294967295) && decide (1 ≤ life))) with
        | true => rw [hq] at h1; exact h1
        | false => rw [hq] at h1; exact h1
      by_cases g0 : now < 0
      · simp only [if_pos g0]
        exact fin true (by rw [decide_eq_false (show ¬ 0 ≤ now by omega)]; rfl)
      · simp only [if_neg g0]
        by_cases g1 : now > 4294967295
        · simp only [if_pos g1]
          exact fin true (by rw [decide_eq_false (show ¬ now ≤ 4294967295 by omega), Bool.false_and, Bool.and_false]; rfl)
        · simp only [if_neg g1]
          refine fin _ ?_
          rw [decide_eq_true (show 0 ≤ now by omega), decide_eq_true (show now ≤ 4294967295 by omega)]
          by_cases g2 : life < 1
          · rw [decide_eq_true g2, decide_eq_false (show ¬ 1 ≤ life by omega)]; rfl
          · rw [decide_eq_false g2, decide_eq_true (show 1 ≤ life by omega)]; rfl
  · simp only [if_neg hk]
    exact Ev_const rfl
theorem cv_set (l : List S61) (i : Nat) (h : i < l.length) (e : Int) : (l.map cv).set i (⟨(⟨(⟨(rd_T70 (l.map cv) (i : Int)).f0.f0.f0, (rd_T70 (l.map cv) (i : Int)).f0.f0.f1, (rd_T70 (l.map cv) (i : Int)).f0.f0.f2⟩ : S24), (rd_T70 (l.map cv) (i : Int)).f0.f1⟩ : S26), (rd_T70 (l.map cv) (i : Int)).f1, mx ((rd_T70 (l.map cv) (i : Int)).f2) e⟩ : S70) = (l.set i (longer (rd_T61 l (i : Int)) e)).map cv := by
  rw [List.map_set, rdAt70 l i h, rdAt l i h]
  rfl
theorem rasg_l0 (p : S28) (hw : (Lit.int .i64 p.f1).wf = true) (hp : poolB p = true) (hu : uA p.f0.f0) (out : List S61) (hol : out.length ≤ 1000000000) (c : ByteArray) (h : S26) (hh : uA h.f0) (e : Int) : ∀ (r : List S61) (i : Nat), out.drop i = r → i ≤ out.length → out.findIdx? (mineB c) = (r.findIdx? (mineB c)).map (· + i) → Ev (fun k => ddiref43_Assign.l0 k c e (out.map cv) (i : Int) p.f0.f0.f0 p.f0.f0.f1 p.f0.f0.f2 p.f0.f1 p.f1 h.f0.f0 h.f0.f1 h.f0.f2 h.f1) (tR (giveT p out c h e).1 (giveT p out c h e).2.1 (giveT p out c h e).2.2)
  | [], i, hd, hi, hf => by
    have := drop_end hd
    have hn : out.findIdx? (mineB c) = none := by rw [hf]; rfl
    unfold giveT
    rw [hn]
    refine Ev_shift 1 (fun k => by rw [ddiref43_Assign.l0, len_cv, if_neg (by omega)]) ?_
    refine Ev.bind (rchoose_ev p hw hp hu out hol h hh) ?_
    unfold newT
    cases hc : chooT p out h with
    | none => exact Ev_const rfl
    | some x =>
      show Ev (fun n => if (out.length : Int) ≥ 512 then some (([] : List S70), false, 0, 0, 0, 9) else (ddiref43_put.f n (out.map cv) x.f0.f0 x.f0.f1 x.f0.f2 x.f1 c e).bind fun t => some (t, x.f0.f0, x.f0.f1, x.f0.f2, x.f1, 0)) _
      by_cases g : out.length ≥ 512
      · simp only [if_pos (show (out.length : Int) ≥ 512 by omega), if_pos g]
        exact Ev_const rfl
      · simp only [if_neg (show ¬ (out.length : Int) ≥ 512 by omega), if_neg g]
        refine Ev.bind (put_ev out hol ⟨x, c, e⟩) (Ev_const rfl)
  | x :: r, i, hd, hil, hf => by
    obtain ⟨hi, hxi, hr⟩ := drop_at hd
    have hx := rd70 out i x r hd
    cases hb : mineB c x with
    | true =>
      have hn : out.findIdx? (mineB c) = some i := by rw [hf, List.findIdx?_cons, hb]; simp
      unfold giveT
      rw [hn]
      have hcx : (cv x).f1.toList = c.toList := by show x.f1.toList = c.toList; simpa [mineB] using hb
      refine Ev_shift 1 (f := fun _ => some (tR (out.set i (longer (rd_T61 out (i : Int)) e)) (rd_T61 out (i : Int)).f0 0)) (fun k => ?_) (Ev_const rfl)
      rw [ddiref43_Assign.l0, len_cv, if_pos (by omega), if_pos (by omega)]
      have hcx2 : (rd_T70 (out.map cv) (i : Int)).f1.toList = c.toList := by rw [hx]; exact hcx
      rw [if_pos hcx2, Int.toNat_natCast, cv_set out i hi e]
      simp only [Option.bind_some]
      rw [rdAt70 _ i (by rw [List.length_set]; exact hi), List.getElem_set_self]
      rfl
    | false =>
      have ih := rasg_l0 p hw hp hu out hol c h hh e r (i + 1) hr (by omega) (by
        rw [hf, List.findIdx?_cons, hb]
        simp only [Bool.false_eq_true, if_false, Option.map_map]
        congr 1
        funext j
        simp only [Function.comp]
        omega)
      have hcx : ¬ (cv x).f1.toList = c.toList := by show ¬ x.f1.toList = c.toList; simpa [mineB] using hb
      refine Ev_shift 1 (fun k => ?_) ih
      rw [ddiref43_Assign.l0, len_cv, if_pos (by omega), if_pos (by omega), hx, if_neg hcx, next i out.length hi (by omega)]
theorem rassign_ev (p : S28) (hw : (Lit.int .i64 p.f1).wf = true) (hu : uA p.f0.f0) (l : List S61) (hl : l.length ≤ 1000000000) (ok : ∀ g ∈ l, g.f1.size ≤ 140737488351232) (okA : ∀ g ∈ l, uA g.f0.f0) (c : ByteArray) (hc : c.size ≤ 140737488351232) (h : S26) (hh : uA h.f0) (now life : Int) (hlife : -9223372036854775808 ≤ life ∧ life ≤ 9223372036854775807) : Ev (fun k => ddiref43_Assign.f k p.f0.f0.f0 p.f0.f0.f1 p.f0.f0.f2 p.f0.f1 p.f1 (l.map cv) c h.f0.f0 h.f0.f1 h.f0.f2 h.f1 now life) (tR (asgT p l c h now life).1 (asgT p l c h now life).2.1 (asgT p l c h now life).2.2) := by
  unfold ddiref43_Assign.f asgT
  refine Ev.bind (rcheck_ev p hw l (by omega) ok okA) ?_
  by_cases hk : chkT p l = 0
  · simp only [if_pos hk]
    have hp := chkT_pool p l hk
    have hstop : Ev (fun k => ddiref43_Assign.j0 k (l.map cv) c now life true p.f0.f0.f0 p.f0.f0.f1 p.f0.f0.f2 p.f0.f1 p.f1 h.f0.f0 h.f0.f1 h.f0.f2 h.f1) (tR ([] : List S61) zPfx 1) := Ev_shift 1 (f := fun _ => some (([] : List S70), false, 0, 0, 0, 1)) (fun k => by rw [ddiref43_Assign.j0, if_pos rfl]) (Ev_const rfl)
    refine Ev.bind (rnamed_ev c hc) ?_
    unfold argsB
    cases cliB c with
    | false =>
      simp only [Bool.false_eq_true, if_false, Bool.false_and]
      exact hstop
    | true =>
      simp only [if_true, Bool.true_and]
      by_cases g0 : now < 0
      · simp only [if_pos g0, decide_eq_false (show ¬ 0 ≤ now by omega), Bool.false_and, Bool.false_eq_true, if_false]
        exact hstop
      · simp only [if_neg g0, decide_eq_true (show 0 ≤ now by omega), Bool.true_and]
        by_cases g1 : now > 4294967295
        · simp only [if_pos g1, decide_eq_false (show ¬ now ≤ 4294967295 by omega), Bool.false_and, Bool.false_eq_true, if_false]
          exact hstop
        · simp only [if_neg g1, decide_eq_true (show now ≤ 4294967295 by omega), Bool.true_and]
          by_cases g2 : life < 1
          · simp only [decide_eq_true g2, decide_eq_false (show ¬ 1 ≤ life by omega), Bool.false_eq_true, if_false]
            exact hstop
          · simp only [decide_eq_false g2, decide_eq_true (show 1 ≤ life by omega), if_true]
            have he : mn (wrap64 (now + mn life 4294967295)) 4294967295 = endT now life := by
              have h1 : 0 ≤ mn life 4294967295 ∧ mn life 4294967295 ≤ 4294967295 := by unfold mn; split <;> omega
              rw [wrap_id (by omega) (by omega)]
              unfold mn endT
              repeat' split
              all_goals omega
            refine Ev_shift 1 (fun k => by rw [ddiref43_Assign.j0, if_neg Bool.false_ne_true, he]) ?_
            refine Ev.bind (rexp_ev l hl now) ?_
            have hol : (expT l now).length ≤ 1000000000 := Nat.le_trans (exp_len l now) hl
            exact rasg_l0 p hw hp hu (expT l now) hol c h hh (endT now life) (expT l now) 0 rfl (by omega) (by simp)
  · simp only [if_neg hk]
    exact Ev_const rfl
/-! ### what a check says -/
theorem pcmp_trans {x y z : S26} : pcmp x y < 0 → pcmp y z < 0 → pcmp x z < 0 := by
  intro h1 h2
  unfold pcmp at h1 h2 ⊢
  by_cases e1 : cmp x.f0 y.f0 = 0
  · have := (cmp_zero _ _).1 e1
    rw [if_pos e1] at h1
    rw [this]
    by_cases e2 : cmp y.f0 z.f0 = 0
    · rw [if_pos e2] at h2 ⊢
      split at h1
      · split at h2
        · rw [if_pos (by omega)]; decide
        · split at h2 <;> omega
      · split at h1 <;> omega
    · rw [if_neg e2] at h2 ⊢
      exact h2
  · rw [if_neg e1] at h1
    by_cases e2 : cmp y.f0 z.f0 = 0
    · have := (cmp_zero _ _).1 e2
      rw [← this, if_neg e1]
      exact h1
    · rw [if_neg e2] at h2
      have h3 := cmp_trans h1 h2
      rw [if_neg (by omega)]
      exact h3
theorem pcmp_self (x : S26) : pcmp x x = 0 := by
  unfold pcmp
  rw [if_pos (cmp_self _), if_neg (by omega), if_neg (by omega)]
theorem eqPfx_iff (x y : S26) : eqPfx x y = true ↔ x = y := by
  obtain ⟨⟨a, b, c⟩, d⟩ := x
  obtain ⟨⟨a', b', c'⟩, d'⟩ := y
  simp [eqPfx]
def lowB (a b : S61) : Prop := pcmp a.f0 b.f0 < 0
theorem chk_iff (p : S28) : ∀ (r : List S61) (q : Option S26) (had : List S61), chk p q had r = 0 ↔ (∀ g ∈ r, ofB p g.f0 = true ∧ cliB g.f1 = true ∧ timeB g.f2 = true) ∧ (∀ g ∈ r, upB q g.f0 = true) ∧ r.Pairwise lowB ∧ (∀ g ∈ r, had.any (mineB g.f1) = false) ∧ r.Pairwise (fun a b => mineB b.f1 a = false)
  | [], q, had => by simp [chk]
  | g :: r, q, had => by
    have ih := chk_iff p r (some g.f0) (had ++ [g])
    have hone : chk p q had (g :: r) = 0 ↔ ofB p g.f0 = true ∧ upB q g.f0 = true ∧ (cliB g.f1 = true ∧ timeB g.f2 = true) ∧ had.any (mineB g.f1) = false ∧ chk p (some g.f0) (had ++ [g]) r = 0 := by
      rw [chk]
      cases ofB p g.f0 <;> cases upB q g.f0 <;> cases cliB g.f1 <;> cases timeB g.f2 <;> cases had.any (mineB g.f1) <;> simp
    rw [hone, ih]
    constructor
    · rintro ⟨h1, h2, h3, h4, h5, h6, h7, h8, h9⟩
      have hlow : ∀ x ∈ r, lowB g x := fun x hx => by
        have := h6 x hx
        unfold upB at this
        unfold lowB
        simpa using this
      refine ⟨fun x hx => ?_, fun x hx => ?_, List.pairwise_cons.2 ⟨hlow, h7⟩, fun x hx => ?_, List.pairwise_cons.2 ⟨fun x hx => ?_, h9⟩⟩
      · rcases List.mem_cons.1 hx with rfl | hx
        · exact ⟨h1, h3.1, h3.2⟩
        · exact h5 x hx
      · rcases List.mem_cons.1 hx with rfl | hx
        · exact h2
        · cases q with
          | none => rfl
          | some q =>
            unfold upB at h2 ⊢
            simp only [decide_eq_true_eq] at h2 ⊢
            exact pcmp_trans h2 (hlow x hx)
      · rcases List.mem_cons.1 hx with rfl | hx
        · exact h4
        · have := h8 x hx
          rw [List.any_append, Bool.or_eq_false_iff] at this
          exact this.1
      · have := h8 x hx
        rw [List.any_append, Bool.or_eq_false_iff] at this
        simpa using this.2
    · rintro ⟨h1, h2, h3, h4, h5⟩
      rw [List.pairwise_cons] at h3 h5
      have hg := h1 g (List.mem_cons_self ..)
      refine ⟨hg.1, h2 g (List.mem_cons_self ..), hg.2, h4 g (List.mem_cons_self ..), fun x hx => h1 x (List.mem_cons_of_mem _ hx), fun x hx => ?_, h3.2, fun x hx => ?_, h5.2⟩
      · have := h3.1 x hx
        unfold upB
        simpa [lowB] using this
      · rw [List.any_append, Bool.or_eq_false_iff]
        exact ⟨h4 x (List.mem_cons_of_mem _ hx), by simpa using h5.1 x hx⟩
theorem chkT_iff (p : S28) (l : List S61) : chkT p l = 0 ↔ poolB p = true ∧ l.length ≤ 512 ∧ (∀ g ∈ l, ofB p g.f0 = true ∧ cliB g.f1 = true ∧ timeB g.f2 = true) ∧ l.Pairwise lowB ∧ l.Pairwise (fun a b => mineB b.f1 a = false) := by
  unfold chkT
  cases poolB p with
  | false => simp
  | true =>
    simp only [if_true]
    by_cases h : l.length > 512
    · simp only [if_pos h]
      constructor
      · intro h; cases h
      · rintro ⟨_, h2, _⟩; omega
    · rw [if_neg h, chk_iff]
      simp only [upB, List.any_nil, implies_true, true_and]
      constructor
      · rintro ⟨a, b, c⟩; exact ⟨by omega, a, b, c⟩
      · rintro ⟨_, a, b, c⟩; exact ⟨a, b, c⟩
/-! ### Release -/
def relB (x : S26) (c : ByteArray) (g : S61) : Bool := eqPfx g.f0 x && (g.f1.toList == c.toList)
def relT (p : S28) (l : List S61) (c : ByteArray) (x : S26) : List S61 × Int :=
  if chkT p l = 0 then (match l.findIdx? (relB x c) with | none => ([], 11) | some i => (l.take i ++ l.drop (i + 1), 0)) else ([], chkT p l)
theorem rel1 (g : S61) (x : S26) (c : ByteArray) : delegate_Release_1.f g.f0.f0.f0 g.f0.f0.f1 g.f0.f0.f2 g.f0.f1 g.f1 g.f2 x.f0.f0 x.f0.f1 x.f0.f2 x.f1 c = some (relB x c g) := by
  unfold delegate_Release_1.f relB eqPfx
  cases (g.f0.f0.f0 == x.f0.f0 && (g.f0.f0.f1 == x.f0.f1 && (g.f0.f0.f2 == x.f0.f2))) && (g.f0.f1 == x.f1) <;> rfl
theorem i53_from (l : List S61) (hl : l.length ≤ 140737488351232) (q : S26) (c : ByteArray) : ∀ (r : List S61) (i : Nat), l.drop i = r → Ev (fun k => slices_IndexFunc_53.l0 k l (l.length : Int) (i : Int) q.f0.f0 q.f0.f1 q.f0.f2 q.f1 c) (ixv i (r.findIdx? (relB q c)))
  | [], i, h => by
    have := drop_end h
    exact Ev_shift 1 (f := fun _ => some (-1)) (fun k => by rw [slices_IndexFunc_53.l0, if_neg (by omega)]) (Ev_const rfl)
  | x :: r, i, h => by
    obtain ⟨hi, hx, hr⟩ := rd61 l i x r h
    cases hb : relB q c x with
    | true =>
      rw [ixv_hit i _ x r hb]
      refine Ev_shift 1 (f := fun _ => some (i : Int)) (fun k => ?_) (Ev_const rfl)
      rw [slices_IndexFunc_53.l0, if_pos (by omega), if_pos (by omega), if_pos (by omega), hx, rel1, hb, Option.bind_some, if_pos rfl]
    | false =>
      rw [ixv_miss i _ x r hb]
      refine Ev_shift 1 (fun k => ?_) (i53_from l hl q c r (i + 1) hr)
      rw [slices_IndexFunc_53.l0, if_pos (by omega), if_pos (by omega), if_pos (by omega), hx, rel1, hb, Option.bind_some, if_neg Bool.false_ne_true, next i l.length hi (by omega)]
theorem release_ev (p : S28) (hw : (Lit.int .i64 p.f1).wf = true) (l : List S61) (hl : l.length ≤ 1000000000) (ok : ∀ g ∈ l, g.f1.size ≤ 140737488351232) (c : ByteArray) (x : S26) : Ev (fun k => delegate_Release.f k p.f0.f0.f0 p.f0.f0.f1 p.f0.f0.f2 p.f0.f1 p.f1 l c x.f0.f0 x.f0.f1 x.f0.f2 x.f1) (relT p l c x) := by
  unfold delegate_Release.f relT
  refine Ev.bind (check_ev p hw l (by omega) ok) ?_
  by_cases hk : chkT p l = 0
  · simp only [if_pos hk]
    refine Ev.bind (?_ : Ev (fun k => slices_IndexFunc_53.f k l x.f0.f0 x.f0.f1 x.f0.f2 x.f1 c) (ixv 0 (l.findIdx? (relB x c)))) ?_
    · unfold slices_IndexFunc_53.f
      exact i53_from l (by omega) x c l 0 rfl
    cases ho : l.findIdx? (relB x c) with
    | none =>
      simp only [show ixv 0 none = -1 from rfl, if_pos (show (-1 : Int) < 0 by decide)]
      exact Ev_const rfl
    | some i =>
      have hi := idx_lt ho
      have e0 : ixv 0 (some i) = (i : Int) := by show ((0 + i : Nat) : Int) = (i : Int); omega
      have hcl : slices_Clone.f l = some l := by rw [slices_Clone.f, if_pos (by omega)]
      simp only [e0, if_neg (show ¬ (i : Int) < 0 by omega), hcl, Option.bind_some, next i l.length hi (by omega)]
      refine Ev_const ?_
      rw [slices_Delete.f, if_pos (by omega), if_pos (by omega), if_pos (by omega), Option.bind_some, Int.toNat_natCast, Int.toNat_natCast]
  · simp only [if_neg hk]
    exact Ev_const rfl
theorem rrel_from (l : List S61) (hl : l.length ≤ 1000000000) (c : ByteArray) (x : S26) : ∀ (r : List S61) (i : Nat), l.drop i = r → i ≤ l.length → Ev (fun k => ddiref43_Release.l0 k (l.map cv) c (((l.take i).filter (fun g => !relB x c g)).map cv) (i : Int) x.f0.f0 x.f0.f1 x.f0.f2 x.f1) (if (l.filter (fun g => !relB x c g)).length = l.length then ([], 11) else ((l.filter (fun g => !relB x c g)).map cv, 0))
  | [], i, h, hil => by
    have := drop_end h
    refine Ev_shift 1 (f := fun _ => some (if (l.filter (fun g => !relB x c g)).length = l.length then ([], 11) else ((l.filter (fun g => !relB x c g)).map cv, 0))) (fun k => ?_) (Ev_const rfl)
    rw [ddiref43_Release.l0, len_cv, if_neg (by omega), List.take_of_length_le this, len_cv]
    by_cases hq : (l.filter (fun g => !relB x c g)).length = l.length
    · rw [if_pos (by omega), if_pos hq]
    · rw [if_neg (by omega), if_neg hq]
  | g :: r, i, h, hil => by
    obtain ⟨hi, hxi, hr⟩ := drop_at h
    have hx := rd70 l i g r h
    have ih := rrel_from l hl c x r (i + 1) hr (by omega)
    have hlen : (((l.take i).filter (fun g => !relB x c g)).map cv).length < 2513169434916 := by
      have h3 := List.length_filter_le (fun g => !relB x c g) (l.take i)
      rw [List.length_take] at h3
      rw [List.length_map]
      omega
    rw [List.take_succ_eq_append_getElem hi, List.filter_append, hxi, List.filter_cons, List.filter_nil] at ih
    have hj : ∀ b : Bool, b = !relB x c g → Ev (fun k => ddiref43_Release.j1 k (l.map cv) c (((l.take i).filter (fun g => !relB x c g)).map cv) (i : Int) b x.f0.f0 x.f0.f1 x.f0.f2 x.f1) (if (l.filter (fun g => !relB x c g)).length = l.length then ([], 11) else ((l.filter (fun g => !relB x c g)).map cv, 0)) := fun b hb => by
      rw [← hb] at ih
      cases b with
      | false =>
        simp only [Bool.false_eq_true, if_false, List.append_nil] at ih
        exact Ev_shift 1 (fun k => by rw [ddiref43_Release.j1, if_neg Bool.false_ne_true, next i l.length hi (by omega)]) ih
      | true =>
        simp only [if_true, List.map_append] at ih
        refine Ev_shift 1 (fun k => ?_) ih
        rw [ddiref43_Release.j1, if_pos rfl, if_pos (by omega), len_cv, if_pos (by omega), if_pos hlen, hx, next i l.length hi (by omega)]
        rfl
    refine Ev_shift 1 (fun k => by rw [ddiref43_Release.l0, len_cv, if_pos (by omega), if_pos (by omega), hx]) ?_
    have e1 : ((!((cv g).f0.f0.f0 == x.f0.f0) || (!((cv g).f0.f0.f1 == x.f0.f1) || (!((cv g).f0.f0.f2 == x.f0.f2)))) || (!((cv g).f0.f1 == x.f1))) = !eqPfx g.f0 x := by
      unfold eqPfx
      show ((!(g.f0.f0.f0 == x.f0.f0) || (!(g.f0.f0.f1 == x.f0.f1) || (!(g.f0.f0.f2 == x.f0.f2)))) || (!(g.f0.f1 == x.f1))) = _
      cases (g.f0.f0.f0 == x.f0.f0) <;> cases (g.f0.f0.f1 == x.f0.f1) <;> cases (g.f0.f0.f2 == x.f0.f2) <;> cases (g.f0.f1 == x.f1) <;> rfl
    rw [e1]
    cases hq : eqPfx g.f0 x with
    | false =>
      simp only [Bool.not_false, if_true]
      exact hj true (by unfold relB; rw [hq]; rfl)
    | true =>
      simp only [Bool.not_true, Bool.false_eq_true, if_false]
      exact hj _ (by unfold relB; rw [hq]; rfl)
theorem filt_one (f : S61 → Bool) : ∀ (l : List S61), l.Pairwise (fun a b => ¬ (f a = true ∧ f b = true)) → (match l.findIdx? f with | none => l.filter (fun g => !f g) = l | some i => l.filter (fun g => !f g) = l.take i ++ l.drop (i + 1) ∧ (l.filter (fun g => !f g)).length ≠ l.length)
  | [], _ => by simp
  | x :: r, h => by
    rw [List.pairwise_cons] at h
    have ih := filt_one f r h.2
    rw [List.findIdx?_cons]
    cases hx : f x with
    | true =>
      have hr : r.filter (fun g => !f g) = r := List.filter_eq_self.2 (fun y hy => by
        have := h.1 y hy
        rw [hx] at this
        simpa using this)
      simp only [if_true, List.filter_cons, hx, Bool.not_true, Bool.false_eq_true, if_false, List.take_zero, List.nil_append, List.drop_succ_cons, List.drop_zero, hr]
      refine ⟨trivial, ?_⟩
      simp
    | false =>
      simp only [Bool.false_eq_true, if_false, List.filter_cons, hx, Bool.not_false, if_true]
      cases ho : r.findIdx? f with
      | none =>
        rw [ho] at ih
        simp only [Option.map_none]
        simp only at ih
        rw [ih]
      | some i =>
        rw [ho] at ih
        simp only [Option.map_some]
        simp only at ih
        obtain ⟨i1, i2⟩ := ih
        rw [i1]
        refine ⟨rfl, ?_⟩
        rw [i1] at i2
        rw [List.length_cons, List.length_cons]
        omega
theorem rel_pair (l : List S61) (h : l.Pairwise lowB) (x : S26) (c : ByteArray) : l.Pairwise (fun a b => ¬ (relB x c a = true ∧ relB x c b = true)) :=
  h.imp (fun {a b} hab => by
    rintro ⟨h1, h2⟩
    unfold relB at h1 h2
    rw [Bool.and_eq_true] at h1 h2
    have e1 := (eqPfx_iff _ _).1 h1.1
    have e2 := (eqPfx_iff _ _).1 h2.1
    unfold lowB at hab
    rw [e1, e2, pcmp_self] at hab
    omega)
theorem rrelease_ev (p : S28) (hw : (Lit.int .i64 p.f1).wf = true) (l : List S61) (hl : l.length ≤ 1000000000) (ok : ∀ g ∈ l, g.f1.size ≤ 140737488351232) (okA : ∀ g ∈ l, uA g.f0.f0) (c : ByteArray) (x : S26) : Ev (fun k => ddiref43_Release.f k p.f0.f0.f0 p.f0.f0.f1 p.f0.f0.f2 p.f0.f1 p.f1 (l.map cv) c x.f0.f0 x.f0.f1 x.f0.f2 x.f1) ((relT p l c x).1.map cv, (relT p l c x).2) := by
  unfold ddiref43_Release.f relT
  refine Ev.bind (rcheck_ev p hw l (by omega) ok okA) ?_
  by_cases hk : chkT p l = 0
  · simp only [if_pos hk]
    have h1 := rrel_from l hl c x l 0 rfl (by omega)
    have h2 := filt_one (relB x c) l (rel_pair l ((chkT_iff p l).1 hk).2.2.2.1 x c)
    cases ho : l.findIdx? (relB x c) with
    | none =>
      rw [ho] at h2
      simp only at h2
      rw [h2, if_pos rfl] at h1
      exact h1
    | some i =>
      rw [ho] at h2
      simp only at h2
      rw [if_neg h2.2, h2.1] at h1
      exact h1
  · simp only [if_neg hk]
    exact Ev_const rfl
end Go.Proofs.Ythjngcjhjnigjaa.Ma
namespace Go.Proofs.Ythjngcjhjnigjaa.Ma
open Go.RowKit Go.Proofs.YthjngcjhjnigjaaW.PrintWords Go.Proofs.YthjngcjhjnigjaaW.PrintLast Go.Proofs.YthjngcjhjnigjaaW.PrintMore Go.Proofs.Ythjngcjhjnigjaa.XP Go.Proofs.Ythjngcjhjnigjaa.QA Go.Proofs.Ythjngcjhjnigjaa.Cm
set_option linter.unusedVariables false
set_option linter.unusedSimpArgs false
theorem give_len (p : S28) (out : List S61) (c : ByteArray) (h : S26) (e : Int) : (giveT p out c h e).1.length ≤ out.length + 1 := by
  unfold giveT
  cases out.findIdx? (mineB c) with
  | some i => show (out.set i _).length ≤ _; rw [List.length_set]; omega
  | none =>
    show (newT p out c h e).1.length ≤ _
    unfold newT
    cases chooT p out h with
    | none => simp
    | some x =>
      show (if out.length ≥ 512 then (([] : List S61), zPfx, (9 : Int)) else (putT out ⟨x, c, e⟩, x, 0)).1.length ≤ _
      split
      · simp
      · unfold putT
        rw [List.length_append, List.length_append, List.length_take, List.length_drop, List.length_singleton]
        omega
theorem asg_len (p : S28) (l : List S61) (c : ByteArray) (h : S26) (now life : Int) : (asgT p l c h now life).1.length ≤ l.length + 1 := by
  unfold asgT
  split
  · split
    · have h1 := give_len p (expT l now) c h (endT now life)
      have h2 := exp_len l now
      omega
    · simp
  · simp
theorem rel_len (p : S28) (l : List S61) (c : ByteArray) (x : S26) : (relT p l c x).1.length ≤ l.length := by
  unfold relT
  split
  · cases l.findIdx? (relB x c) with
    | none => simp
    | some i =>
      show (l.take i ++ l.drop (i + 1)).length ≤ _
      rw [List.length_append, List.length_take, List.length_drop]
      omega
  · simp
theorem delegateAssigns : ddilaw43_DelegateAssigns.Pure := by
  intro p0 p1 p2 p3 p4 l c a0 a1 a2 a3 n life hp ⟨hl, _, ok⟩ hx
  obtain ⟨hs, hA⟩ := own_ok l ok
  have hlen := ownT_len l
  have ok2 : ∀ g ∈ ownT l, g.f1.size ≤ 140737488351232 := fun g hg => Nat.le_trans (hs g hg) (by omega)
  have hu : uA (⟨a0, a1, a2⟩ : S24) := uA_of hx.2.1.1
  have hup : uA (⟨p0, p1, p2⟩ : S24) := uA_of hp.1.1
  have hlife := wf_i64 hx.2.2.2
  obtain ⟨m0, m1, m2⟩ := (show 0 ≤ mn (c.size : Int) 100 ∧ mn (c.size : Int) 100 ≤ (c.size : Int) ∧ (mn (c.size : Int) 100).toNat = min c.size 100 from mn_len' c.size 100)
  have hcs : (c.extract 0 (min c.size 100)).size ≤ 100 := cut_size ⟨⟨⟨false, 0, 0⟩, 0⟩, c, 0⟩
  refine Ev.rounds (?_ : Ev (fun k => ddilaw43_DelegateAssigns.f k p0 p1 p2 p3 p4 l c a0 a1 a2 a3 n life) true)
  unfold ddilaw43_DelegateAssigns.f
  refine Ev.bind (few_ev l (by omega)) ?_
  simp only [if_pos m0, if_pos m1, m2]
  refine Ev.bind (own_ev ((ownT l).map cv) (by rw [List.length_map]; omega)) ?_
  rw [ownT_own]
  generalize c.extract 0 (min c.size 100) = d at hcs
  refine Ev.bind (assign_ev ⟨⟨⟨p0, p1, p2⟩, p3⟩, p4⟩ hp.2 (ownT l) (by omega) ok2 d (by omega) ⟨⟨a0, a1, a2⟩, a3⟩ n life hlife) ?_
  refine Ev.bind (rassign_ev ⟨⟨⟨p0, p1, p2⟩, p3⟩, p4⟩ hp.2 hup (ownT l) (by omega) ok2 hA d (by omega) ⟨⟨a0, a1, a2⟩, a3⟩ hu n life hlife) ?_
  refine Ev.bind (release_ev ⟨⟨⟨p0, p1, p2⟩, p3⟩, p4⟩ hp.2 (ownT l) (by omega) ok2 d ⟨⟨a0, a1, a2⟩, a3⟩) ?_
  refine Ev.bind (rrelease_ev ⟨⟨⟨p0, p1, p2⟩, p3⟩, p4⟩ hp.2 (ownT l) (by omega) ok2 hA d ⟨⟨a0, a1, a2⟩, a3⟩) ?_
  have h1 := asg_len ⟨⟨⟨p0, p1, p2⟩, p3⟩, p4⟩ (ownT l) d ⟨⟨a0, a1, a2⟩, a3⟩ n life
  have h2 := rel_len ⟨⟨⟨p0, p1, p2⟩, p3⟩, p4⟩ (ownT l) d ⟨⟨a0, a1, a2⟩, a3⟩
  generalize asgT ⟨⟨⟨p0, p1, p2⟩, p3⟩, p4⟩ (ownT l) d ⟨⟨a0, a1, a2⟩, a3⟩ n life = A at h1
  generalize relT ⟨⟨⟨p0, p1, p2⟩, p3⟩, p4⟩ (ownT l) d ⟨⟨a0, a1, a2⟩, a3⟩ = B at h2
  refine Ev.bind (same_ev A.1 (by omega)) ?_
  simp only [if_true, tA, tR, beq_self_eq_true, Bool.and_self]
  refine Ev.bind (same_ev B.1 (by omega)) ?_
  simp only [if_true]
  exact Ev.bind awake_ev (Ev_const rfl)
end Go.Proofs.Ythjngcjhjnigjaa.Ma
namespace Go.Proofs.Ythjngcjhjnigjaa.Pure
theorem DelegateAssigns : QA.ddilaw43_DelegateAssigns.Pure := Ma.delegateAssigns
end Go.Proofs.Ythjngcjhjnigjaa.Pure
