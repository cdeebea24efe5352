/- The numbers of used addresses of a block's halves sum up to the block's: the pure statement of UsageSums (no condition but the sizes that every argument has). -/
import Derived.Test.YtjifdgicamlikaaQAd4
import Derived.Test.YtjifdgicamlikaaQAd1
import Derived.Test.YtjifdgicamlikaaXP
import Derived.Test.YtjifdgicamlikaaQAd
import Derived.Test.YtjifdgicamlikaaXM
import Derived.Laws.Bits64
namespace Go.Proofs.Ytjifdgicamlikaa.Cm
open Go.RowKit Go.Proofs.YtjifdgicamlikaaW.PrintWords Go.Proofs.YtjifdgicamlikaaW.PrintLast Go.Proofs.YtjifdgicamlikaaW.PrintMore Go.Proofs.Ytjifdgicamlikaa.XP Go.Proofs.Ytjifdgicamlikaa.QA
set_option linter.unusedVariables false
set_option linter.unusedSimpArgs false
theorem rdAddr (l : List S29) (i : Nat) (h : i < l.length) : rd_T29 l (i : Int) = l[i] := by
  simp [rd_T29, List.getD_eq_getElem?_getD, List.getElem?_eq_getElem h]
def ea (a x : S29) : Bool := a.f0 == x.f0 && (a.f1 == x.f1 && (a.f2 == x.f2))
theorem ea_iff (a x : S29) : ea a x = true ↔ a = x := by
  obtain ⟨a0, a1, a2⟩ := a
  obtain ⟨x0, x1, x2⟩ := x
  simp [ea]
def cmp (a b : S29) : Int := if (a.f0 != b.f0) = true then (if b.f0 = true then -1 else 1) else (if a.f1 = b.f1 then (if a.f2 < b.f2 then -1 else (if a.f2 > b.f2 then 1 else 0)) else (if a.f1 < b.f1 then -1 else 1))
theorem num (a b : Int) : addr_number.f a b = some (if a < b then -1 else (if a > b then 1 else 0)) := by
  unfold addr_number.f
  repeat' split
  all_goals rfl
theorem ucmp (a b : S29) : Ev (fun k => addr_Compare.f k a.f0 a.f1 a.f2 b.f0 b.f1 b.f2) (cmp a b) := by
  refine Ev_shift 1 (f := fun _ => some (cmp a b)) (fun k => ?_) (Ev_const rfl)
  unfold addr_Compare.f addr_Compare.j0 cmp
  simp only [num]
  cases h0 : a.f0 <;> cases h1 : b.f0 <;> simp
  all_goals
    by_cases h : a.f1 = b.f1
    · simp [h]
    · simp only [h, if_false]
      by_cases h2 : a.f1 < b.f1
      · simp [h2]
      · simp [h2]
        omega
theorem cmp_zero (a b : S29) : cmp a b = 0 ↔ a = b := by
  obtain ⟨a0, a1, a2⟩ := a
  obtain ⟨b0, b1, b2⟩ := b
  simp only [cmp, S29.mk.injEq]
  cases a0 <;> cases b0 <;> simp <;> repeat' split
  all_goals omega
theorem cmp_self (a : S29) : cmp a a = 0 := (cmp_zero a a).2 rfl
theorem cmp_flip (a b : S29) : cmp b a = -cmp a b := by
  obtain ⟨a0, a1, a2⟩ := a
  obtain ⟨b0, b1, b2⟩ := b
  simp only [cmp]
  cases a0 <;> cases b0 <;> simp <;> repeat' split
  all_goals omega
theorem cmp_trans {a b c : S29} : cmp a b < 0 → cmp b c < 0 → cmp a c < 0 := by
  obtain ⟨a0, a1, a2⟩ := a
  obtain ⟨b0, b1, b2⟩ := b
  obtain ⟨c0, c1, c2⟩ := c
  simp only [cmp]
  cases a0 <;> cases b0 <;> cases c0 <;> simp <;> repeat' split
  all_goals omega
end Go.Proofs.Ytjifdgicamlikaa.Cm
namespace Go.Proofs.Ytjifdgicamlikaa.Cm
open Go.RowKit Go.Proofs.YtjifdgicamlikaaW.PrintWords Go.Proofs.YtjifdgicamlikaaW.PrintLast Go.Proofs.YtjifdgicamlikaaW.PrintMore Go.Proofs.Ytjifdgicamlikaa.XP Go.Proofs.Ytjifdgicamlikaa.QA
set_option linter.unusedVariables false
set_option linter.unusedSimpArgs false
/-! ### bits -/
theorem bv_split (A B : BitVec 64) : (A &&& ~~~B) + (A &&& B) = A := by
  rw [BitVec.add_eq_or_of_and_eq_zero]
  · apply BitVec.eq_of_getLsbD_eq
    intro i hi
    simp only [BitVec.getLsbD_or, BitVec.getLsbD_and, BitVec.getLsbD_not, hi, decide_true, Bool.true_and]
    cases A.getLsbD i <;> cases B.getLsbD i <;> rfl
  · apply BitVec.eq_of_getLsbD_eq
    intro i hi
    simp only [BitVec.getLsbD_and, BitVec.getLsbD_not, hi, decide_true, Bool.true_and, BitVec.getLsbD_zero]
    cases A.getLsbD i <;> cases B.getLsbD i <;> rfl
theorem bv_of (x : Int) (h0 : 0 ≤ x) (h1 : x < 18446744073709551616) : ((BitVec.ofInt 64 x).toNat : Int) = x := by
  obtain ⟨n, rfl⟩ := Int.eq_ofNat_of_zero_le h0
  rw [BitVec.ofInt_natCast, BitVec.toNat_ofNat]
  omega
theorem b_and (x m : Int) : Go.bits .and .u64 x m = ((BitVec.ofInt 64 x &&& BitVec.ofInt 64 m).toNat : Int) := by
  show IntKind.u64.wrap ((BitVec.ofInt 64 x &&& BitVec.ofInt 64 m).toNat : Int) = _
  have := (BitVec.ofInt 64 x &&& BitVec.ofInt 64 m).isLt
  rw [IntKind.wrap_u64]
  omega
theorem b_or (x m : Int) : Go.bits .or .u64 x m = ((BitVec.ofInt 64 x ||| BitVec.ofInt 64 m).toNat : Int) := by
  show IntKind.u64.wrap ((BitVec.ofInt 64 x ||| BitVec.ofInt 64 m).toNat : Int) = _
  have := (BitVec.ofInt 64 x ||| BitVec.ofInt 64 m).isLt
  rw [IntKind.wrap_u64]
  omega
theorem b_not (x m : Int) : Go.bits .andNot .u64 x m = ((BitVec.ofInt 64 x &&& ~~~BitVec.ofInt 64 m).toNat : Int) := by
  show IntKind.u64.wrap ((BitVec.ofInt 64 x &&& ~~~BitVec.ofInt 64 m).toNat : Int) = _
  have := (BitVec.ofInt 64 x &&& ~~~BitVec.ofInt 64 m).isLt
  rw [IntKind.wrap_u64]
  omega
theorem andnot_sub (x m : Int) (h0 : 0 ≤ x) (h1 : x < 18446744073709551616) : IntKind.u64.wrap (x - Go.bits .and .u64 x m) = Go.bits .andNot .u64 x m := by
  rw [b_and, b_not, IntKind.wrap_u64]
  have hx := bv_of x h0 h1
  generalize BitVec.ofInt 64 x = A at hx
  generalize BitVec.ofInt 64 m = B
  have h := congrArg BitVec.toNat (bv_split A B)
  rw [BitVec.toNat_add] at h
  have c1 : (A &&& B).toNat ≤ A.toNat := by rw [BitVec.toNat_and]; exact Nat.and_le_left
  have c2 : (A &&& ~~~B).toNat ≤ A.toNat := by rw [BitVec.toNat_and]; exact Nat.and_le_left
  omega
theorem or_add (x m : Int) (h0 : 0 ≤ x) (h1 : x < 18446744073709551616) (g0 : 0 ≤ m) (g1 : m < 18446744073709551616) (h : Go.bits .and .u64 x m = 0) : IntKind.u64.wrap (x + m) = Go.bits .or .u64 x m := by
  rw [b_and] at h
  rw [b_or, IntKind.wrap_u64]
  have hx := bv_of x h0 h1
  have hm := bv_of m g0 g1
  generalize BitVec.ofInt 64 x = A at hx h
  generalize BitVec.ofInt 64 m = B at hm h
  have hz : A &&& B = 0#64 := by
    apply BitVec.eq_of_toNat_eq
    rw [BitVec.toNat_ofNat]
    omega
  rw [← BitVec.add_eq_or_of_and_eq_zero A B hz, BitVec.toNat_add]
  omega
/-! ### masks -/
def mHi (m : Nat) : Int := ((2 ^ (m - 64) - 1 : Nat) : Int)
def mLo (m : Nat) : Int := ((2 ^ (min m 64) - 1 : Nat) : Int)
def lenV (b : Bool) : Int := if b = true then 128 else 32
theorem later6 : ∀ n : Fin 129, prefix_later.f true ((n.val : Nat) : Int) = some (mHi (128 - n.val), mLo (128 - n.val)) := by decide +kernel
theorem later4 : ∀ n : Fin 33, prefix_later.f false ((n.val : Nat) : Int) = some (mHi (32 - n.val), mLo (32 - n.val)) := by decide +kernel
theorem lenV_le (b : Bool) : 32 ≤ lenV b ∧ lenV b ≤ 128 := by
  cases b <;> simp [lenV]
theorem later_v (b : Bool) (n : Int) (h0 : 0 ≤ n) (h1 : n ≤ lenV b) : prefix_later.f b n = some (mHi (lenV b - n).toNat, mLo (lenV b - n).toNat) := by
  obtain ⟨j, rfl⟩ := Int.eq_ofNat_of_zero_le h0
  cases b with
  | true =>
    have h2 : lenV true = 128 := rfl
    rw [h2] at h1 ⊢
    have h := later6 ⟨j, by omega⟩
    simp only at h
    rw [h, show ((128 : Int) - (j : Int)).toNat = 128 - j by omega]
  | false =>
    have h2 : lenV false = 32 := rfl
    rw [h2] at h1 ⊢
    have h := later4 ⟨j, by omega⟩
    simp only at h
    rw [h, show ((32 : Int) - (j : Int)).toNat = 32 - j by omega]
theorem length_v (a : S29) : prefix_length.f a.f0 a.f1 a.f2 = some (lenV a.f0) := by
  unfold prefix_length.f
  cases a.f0 <;> rfl
/-! ### addresses -/
def adB (x : S29) : Bool := x.f0 || (decide (x.f1 = 0) && decide (x.f2 ≤ 4294967295))
theorem ad_v (x : S29) : addr_Valid.f x.f0 x.f1 x.f2 = some (adB x) := by
  unfold addr_Valid.f adB
  cases h : x.f0 with
  | true => rfl
  | false =>
    simp only [Bool.false_eq_true, if_false, Bool.false_or]
    by_cases h1 : x.f1 = 0
    · simp [h1]
    · simp [h1]
/-! ### Valid -/
def mkH (a : S29) (n : Int) : Int := mHi (lenV a.f0 - n).toNat
def mkL (a : S29) (n : Int) : Int := mLo (lenV a.f0 - n).toNat
def inB (a : S29) (n : Int) : Bool := adB a && (decide (0 ≤ n) && decide (n ≤ lenV a.f0))
def pvB (p : S31) : Bool := inB p.f0 p.f1 && (decide (Go.bits .and .u64 p.f0.f1 (mkH p.f0 p.f1) = 0) && (Go.bits .and .u64 p.f0.f2 (mkL p.f0 p.f1) == 0))
theorem inB_iff (a : S29) (n : Int) : inB a n = true ↔ adB a = true ∧ 0 ≤ n ∧ n ≤ lenV a.f0 := by
  simp [inB]
theorem pv_in {p : S31} (h : pvB p = true) : adB p.f0 = true ∧ 0 ≤ p.f1 ∧ p.f1 ≤ lenV p.f0.f0 := by
  rw [pvB, Bool.and_eq_true] at h
  exact (inB_iff _ _).1 h.1
theorem pv_j (p : S31) (b : Bool) (hb : b = !inB p.f0 p.f1) : Ev (fun k => prefix_Valid.j0 k b p.f0.f0 p.f0.f1 p.f0.f2 p.f1) (pvB p) := by
  unfold pvB
  cases hi : inB p.f0 p.f1 with
  | false =>
    rw [hi] at hb
    subst hb
    refine Ev_shift 1 (f := fun _ => some false) (fun k => ?_) (Ev_const rfl)
    rw [prefix_Valid.j0]
    rfl
  | true =>
    rw [hi] at hb
    subst hb
    obtain ⟨_, h0, h1⟩ := (inB_iff _ _).1 hi
    refine Ev_shift 1 (f := fun _ => some (decide (Go.bits .and .u64 p.f0.f1 (mkH p.f0 p.f1) = 0) && (Go.bits .and .u64 p.f0.f2 (mkL p.f0 p.f1) == 0))) (fun k => ?_) (Ev_const rfl)
    rw [prefix_Valid.j0, if_neg (by decide), later_v p.f0.f0 p.f1 h0 h1]
    simp only [Option.bind_some]
    show (if Go.bits .and .u64 p.f0.f1 (mkH p.f0 p.f1) = 0 then _ else _) = _
    by_cases h : Go.bits .and .u64 p.f0.f1 (mkH p.f0 p.f1) = 0
    · rw [if_pos h, decide_eq_true h]; rfl
    · rw [if_neg h, decide_eq_false h]; rfl
theorem valid_pfx (p : S31) : Ev (fun k => prefix_Valid.f k p.f0.f0 p.f0.f1 p.f0.f2 p.f1) (pvB p) := by
  unfold prefix_Valid.f
  simp only [ad_v, Option.bind_some, length_v]
  cases ha : adB p.f0 with
  | false =>
    simp only [Bool.false_eq_true, if_false]
    exact pv_j p true (by simp [inB, ha])
  | true =>
    simp only [if_true]
    by_cases h0 : p.f1 < 0
    · simp only [if_pos h0]
      exact pv_j p true (by simp [inB, ha]; omega)
    · simp only [if_neg h0]
      refine pv_j p _ ?_
      by_cases h1 : p.f1 ≤ lenV p.f0.f0
      · rw [decide_eq_false (by omega)]; simp [inB, ha, h1]; omega
      · rw [decide_eq_true (by omega)]; simp [inB, ha, h1]
/-! ### Of -/
def zPfx : S31 := ⟨⟨false, 0, 0⟩, 0⟩
def ofV (a : S29) (n : Int) : S31 := if inB a n = true then ⟨⟨a.f0, Go.bits .andNot .u64 a.f1 (mkH a n), Go.bits .andNot .u64 a.f2 (mkL a n)⟩, n⟩ else zPfx
def tPfx (p : S31) (b : Bool) : Bool × Int × Int × Int × Bool := (p.f0.f0, p.f0.f1, p.f0.f2, p.f1, b)
theorem of_j (a : S29) (n : Int) (b : Bool) (hb : b = !inB a n) : Ev (fun k => prefix_Of.j0 k n b a.f0 a.f1 a.f2) (tPfx (ofV a n) (inB a n)) := by
  unfold ofV
  cases hi : inB a n with
  | false =>
    rw [hi] at hb
    subst hb
    refine Ev_shift 1 (f := fun _ => some (tPfx zPfx false)) (fun k => ?_) (Ev_const rfl)
    rw [prefix_Of.j0]
    rfl
  | true =>
    rw [hi] at hb
    subst hb
    obtain ⟨_, h0, h1⟩ := (inB_iff _ _).1 hi
    refine Ev_shift 1 (f := fun _ => some (tPfx ⟨⟨a.f0, Go.bits .andNot .u64 a.f1 (mkH a n), Go.bits .andNot .u64 a.f2 (mkL a n)⟩, n⟩ true)) (fun k => ?_) (Ev_const rfl)
    rw [prefix_Of.j0, if_neg (by decide), later_v a.f0 n h0 h1]
    rfl
theorem of_pfx (a : S29) (n : Int) : Ev (fun k => prefix_Of.f k a.f0 a.f1 a.f2 n) (tPfx (ofV a n) (inB a n)) := by
  unfold prefix_Of.f
  simp only [ad_v, Option.bind_some, length_v]
  cases ha : adB a with
  | false =>
    simp only [Bool.false_eq_true, if_false]
    exact of_j a n true (by simp [inB, ha])
  | true =>
    simp only [if_true]
    by_cases h0 : n < 0
    · simp only [if_pos h0]
      exact of_j a n true (by simp [inB, ha]; omega)
    · simp only [if_neg h0]
      refine of_j a n _ ?_
      by_cases h1 : n ≤ lenV a.f0
      · rw [decide_eq_false (by omega)]; simp [inB, ha, h1]; omega
      · rw [decide_eq_true (by omega)]; simp [inB, ha, h1]
def uA (a : S29) : Prop := (0 ≤ a.f1 ∧ a.f1 < 18446744073709551616) ∧ (0 ≤ a.f2 ∧ a.f2 < 18446744073709551616)
theorem uA_of {a : S29} (h : okS29 a) : uA a := by
  obtain ⟨_, h1, h2⟩ := h
  have g1 := wf_u64 h1
  have g2 := wf_u64 h2
  exact ⟨⟨g1.1, by omega⟩, ⟨g2.1, by omega⟩⟩
/-! ### Contains, Within, Overlap -/
def eqPfx (x p : S31) : Bool := (x.f0.f0 == p.f0.f0 && (x.f0.f1 == p.f0.f1 && (x.f0.f2 == p.f0.f2))) && (x.f1 == p.f1)
def pcB (p : S31) (a : S29) : Bool := pvB p && ((p.f0.f0 == a.f0) && (inB a p.f1 && eqPfx (ofV a p.f1) p))
theorem con_j (p : S31) (a : S29) (b : Bool) (hb : b = !(pvB p && (p.f0.f0 == a.f0))) : Ev (fun k => prefix_Contains.j0 k b p.f0.f0 p.f0.f1 p.f0.f2 p.f1 a.f0 a.f1 a.f2) (pcB p a) := by
  unfold pcB
  rw [← Bool.and_assoc]
  cases hi : (pvB p && (p.f0.f0 == a.f0)) with
  | false =>
    rw [hi] at hb
    subst hb
    refine Ev_shift 1 (f := fun _ => some false) (fun k => ?_) (Ev_const rfl)
    rw [prefix_Contains.j0]
    rfl
  | true =>
    rw [hi] at hb
    subst hb
    refine Ev_shift 1 (fun k => by rw [prefix_Contains.j0, if_neg (by decide)]) ?_
    refine Ev.bind (of_pfx a p.f1) ?_
    show Ev (fun n => if inB a p.f1 = true then some (eqPfx (ofV a p.f1) p) else some false) _
    cases inB a p.f1 with
    | true => exact Ev_const rfl
    | false => exact Ev_const rfl
theorem contains_pfx (p : S31) (a : S29) : Ev (fun k => prefix_Contains.f k p.f0.f0 p.f0.f1 p.f0.f2 p.f1 a.f0 a.f1 a.f2) (pcB p a) := by
  unfold prefix_Contains.f
  refine Ev.bind (valid_pfx p) ?_
  cases hv : pvB p with
  | true =>
    simp only [if_true]
    exact con_j p a _ (by rw [hv]; rfl)
  | false =>
    simp only [Bool.false_eq_true, if_false]
    exact con_j p a _ (by rw [hv]; rfl)
def pwB (p q : S31) : Bool := pvB p && (decide (q.f1 ≤ p.f1) && pcB q p.f0)
theorem pcB_v {q : S31} {a : S29} (h : pvB q = false) : pcB q a = false := by rw [pcB, h]; rfl
theorem within_pfx (p q : S31) : Ev (fun k => prefix_Within.f k p.f0.f0 p.f0.f1 p.f0.f2 p.f1 q.f0.f0 q.f0.f1 q.f0.f2 q.f1) (pwB p q) := by
  unfold prefix_Within.f pwB
  refine Ev.bind (valid_pfx p) ?_
  cases hv : pvB p with
  | false =>
    simp only [Bool.false_eq_true, if_false]
    exact Ev_const rfl
  | true =>
    simp only [if_true, Bool.true_and]
    refine Ev.bind (valid_pfx q) ?_
    cases hq : pvB q with
    | false =>
      simp only [Bool.false_eq_true, if_false]
      rw [pcB_v hq, Bool.and_false]
      exact Ev_const rfl
    | true =>
      simp only [if_true]
      by_cases h : p.f1 ≥ q.f1
      · simp only [if_pos h, decide_eq_true (show q.f1 ≤ p.f1 from h), Bool.true_and]
        exact Ev.bind (contains_pfx q p.f0) (Ev_const rfl)
      · simp only [if_neg h, decide_eq_false (show ¬ q.f1 ≤ p.f1 from h), Bool.false_and]
        exact Ev_const rfl
end Go.Proofs.Ytjifdgicamlikaa.Cm
namespace Go.Proofs.Ytjifdgicamlikaa.Cm
open Go.RowKit Go.Proofs.YtjifdgicamlikaaW.PrintWords Go.Proofs.YtjifdgicamlikaaW.PrintLast Go.Proofs.YtjifdgicamlikaaW.PrintMore Go.Proofs.Ytjifdgicamlikaa.XP Go.Proofs.Ytjifdgicamlikaa.QA
set_option linter.unusedVariables false
set_option linter.unusedSimpArgs false
/-! ### shifts over 128 bits -/
def pHi (i : Int) (s : Nat) : Int := i * 2 ^ s / 18446744073709551616 % 18446744073709551616
def pLo (i : Int) (s : Nat) : Int := i * 2 ^ s % 18446744073709551616
theorem pow_split (a b : Nat) : (2 : Int) ^ a * 2 ^ b = 2 ^ (a + b) := (Int.pow_add 2 a b).symm
theorem pow_posI (a : Nat) : (0 : Int) < 2 ^ a := Int.pow_pos (by decide)
theorem sh_big (i : Int) (s : Nat) (h : 64 ≤ s) (h2 : s ≤ 128) : shl .u64 i ((s : Int) - 64) = pHi i s ∧ pLo i s = 0 := by
  obtain ⟨t, rfl⟩ : ∃ t, s = 64 + t := ⟨s - 64, by omega⟩
  have e : i * 2 ^ (64 + t) = i * 2 ^ t * 18446744073709551616 := by
    rw [← pow_split 64 t, Int.mul_comm (2 ^ 64) (2 ^ t), ← Int.mul_assoc]; rfl
  unfold pHi pLo shl
  rw [e, show (((64 + t : Nat) : Int) - 64).toNat = t by omega, show min t IntKind.u64.bits = t by show min t 64 = t; omega, IntKind.wrap_u64]
  generalize i * 2 ^ t = V
  omega
theorem sh_small (i : Int) (h0 : 0 ≤ i) (h1 : i < 18446744073709551616) (s : Nat) (hs : s ≤ 64) : shr .u64 i (64 - (s : Int)) = pHi i s ∧ shl .u64 i (s : Int) = pLo i s := by
  constructor
  · unfold pHi shr
    have e : (18446744073709551616 : Int) = 2 ^ (64 - s) * 2 ^ s := by rw [pow_split, show 64 - s + s = 64 by omega]; rfl
    have hq : i * 2 ^ s / 18446744073709551616 = i / 2 ^ (64 - s) := by
      rw [e, Int.mul_ediv_mul_of_pos_left _ _ (pow_posI s)]
    rw [hq, show (64 - (s : Int)).toNat = 64 - s by omega, show min (64 - s) IntKind.u64.bits = 64 - s by show min (64 - s) 64 = 64 - s; omega]
    have hd : 0 ≤ i / 2 ^ (64 - s) := Int.ediv_nonneg h0 (Int.le_of_lt (pow_posI _))
    have hd2 : i / 2 ^ (64 - s) ≤ i := Int.ediv_le_self _ h0
    omega
  · unfold pLo shl
    rw [show ((s : Int)).toNat = s by omega, show min s IntKind.u64.bits = s by show min s 64 = s; omega, IntKind.wrap_u64]
theorem nat_apart (x k y : Nat) (hx : x &&& (2 ^ k - 1) = 0) (hy : y < 2 ^ k) : x &&& y = 0 := by
  apply Nat.eq_of_testBit_eq
  intro j
  rw [Nat.testBit_and, Nat.zero_testBit]
  by_cases h : j < k
  · have := congrArg (fun n => n.testBit j) hx
    simp only [Nat.testBit_and, Nat.zero_testBit, Nat.testBit_two_pow_sub_one, h, decide_true, Bool.and_true] at this
    rw [this, Bool.false_and]
  · rw [Nat.testBit_lt_two_pow (Nat.lt_of_lt_of_le hy (Nat.pow_le_pow_right (by decide) (by omega))), Bool.and_false]
theorem b_and_nat (x m : Nat) (hx : x < 18446744073709551616) (hm : m < 18446744073709551616) : Go.bits .and .u64 (x : Int) (m : Int) = ((x &&& m : Nat) : Int) := by
  rw [b_and, BitVec.ofInt_natCast, BitVec.ofInt_natCast, BitVec.toNat_and, BitVec.toNat_ofNat, BitVec.toNat_ofNat, Nat.mod_eq_of_lt (by omega), Nat.mod_eq_of_lt (by omega)]
theorem apart (x y : Int) (k : Nat) (hk : k ≤ 64) (h0 : 0 ≤ x) (h1 : x < 18446744073709551616) (g0 : 0 ≤ y) (g1 : y < 2 ^ k) (h : Go.bits .and .u64 x ((2 ^ k - 1 : Nat) : Int) = 0) : Go.bits .and .u64 x y = 0 := by
  obtain ⟨x, rfl⟩ := Int.eq_ofNat_of_zero_le h0
  obtain ⟨y, rfl⟩ := Int.eq_ofNat_of_zero_le g0
  have hp : (2 : Nat) ^ k ≤ 18446744073709551616 := Nat.pow_le_pow_right (n := 2) (by decide) hk
  have hy : y < 2 ^ k := by exact_mod_cast g1
  rw [b_and_nat x (2 ^ k - 1) (by omega) (by omega)] at h
  rw [b_and_nat x y (by omega) (by omega), nat_apart x k y (by exact_mod_cast h) hy]
  rfl
/-! ### Part -/
def parB (p : S31) (n i : Int) : Bool := pvB p && (decide (p.f1 ≤ n) && (decide (n ≤ lenV p.f0.f0) && (decide (n - p.f1 ≥ 64) || decide (i < 2 ^ (n - p.f1).toNat))))
def parV (p : S31) (n i : Int) : S31 := if parB p n i = true then ⟨⟨p.f0.f0, Go.bits .or .u64 p.f0.f1 (pHi i (lenV p.f0.f0 - n).toNat), Go.bits .or .u64 p.f0.f2 (pLo i (lenV p.f0.f0 - n).toNat)⟩, n⟩ else zPfx
theorem or_zero (x : Int) (h0 : 0 ≤ x) (h1 : x < 18446744073709551616) : Go.bits .or .u64 x 0 = x := by
  obtain ⟨n, rfl⟩ := Int.eq_ofNat_of_zero_le h0
  rw [b_or, BitVec.ofInt_natCast, show BitVec.ofInt 64 0 = 0#64 from rfl, BitVec.or_zero, BitVec.toNat_ofNat]
  omega
theorem pLo_zero (i : Int) (h0 : 0 ≤ i) (h1 : i < 18446744073709551616) : pHi i 0 = 0 ∧ pLo i 0 = i := by
  unfold pHi pLo
  rw [Int.pow_zero, Int.mul_one]
  omega
theorem part_pfx (p : S31) (n i : Int) (hn : -9223372036854775808 ≤ n ∧ n ≤ 9223372036854775807) (h0 : 0 ≤ i) (h1 : i < 18446744073709551616) : Ev (fun k => prefix_Part.f k p.f0.f0 p.f0.f1 p.f0.f2 p.f1 n i) (tPfx (parV p n i) (parB p n i)) := by
  have hno : parB p n i = false → tPfx (parV p n i) (parB p n i) = (false, 0, 0, 0, false) := fun h => by
    unfold parV
    rw [h]
    rfl
  have hj0 : parB p n i = false → Ev (fun k => prefix_Part.j0 k n i true p.f0.f0 p.f0.f1 p.f0.f2 p.f1) (tPfx (parV p n i) (parB p n i)) := fun h => by
    rw [hno h]
    exact Ev_shift 1 (f := fun _ => some (false, 0, 0, 0, false)) (fun k => by rw [prefix_Part.j0, if_pos rfl]) (Ev_const rfl)
  have hj1n : parB p n i = false → Ev (fun k => prefix_Part.j1 k n i true p.f0.f0 p.f0.f1 p.f0.f2 p.f1) (tPfx (parV p n i) (parB p n i)) := fun h => by
    rw [hno h]
    exact Ev_shift 1 (f := fun _ => some (false, 0, 0, 0, false)) (fun k => by rw [prefix_Part.j1, if_pos rfl]) (Ev_const rfl)
  unfold prefix_Part.f
  refine Ev.bind (valid_pfx p) ?_
  cases hv : pvB p with
  | false => exact hj0 (by unfold parB; rw [hv]; rfl)
  | true =>
    obtain ⟨_, b0, b1⟩ := pv_in hv
    have hl := lenV_le p.f0.f0
    simp only [if_true]
    by_cases g1 : n < p.f1
    · simp only [if_pos g1]
      exact hj0 (by unfold parB; rw [decide_eq_false (show ¬ p.f1 ≤ n by omega), Bool.false_and, Bool.and_false])
    · simp only [if_neg g1, length_v, Option.bind_some]
      by_cases g2 : n ≤ lenV p.f0.f0
      · rw [decide_eq_false (show ¬ n > lenV p.f0.f0 by omega)]
        have hj1 : parB p n i = true → Ev (fun k => prefix_Part.j1 k n i false p.f0.f0 p.f0.f1 p.f0.f2 p.f1) (tPfx (parV p n i) (parB p n i)) := fun h => by
          unfold parV
          rw [h, if_pos rfl]
          have hw : IntKind.u64.wrap (wrap64 (lenV p.f0.f0 - n)) = ((lenV p.f0.f0 - n).toNat : Int) := by
            rw [wrap_id (by omega) (by omega), IntKind.wrap_u64]
            omega
          refine Ev_shift 1 (f := fun _ => some (tPfx ⟨⟨p.f0.f0, Go.bits .or .u64 p.f0.f1 (pHi i (lenV p.f0.f0 - n).toNat), Go.bits .or .u64 p.f0.f2 (pLo i (lenV p.f0.f0 - n).toNat)⟩, n⟩ true)) (fun k => ?_) (Ev_const rfl)
          rw [prefix_Part.j1, if_neg Bool.false_ne_true, length_v, Option.bind_some, hw]
          have hs : (lenV p.f0.f0 - n).toNat ≤ 128 := by omega
          generalize (lenV p.f0.f0 - n).toNat = s at hs
          by_cases q1 : (s : Int) ≥ 64
          · obtain ⟨e1, e2⟩ := sh_big i s (by omega) hs
            have e3 : IntKind.u64.wrap ((s : Int) - 64) = (s : Int) - 64 := by rw [IntKind.wrap_u64]; omega
            rw [if_pos q1, e3, if_pos (by omega), e1, e2]
            rfl
          · rw [if_neg q1]
            obtain ⟨e1, e2⟩ := sh_small i h0 h1 s (by omega)
            by_cases q2 : (s : Int) > 0
            · have e3 : IntKind.u64.wrap (64 - (s : Int)) = 64 - (s : Int) := by rw [IntKind.wrap_u64]; omega
              rw [if_pos q2, e3, if_pos (by omega), if_pos (by omega), e1, e2]
              rfl
            · have : s = 0 := by omega
              subst this
              obtain ⟨e4, e5⟩ := pLo_zero i h0 h1
              rw [if_neg q2, e4, e5]
              rfl
        have hwd : wrap64 (n - p.f1) = n - p.f1 := wrap_id (by omega) (by omega)
        by_cases g3 : n - p.f1 < 64
        · have hud : IntKind.u64.wrap (n - p.f1) = n - p.f1 := by rw [IntKind.wrap_u64]; omega
          refine Ev_shift 1 (fun k => by rw [prefix_Part.j0, if_neg Bool.false_ne_true, hwd, if_pos g3, hud, if_pos (by omega)]) ?_
          have hsr : shr .u64 i (n - p.f1) = i / 2 ^ (n - p.f1).toNat := by
            unfold shr
            rw [show min (n - p.f1).toNat IntKind.u64.bits = (n - p.f1).toNat by show min (n - p.f1).toNat 64 = (n - p.f1).toNat; omega]
          rw [hsr]
          by_cases g4 : i < 2 ^ (n - p.f1).toNat
          · have hp : parB p n i = true := by
              unfold parB
              rw [hv, decide_eq_true (show p.f1 ≤ n by omega), decide_eq_true g2, decide_eq_true g4, Bool.or_true]
              rfl
            rw [show (i / 2 ^ (n - p.f1).toNat != 0) = false by rw [Int.ediv_eq_zero_of_lt h0 g4]; rfl]
            exact hj1 hp
          · have hp : parB p n i = false := by
              unfold parB
              rw [decide_eq_false g4, decide_eq_false (show ¬ n - p.f1 ≥ 64 by omega), Bool.or_false, Bool.and_false, Bool.and_false, Bool.and_false]
            rw [show (i / 2 ^ (n - p.f1).toNat != 0) = true by
              have : 0 < i / 2 ^ (n - p.f1).toNat := Int.lt_of_lt_of_le (by decide : (0 : Int) < 1) (Int.le_ediv_of_mul_le (pow_posI _) (by rw [Int.one_mul]; omega))
              simpa using (by omega : i / 2 ^ (n - p.f1).toNat ≠ 0)]
            exact hj1n hp
        · have hp : parB p n i = true := by
            unfold parB
            rw [hv, decide_eq_true (show p.f1 ≤ n by omega), decide_eq_true g2, decide_eq_true (show n - p.f1 ≥ 64 by omega)]
            rfl
          refine Ev_shift 1 (fun k => by rw [prefix_Part.j0, if_neg Bool.false_ne_true, hwd, if_neg g3]) ?_
          exact hj1 hp
      · rw [decide_eq_true (show n > lenV p.f0.f0 by omega)]
        exact hj0 (by unfold parB; rw [decide_eq_false g2, Bool.false_and, Bool.and_false, Bool.and_false])
end Go.Proofs.Ytjifdgicamlikaa.Cm
namespace Go.Proofs.Ytjifdgicamlikaa.Ma
open Go.RowKit Go.Proofs.YtjifdgicamlikaaW.PrintWords Go.Proofs.YtjifdgicamlikaaW.PrintLast Go.Proofs.YtjifdgicamlikaaW.PrintMore Go.Proofs.Ytjifdgicamlikaa.XP Go.Proofs.Ytjifdgicamlikaa.QA
set_option linter.unusedVariables false
set_option linter.unusedSimpArgs false
/-! ### equal lists of prefixes -/
/-! ### the examples -/
theorem awake_k : ddilaw48_awake.f 400 = some true := by decide +kernel
theorem awake_ev : Ev (fun k => ddilaw48_awake.f k) true := ⟨400, fun k hk => at_rounds (g := fun k => ddilaw48_awake.f k) ddilaw48_awake.mono hk awake_k⟩
end Go.Proofs.Ytjifdgicamlikaa.Ma
namespace Go.Proofs.Ytjifdgicamlikaa.Ma
open Go.RowKit Go.Proofs.YtjifdgicamlikaaW.PrintWords Go.Proofs.YtjifdgicamlikaaW.PrintLast Go.Proofs.YtjifdgicamlikaaW.PrintMore Go.Proofs.Ytjifdgicamlikaa.XP Go.Proofs.Ytjifdgicamlikaa.QA Go.Proofs.Ytjifdgicamlikaa.Cm
set_option linter.unusedVariables false
set_option linter.unusedSimpArgs false
/-! ### Size -/
def szV (p : S31) : Int × Bool := if pvB p = true then (if lenV p.f0.f0 - p.f1 ≥ 64 then (0, false) else (((2 ^ (lenV p.f0.f0 - p.f1).toNat : Nat) : Int), true)) else (0, false)
theorem shl_pow : ∀ m : Fin 64, shl .u64 1 ((m.val : Nat) : Int) = ((2 ^ m.val : Nat) : Int) := by decide +kernel
theorem size_pfx (p : S31) : Ev (fun k => prefix_Size.f k p.f0.f0 p.f0.f1 p.f0.f2 p.f1) (szV p) := by
  unfold prefix_Size.f szV
  refine Ev_bind (valid_pfx p) ?_
  by_cases hv : pvB p = true
  · obtain ⟨_, h0, h1⟩ := pv_in hv
    have hl := lenV_le p.f0.f0
    simp only [hv, if_true, length_v, Option.bind_some]
    rw [wrap_id (by omega) (by omega)]
    by_cases h : lenV p.f0.f0 - p.f1 ≥ 64
    · simp only [if_pos h]
      exact Ev_const rfl
    · simp only [if_neg h]
      obtain ⟨j, hj⟩ := Int.eq_ofNat_of_zero_le (show 0 ≤ lenV p.f0.f0 - p.f1 by omega)
      rw [hj]
      have hw : IntKind.u64.wrap (j : Int) = (j : Int) := by rw [IntKind.wrap_u64]; omega
      rw [hw, if_pos (by omega), shl_pow ⟨j, by omega⟩, Int.toNat_natCast]
      exact Ev_const rfl
  · simp only [hv, Bool.false_eq_true, if_false]
    exact Ev_const rfl
/-! ### the set of the addresses -/
def tri (a : S29) : Bool × Int × Int := (a.f0, a.f1, a.f2)
def cB (p : S31) (x : Bool × Int × Int) : Bool := pcB p ⟨x.1, x.2.1, x.2.2⟩
theorem cB_tri (p : S31) (a : S29) : cB p (tri a) = pcB p a := rfl
theorem mem_put {S : List (Bool × Int × Int)} {x y : Bool × Int × Int} : x ∈ XM.put S y ↔ x ∈ S ∨ x = y := by
  unfold XM.put
  split
  · rename_i h
    have hy : y ∈ S := by simpa using h
    constructor
    · exact .inl
    · rintro (h | rfl)
      · exact h
      · exact hy
  · simp
theorem mem_fold {x : Bool × Int × Int} : ∀ (l : List S29) (S : List (Bool × Int × Int)), x ∈ l.foldl (fun S a => XM.put S (a.f0, a.f1, a.f2)) S ↔ x ∈ S ∨ ∃ a ∈ l, tri a = x
  | [], S => by simp
  | a :: r, S => by
    rw [List.foldl_cons, mem_fold r, mem_put]
    constructor
    · rintro ((h | rfl) | ⟨b, hb, rfl⟩)
      · exact .inl h
      · exact .inr ⟨a, List.mem_cons_self, rfl⟩
      · exact .inr ⟨b, List.mem_cons_of_mem _ hb, rfl⟩
    · rintro (h | ⟨b, hb, rfl⟩)
      · exact .inl (.inl h)
      · rcases List.mem_cons.1 hb with rfl | hb
        · exact .inl (.inr rfl)
        · exact .inr ⟨b, hb, rfl⟩
theorem mem_j0 {x : Bool × Int × Int} (l : List S29) : x ∈ usage_report.j0 l ↔ ∃ a ∈ l, tri a = x := by
  unfold usage_report.j0
  rw [mem_fold]
  simp
theorem drop_ev (p : S31) : ∀ (l : List S29) (S : List (Bool × Int × Int)), Ev (fun k => usage_report.l0 k p.f0.f0 p.f0.f1 p.f0.f2 p.f1 l S) (S.filter (fun x => cB p x || !(l.map tri).contains x))
  | [], S => by
    refine Ev_of_eq (fun k => ?_)
    rw [usage_report.l0, List.filter_eq_self.2 (fun x _ => by simp)]
  | a :: r, S => by
    have ih := drop_ev p r (if pcB p a = true then S else XM.del S (a.f0, a.f1, a.f2))
    have e : (if pcB p a = true then S else XM.del S (a.f0, a.f1, a.f2)).filter (fun x => cB p x || !(r.map tri).contains x) = S.filter (fun x => cB p x || !((a :: r).map tri).contains x) := by
      by_cases h : pcB p a = true
      · rw [if_pos h]
        refine List.filter_congr (fun x _ => ?_)
        rw [List.map_cons, List.contains_cons]
        by_cases hx : x = tri a
        · subst hx
          rw [cB_tri, h]; rfl
        · have : (x == tri a) = false := by simpa using hx
          rw [this, Bool.false_or]
      · rw [if_neg h, XM.del, List.filter_filter]
        refine List.filter_congr (fun x _ => ?_)
        rw [List.map_cons, List.contains_cons]
        by_cases hx : x = tri a
        · subst hx
          have h' : pcB p a = false := by simpa using h
          rw [cB_tri, h']
          simp [tri]
        · have h1 : (x == tri a) = false := by simpa using hx
          have h2 : (x == (a.f0, a.f1, a.f2)) = false := h1
          rw [h1, h2]
          simp
    rw [e] at ih
    exact Ev_bind (contains_pfx p a) ih
/-! ### reports -/
def cnt (p : S31) (l : List S29) : Nat := ((usage_report.j0 l).filter (cB p)).length
def totV (p : S31) : Int := if (szV p).2 = true then (szV p).1 else 18446744073709551615
def milV (n t : Int) : Int := if (Int.tmod (IntKind.u64.wrap (1000 * n)) t) > 0 then wrap64 (IntKind.u64.wrap ((IntKind.u64.wrap (Int.tdiv (IntKind.u64.wrap (1000 * n)) t)) + 1)) else wrap64 (IntKind.u64.wrap (Int.tdiv (IntKind.u64.wrap (1000 * n)) t))
def repV (p : S31) (n : Int) : Bool × Int × Int × Int × Int × Int × Int := (p.f0.f0, p.f0.f1, p.f0.f2, p.f1, n, totV p, milV n (totV p))
theorem totV_pos (p : S31) : totV p ≠ 0 := by
  unfold totV szV
  by_cases hv : pvB p = true
  · rw [if_pos hv]
    by_cases h64 : lenV p.f0.f0 - p.f1 ≥ 64
    · rw [if_pos h64]
      decide
    · rw [if_neg h64]
      have := Nat.two_pow_pos (lenV p.f0.f0 - p.f1).toNat
      show ((2 ^ (lenV p.f0.f0 - p.f1).toNat : Nat) : Int) ≠ 0
      omega
  · rw [if_neg hv]
    decide
theorem ok_tri {a : S29} (h : okS29 a) : XM.ok (a.f0, a.f1, a.f2) = true := by
  obtain ⟨h1, h2⟩ := h.2
  unfold XM.ok
  rw [h1, h2]
  rfl
theorem report_ev (p : S31) (l : List S29) (hl : l.length * 24 ≤ 140737488351232) (ok : ∀ a ∈ l, okS29 a) : Ev (fun k => usage_report.f k p.f0.f0 p.f0.f1 p.f0.f2 p.f1 l) (repV p (cnt p l)) := by
  unfold usage_report.f
  have h1 : (l.all fun a => XM.ok (a.f0, a.f1, a.f2)) = true := List.all_eq_true.2 (fun a ha => ok_tri (ok a ha))
  simp only [h1, if_true, if_pos (show l.length * 24 ≤ 140737488355328 by omega)]
  refine Ev_bind (drop_ev p l (usage_report.j0 l)) ?_
  have e : (usage_report.j0 l).filter (fun x => cB p x || !(l.map tri).contains x) = (usage_report.j0 l).filter (cB p) := by
    refine List.filter_congr (fun x hx => ?_)
    obtain ⟨a, ha, rfl⟩ := (mem_j0 l).1 hx
    have : (l.map tri).contains (tri a) = true := by simpa using ⟨a, ha, rfl⟩
    rw [this]; simp
  rw [e]
  refine Ev_bind (size_pfx p) ?_
  have hj : usage_report.j1 ((cnt p l : Nat) : Int) (totV p) = some ((cnt p l : Int), totV p, milV (cnt p l) (totV p)) := by
    unfold usage_report.j1 milV
    rw [if_neg (totV_pos p)]
    split <;> rfl
  refine Ev_of_eq (fun k => ?_)
  show (usage_report.j1 ((cnt p l : Nat) : Int) (totV p)).bind _ = _
  rw [hj]
  rfl
end Go.Proofs.Ytjifdgicamlikaa.Ma
namespace Go.Proofs.Ytjifdgicamlikaa.Ma
open Go.RowKit Go.Proofs.YtjifdgicamlikaaW.PrintWords Go.Proofs.YtjifdgicamlikaaW.PrintLast Go.Proofs.YtjifdgicamlikaaW.PrintMore Go.Proofs.Ytjifdgicamlikaa.XP Go.Proofs.Ytjifdgicamlikaa.QA Go.Proofs.Ytjifdgicamlikaa.Cm
set_option linter.unusedVariables false
set_option linter.unusedSimpArgs false
instance decAddr : DecidableEq S29 := fun a b => if h : ea a b = true then isTrue ((ea_iff a b).1 h) else isFalse (fun e => h ((ea_iff a b).2 e))
theorem rd29 (l : List S29) (i : Nat) (h : i < l.length) : rd_T29 l (i : Int) = l[i] := rdAddr l i h
theorem cnt_le (p : S31) : ∀ l : List S29, cnt p l ≤ l.length := by
  intro l
  have h : ∀ (r : List S29) (S : List (Bool × Int × Int)), (r.foldl (fun S a => XM.put S (a.f0, a.f1, a.f2)) S).length ≤ S.length + r.length := by
    intro r
    induction r with
    | nil => intro S; simp
    | cons a r ih =>
      intro S
      have := ih (XM.put S (a.f0, a.f1, a.f2))
      have h2 : (XM.put S (a.f0, a.f1, a.f2)).length ≤ S.length + 1 := by
        unfold XM.put
        split <;> simp
      rw [List.foldl_cons, List.length_cons]
      omega
  have h1 := h l []
  have h2 := List.length_filter_le (cB p) (usage_report.j0 l)
  unfold cnt usage_report.j0 at *
  simp at h1
  omega
end Go.Proofs.Ytjifdgicamlikaa.Ma
namespace Go.Proofs.Ytjifdgicamlikaa.Ma
open Go.RowKit Go.Proofs.YtjifdgicamlikaaW.PrintWords Go.Proofs.YtjifdgicamlikaaW.PrintLast Go.Proofs.YtjifdgicamlikaaW.PrintMore Go.Proofs.Ytjifdgicamlikaa.XP Go.Proofs.Ytjifdgicamlikaa.QA Go.Proofs.Ytjifdgicamlikaa.Cm
set_option linter.unusedVariables false
set_option linter.unusedSimpArgs false
theorem rd60 (l : List S60) (i : Nat) (x : S60) (r : List S60) (h : l.drop i = x :: r) : i < l.length ∧ rd_T60 l (i : Int) = x ∧ l.drop (i + 1) = r := by
  obtain ⟨hi, hx, hr⟩ := drop_at h
  refine ⟨hi, ?_, hr⟩
  simp [rd_T60, List.getD_eq_getElem?_getD, List.getElem?_eq_getElem hi, hx]
theorem rdB (l : List S60) (i : Nat) (h : i < l.length) : rd_T60 l (i : Int) = l[i] := by
  simp [rd_T60, List.getD_eq_getElem?_getD, List.getElem?_eq_getElem h]
/-! ### Find -/
def fndB (p : S31) (l : List S60) : Bool := l.any (fun b => eqPfx b.f0 p)
theorem index_from (p : S31) (l : List S60) (hl : l.length ≤ 140737488351232) : ∀ (r : List S60) (i : Nat), l.drop i = r → ∃ v : Int, Ev (fun k => slices_IndexFunc_77.l0 k l (l.length : Int) (i : Int) p.f0.f0 p.f0.f1 p.f0.f2 p.f1) v ∧ ((fndB p r = false ∧ v = -1) ∨ (fndB p r = true ∧ ∃ j : Nat, v = (j : Int) ∧ j < l.length))
  | [], i, h => by
    have := drop_end h
    exact ⟨-1, Ev_shift 1 (f := fun _ => some (-1)) (fun k => by rw [slices_IndexFunc_77.l0, if_neg (by omega)]) (Ev_const rfl), .inl ⟨rfl, rfl⟩⟩
  | b :: r, i, h => by
    obtain ⟨hi, hx, hr⟩ := rd60 l i b r h
    by_cases he : eqPfx b.f0 p = true
    · refine ⟨(i : Int), Ev_shift 1 (f := fun _ => some (i : Int)) (fun k => ?_) (Ev_const rfl), .inr ⟨by simp [fndB, he], i, rfl, hi⟩⟩
      have hb : blocks_index_1.f b.f0.f0.f0 b.f0.f0.f1 b.f0.f0.f2 b.f0.f1 b.f1 b.f2 b.f3 b.f4 p.f0.f0 p.f0.f1 p.f0.f2 p.f1 = some true := congrArg some he
      rw [slices_IndexFunc_77.l0, if_pos (by omega), if_pos (by omega), if_pos (by omega), hx, hb]
      rfl
    · have he' : eqPfx b.f0 p = false := by simpa using he
      obtain ⟨v, hv, hc⟩ := index_from p l hl r (i + 1) hr
      refine ⟨v, Ev_shift 1 (fun k => ?_) hv, ?_⟩
      · have hb : blocks_index_1.f b.f0.f0.f0 b.f0.f0.f1 b.f0.f0.f2 b.f0.f1 b.f1 b.f2 b.f3 b.f4 p.f0.f0 p.f0.f1 p.f0.f2 p.f1 = some false := congrArg some he'
        rw [slices_IndexFunc_77.l0, if_pos (by omega), if_pos (by omega), if_pos (by omega), hx, hb, Option.bind_some, if_neg Bool.false_ne_true, next i l.length hi (by omega)]
      · have e : fndB p (b :: r) = fndB p r := by simp [fndB, he']
        rw [e]
        exact hc
theorem find_ev (p : S31) (l : List S60) (hl : l.length ≤ 140737488351232) : ∃ t, Ev (fun k => blocks_Find.f k l p.f0.f0 p.f0.f1 p.f0.f2 p.f1) t ∧ t.2.2.2.2.2.2.2.2 = fndB p l := by
  obtain ⟨v, hv, hc⟩ := index_from p l hl l 0 rfl
  have hi : Ev (fun k => blocks_index.f k l p.f0.f0 p.f0.f1 p.f0.f2 p.f1) v := by
    unfold blocks_index.f slices_IndexFunc_77.f
    exact Ev_bind hv (Ev_const rfl)
  rcases hc with ⟨hf, rfl⟩ | ⟨hf, j, rfl, hj⟩
  · refine ⟨(false, 0, 0, 0, 0, (⟨#[]⟩ : ByteArray), (⟨#[]⟩ : ByteArray), 0, false), ?_, hf.symm⟩
    unfold blocks_Find.f
    refine Ev_bind hi ?_
    simp only [if_neg (show ¬ (-1 : Int) ≥ 0 by omega)]
    exact Ev_const rfl
  · refine ⟨((rd_T60 l (j : Int)).f0.f0.f0, (rd_T60 l (j : Int)).f0.f0.f1, (rd_T60 l (j : Int)).f0.f0.f2, (rd_T60 l (j : Int)).f0.f1, (rd_T60 l (j : Int)).f1, (rd_T60 l (j : Int)).f2, (rd_T60 l (j : Int)).f3, (rd_T60 l (j : Int)).f4, true), ?_, hf.symm⟩
    unfold blocks_Find.f
    refine Ev_bind hi ?_
    simp only [if_pos (show ((j : Nat) : Int) ≥ 0 by omega), if_pos (show 0 ≤ ((j : Nat) : Int) by omega), if_pos (show ((j : Nat) : Int) < (l.length : Int) by omega)]
    exact Ev_const rfl
/-! ### Of -/
def ofT (p : S31) (l : List S60) (u : List S29) : Bool × Int × Int × Int × Int × Int × Int × Bool := if fndB p l = true then (p.f0.f0, p.f0.f1, p.f0.f2, p.f1, (cnt p u : Int), totV p, milV (cnt p u) (totV p), true) else (false, 0, 0, 0, 0, 0, 0, false)
theorem of_ev (p : S31) (l : List S60) (u : List S29) (hl : l.length ≤ 140737488351232) (hu : u.length * 24 ≤ 140737488351232) (ok : ∀ a ∈ u, okS29 a) : Ev (fun k => usage_Of.f k l p.f0.f0 p.f0.f1 p.f0.f2 p.f1 u) (ofT p l u) := by
  obtain ⟨t, ht, hf⟩ := find_ev p l hl
  unfold usage_Of.f ofT
  refine Ev_bind ht ?_
  rw [hf]
  by_cases h : fndB p l = true
  · simp only [h, if_true]
    exact Ev_bind (report_ev p u hu ok) (Ev_const rfl)
  · simp only [h, Bool.false_eq_true, if_false]
    exact Ev_const rfl
/-! ### All -/
end Go.Proofs.Ytjifdgicamlikaa.Ma
namespace Go.Proofs.Ytjifdgicamlikaa.Cm
open Go.RowKit Go.Proofs.YtjifdgicamlikaaW.PrintWords Go.Proofs.YtjifdgicamlikaaW.PrintLast Go.Proofs.YtjifdgicamlikaaW.PrintMore Go.Proofs.Ytjifdgicamlikaa.XP
set_option linter.unusedVariables false
set_option linter.unusedSimpArgs false
theorem bt_at_drop (s : ByteArray) (i : Nat) (c : UInt8) (r : List UInt8) (h : s.data.toList.drop i = c :: r) : i < s.size ∧ bt s (i : Int) = (c.toNat : Int) ∧ s.data.toList.drop (i + 1) = r := by
  obtain ⟨hi, hx, hr⟩ := drop_at h
  refine ⟨by rw [size_data]; exact hi, ?_, hr⟩
  rw [bt_get s i hi, hx]
theorem size_end (s : ByteArray) (i : Nat) (h : s.data.toList.drop i = []) : s.size ≤ i := by rw [size_data]; exact drop_end h
end Go.Proofs.Ytjifdgicamlikaa.Cm
namespace Go.Proofs.Ytjifdgicamlikaa.Ma
open Go.RowKit Go.Proofs.YtjifdgicamlikaaW.PrintWords Go.Proofs.YtjifdgicamlikaaW.PrintLast Go.Proofs.YtjifdgicamlikaaW.PrintMore Go.Proofs.Ytjifdgicamlikaa.XP Go.Proofs.Ytjifdgicamlikaa.QA Go.Proofs.Ytjifdgicamlikaa.Cm
set_option linter.unusedVariables false
set_option linter.unusedSimpArgs false
def visB (c : UInt8) : Bool := !(decide ((c.toNat : Int) < 33) || decide ((c.toNat : Int) > 126))
def strB (lo hi : Nat) (s : ByteArray) : Bool := decide (lo ≤ s.size) && (decide (s.size ≤ hi) && s.data.toList.all visB)
def kdB (b : S60) : Bool := decide (1 ≤ b.f1) && (decide (b.f1 ≤ 3) && (!decide (b.f1 = 3) || decide (b.f0.f1 = lenV b.f0.f0.f0)))
def tmB (b : S60) : Bool := decide (0 ≤ b.f4) && decide (b.f4 ≤ 4294967295)
def mayV (b : S60) : Bool := kdB b && (strB 1 63 b.f2 && (strB 0 32 b.f3 && tmB b))
def szB (b : S60) : Prop := b.f2.size ≤ 140737488351232 ∧ b.f3.size ≤ 140737488351232
/-! ### order and overlap -/
def pcm (p q : S31) : Int := if cmp p.f0 q.f0 = 0 then (if p.f1 < q.f1 then -1 else (if p.f1 > q.f1 then 1 else 0)) else cmp p.f0 q.f0
def pin (p q : S31) : Bool := pwB p q && decide (p.f1 > q.f1)
def barB (b o : S60) : Bool := pin b.f0 o.f0 && (decide (o.f1 = 3) || (decide (o.f1 = 2) && (b.f1 != 3)))
/-! ### Check -/
def vB (b : S60) : Bool := pvB b.f0 && mayV b
end Go.Proofs.Ytjifdgicamlikaa.Ma
namespace Go.Proofs.Ytjifdgicamlikaa.Ma
open Go.RowKit Go.Proofs.YtjifdgicamlikaaW.PrintWords Go.Proofs.YtjifdgicamlikaaW.PrintLast Go.Proofs.YtjifdgicamlikaaW.PrintMore Go.Proofs.Ytjifdgicamlikaa.XP Go.Proofs.Ytjifdgicamlikaa.QA Go.Proofs.Ytjifdgicamlikaa.Cm
set_option linter.unusedVariables false
set_option linter.unusedSimpArgs false
/-! ### order: no prefix twice -/
theorem eqPfx_iff (p q : S31) : eqPfx p q = true ↔ p = q := by
  obtain ⟨⟨a, b, c⟩, d⟩ := p
  obtain ⟨⟨a', b', c'⟩, d'⟩ := q
  simp [eqPfx, and_assoc]
theorem pcm_trans {p q r : S31} (h1 : pcm p q < 0) (h2 : pcm q r < 0) : pcm p r < 0 := by
  unfold pcm at *
  by_cases a : cmp p.f0 q.f0 = 0
  · have ea := (cmp_zero _ _).1 a
    rw [if_pos a] at h1
    rw [ea]
    by_cases b : cmp q.f0 r.f0 = 0
    · rw [if_pos b] at h2 ⊢
      split at h1
      · split at h2
        · rw [if_pos (by omega)]; decide
        · split at h2 <;> omega
      · split at h1 <;> omega
    · rw [if_neg b] at h2 ⊢
      exact h2
  · rw [if_neg a] at h1
    by_cases b : cmp q.f0 r.f0 = 0
    · have eb := (cmp_zero _ _).1 b
      rw [← eb, if_neg a]
      exact h1
    · rw [if_neg b] at h2
      have := cmp_trans h1 h2
      rw [if_neg (by omega)]
      exact this
def Lt (a b : S60) : Prop := pcm a.f0 b.f0 < 0
/-! ### whether a block can be freed -/
/-! ### Reclaimable -/
/-! ### DeleteFunc -/
end Go.Proofs.Ytjifdgicamlikaa.Ma
namespace Go.Proofs.Ytjifdgicamlikaa.Ma
open Go.RowKit Go.Proofs.YtjifdgicamlikaaW.PrintWords Go.Proofs.YtjifdgicamlikaaW.PrintLast Go.Proofs.YtjifdgicamlikaaW.PrintMore Go.Proofs.Ytjifdgicamlikaa.XP Go.Proofs.Ytjifdgicamlikaa.QA Go.Proofs.Ytjifdgicamlikaa.Cm
set_option linter.unusedVariables false
set_option linter.unusedSimpArgs false
end Go.Proofs.Ytjifdgicamlikaa.Ma
namespace Go.Proofs.Ytjifdgicamlikaa.Ma
open Go.RowKit Go.Proofs.YtjifdgicamlikaaW.PrintWords Go.Proofs.YtjifdgicamlikaaW.PrintLast Go.Proofs.YtjifdgicamlikaaW.PrintMore Go.Proofs.Ytjifdgicamlikaa.XP Go.Proofs.Ytjifdgicamlikaa.QA Go.Proofs.Ytjifdgicamlikaa.Cm
set_option linter.unusedVariables false
set_option linter.unusedSimpArgs false
/-! ### the reference -/
/-! ### equal spaces -/
end Go.Proofs.Ytjifdgicamlikaa.Ma
namespace Go.Proofs.Ytjifdgicamlikaa.Ma
open Go.RowKit Go.Proofs.YtjifdgicamlikaaW.PrintWords Go.Proofs.YtjifdgicamlikaaW.PrintLast Go.Proofs.YtjifdgicamlikaaW.PrintMore Go.Proofs.Ytjifdgicamlikaa.XP Go.Proofs.Ytjifdgicamlikaa.QA Go.Proofs.Ytjifdgicamlikaa.Cm
set_option linter.unusedVariables false
set_option linter.unusedSimpArgs false
/-! ### a block by itself -/
theorem vis_from (s : ByteArray) (hs : s.size ≤ 140737488351232) : ∀ (r : List UInt8) (i : Nat), s.data.toList.drop i = r → Ev (fun k => blocks_visible.l0 k s (s.size : Int) (i : Int)) (r.all visB)
  | [], i, h => by
    have := size_end s i h
    exact Ev_shift 1 (f := fun _ => some true) (fun k => by rw [blocks_visible.l0, if_neg (by omega)]) (Ev_const rfl)
  | c :: r, i, h => by
    obtain ⟨hi, hb, hr⟩ := bt_at_drop s i c r h
    have ih := vis_from s hs r (i + 1) hr
    by_cases h1 : (c.toNat : Int) < 33
    · have e : (c :: r).all visB = false := by simp [visB, h1]
      rw [e]
      refine Ev_shift 2 (f := fun _ => some false) (fun k => ?_) (Ev_const rfl)
      rw [blocks_visible.l0, if_pos (by omega), if_pos (by omega), if_pos (by omega), hb, if_pos h1, blocks_visible.j2, if_pos rfl]
    · by_cases h2 : (c.toNat : Int) > 126
      · have e : (c :: r).all visB = false := by
          have : visB c = false := by unfold visB; rw [decide_eq_true h2]; simp
          simp [this]
        rw [e]
        refine Ev_shift 2 (f := fun _ => some false) (fun k => ?_) (Ev_const rfl)
        rw [blocks_visible.l0, if_pos (by omega), if_pos (by omega), if_pos (by omega), hb, if_neg h1, decide_eq_true h2, blocks_visible.j2, if_pos rfl]
      · have e : (c :: r).all visB = r.all visB := by
          have : visB c = true := by unfold visB; rw [decide_eq_false h1, decide_eq_false h2]; rfl
          simp [this]
        rw [e]
        refine Ev_shift 2 (fun k => ?_) ih
        rw [blocks_visible.l0, if_pos (by omega), if_pos (by omega), if_pos (by omega), hb, if_neg h1, decide_eq_false h2, blocks_visible.j2, if_neg Bool.false_ne_true, next i s.size hi (by omega)]
theorem vis_ok (s : ByteArray) (lo hi : Nat) (hs : s.size ≤ 140737488351232) (h : strB lo hi s = true) : Ev (fun k => blocks_visible.f k s (lo : Int) (hi : Int)) true := by
  unfold strB at h
  obtain ⟨h1, h2⟩ := Bool.and_eq_true_iff.1 h
  obtain ⟨h2, h3⟩ := Bool.and_eq_true_iff.1 h2
  have h1 := of_decide_eq_true h1
  have h2 := of_decide_eq_true h2
  unfold blocks_visible.f
  have := vis_from s hs s.data.toList 0 rfl
  rw [h3] at this
  simp only [if_neg (show ¬ ((s.size : Nat) : Int) < (lo : Int) by omega), decide_eq_false (show ¬ ((s.size : Nat) : Int) > (hi : Int) by omega)]
  refine Ev_shift 1 (fun k => ?_) this
  rw [blocks_visible.j0, if_neg Bool.false_ne_true]
  rfl
theorem bwhole_v (p : S31) : blocks_whole.f p.f0.f0 p.f0.f1 p.f0.f2 p.f1 = some (lenV p.f0.f0) := by
  unfold blocks_whole.f
  cases p.f0.f0 <;> rfl
theorem fault_ok (b : S60) (hs : szB b) (h : vB b = true) : Ev (fun k => blocks_fault.f k b.f0.f0.f0 b.f0.f0.f1 b.f0.f0.f2 b.f0.f1 b.f1 b.f2 b.f3 b.f4) 0 := by
  unfold vB mayV at h
  obtain ⟨hv, h⟩ := Bool.and_eq_true_iff.1 h
  obtain ⟨hk, h⟩ := Bool.and_eq_true_iff.1 h
  obtain ⟨h2, h⟩ := Bool.and_eq_true_iff.1 h
  obtain ⟨h3, h4⟩ := Bool.and_eq_true_iff.1 h
  unfold kdB at hk
  obtain ⟨k1, hk⟩ := Bool.and_eq_true_iff.1 hk
  obtain ⟨k2, k3⟩ := Bool.and_eq_true_iff.1 hk
  have k1 := of_decide_eq_true k1
  have k2 := of_decide_eq_true k2
  unfold tmB at h4
  obtain ⟨t1, t2⟩ := Bool.and_eq_true_iff.1 h4
  have t1 := of_decide_eq_true t1
  have t2 := of_decide_eq_true t2
  have hj : Ev (fun k => blocks_fault.j0 k false b.f0.f0.f0 b.f0.f0.f1 b.f0.f0.f2 b.f0.f1 b.f1 b.f2 b.f3 b.f4) 0 := by
    refine Ev_shift 1 (fun k => by rw [blocks_fault.j0, if_neg Bool.false_ne_true]) ?_
    refine Ev_bind (vis_ok b.f2 1 63 hs.1 h2) ?_
    simp only [if_true]
    refine Ev_bind (vis_ok b.f3 0 32 hs.2 h3) ?_
    simp only [if_true, if_neg (show ¬ b.f4 < 0 by omega), decide_eq_false (show ¬ b.f4 > 4294967295 by omega)]
    exact Ev_shift 1 (f := fun _ => some 0) (fun k => by rw [blocks_fault.j1, if_neg Bool.false_ne_true]) (Ev_const rfl)
  unfold blocks_fault.f
  refine Ev_bind (valid_pfx b.f0) ?_
  simp only [hv, if_true, if_neg (show ¬ b.f1 < 1 by omega), if_neg (show ¬ b.f1 > 3 by omega)]
  by_cases h3 : b.f1 = 3
  · simp only [if_pos h3, bwhole_v b.f0, Option.bind_some]
    rw [decide_eq_true h3, Bool.not_true, Bool.false_or] at k3
    have e : (b.f0.f1 != lenV b.f0.f0.f0) = false := by rw [of_decide_eq_true k3]; simp
    simp only [e]
    exact hj
  · simp only [if_neg h3]
    exact hj
/-! ### order and place -/
theorem upcm (p q : S31) : Ev (fun k => prefix_Compare.f k p.f0.f0 p.f0.f1 p.f0.f2 p.f1 q.f0.f0 q.f0.f1 q.f0.f2 q.f1) (pcm p q) := by
  unfold prefix_Compare.f
  refine Ev_bind (ucmp p.f0 q.f0) ?_
  unfold pcm
  by_cases h : cmp p.f0 q.f0 = 0
  · simp only [if_pos h]
    by_cases h1 : p.f1 < q.f1
    · simp only [if_pos h1]; exact Ev_const rfl
    · by_cases h2 : p.f1 > q.f1
      · simp only [if_neg h1, if_pos h2]; exact Ev_const rfl
      · simp only [if_neg h1, if_neg h2]; exact Ev_const rfl
  · simp only [if_neg h]; exact Ev_const rfl
theorem pcm_flip {p q : S31} (h : pcm p q < 0) : pcm q p > 0 := by
  unfold pcm at *
  have hf := cmp_flip p.f0 q.f0
  by_cases a : cmp p.f0 q.f0 = 0
  · rw [if_pos a] at h
    rw [if_pos (show cmp q.f0 p.f0 = 0 by omega)]
    split at h
    · rw [if_neg (by omega), if_pos (by omega)]; decide
    · split at h <;> omega
  · rw [if_neg a] at h
    rw [if_neg (show ¬ cmp q.f0 p.f0 = 0 by omega)]
    omega
theorem lies_ev (p q : S31) : Ev (fun k => blocks_lies.f k p.f0.f0 p.f0.f1 p.f0.f2 p.f1 q.f0.f0 q.f0.f1 q.f0.f2 q.f1) (pin p q) := by
  unfold blocks_lies.f pin
  by_cases h : p.f1 > q.f1
  · simp only [if_pos h, decide_eq_true h, Bool.and_true]
    exact Ev_bind (within_pfx p q) (Ev_const rfl)
  · simp only [if_neg h, decide_eq_false h, Bool.and_false]
    exact Ev_const rfl
theorem mis1_ev (o b : S60) (ho : kdB o = true) : Ev (fun k => blocks_misplaced_1.f k o.f0.f0.f0 o.f0.f0.f1 o.f0.f0.f2 o.f0.f1 o.f1 o.f2 o.f3 o.f4 b.f0.f0.f0 b.f0.f0.f1 b.f0.f0.f2 b.f0.f1 b.f1 b.f2 b.f3 b.f4) (barB b o) := by
  unfold kdB at ho
  obtain ⟨k1, hk⟩ := Bool.and_eq_true_iff.1 ho
  obtain ⟨k2, _⟩ := Bool.and_eq_true_iff.1 hk
  have k1 := of_decide_eq_true k1
  have k2 := of_decide_eq_true k2
  unfold blocks_misplaced_1.f barB
  refine Ev_bind (lies_ev b.f0 o.f0) ?_
  cases pin b.f0 o.f0 with
  | false => exact Ev_const rfl
  | true =>
    simp only [if_true, Bool.true_and]
    unfold blocks_admits.f
    by_cases h1 : o.f1 = 1
    · simp only [if_pos h1, Option.bind_some, decide_eq_false (show ¬ o.f1 = 3 by omega), decide_eq_false (show ¬ o.f1 = 2 by omega)]
      exact Ev_const rfl
    · simp only [if_neg h1]
      by_cases h2 : o.f1 = 2
      · simp only [if_pos h2, Option.bind_some, decide_eq_false (show ¬ o.f1 = 3 by omega), decide_eq_true h2]
        exact Ev_const (by simp [bne])
      · simp only [if_neg h2, Option.bind_some, decide_eq_true (show o.f1 = 3 by omega)]
        exact Ev_const rfl
theorem mis_from (b : S60) (t : List S60) (ht : t.length ≤ 1000000) (hk : ∀ o ∈ t, kdB o = true ∧ barB b o = false) : ∀ (r : List S60) (i : Nat), t.drop i = r → Ev (fun k => slices_IndexFunc_64.l0 k t (t.length : Int) (i : Int) b.f0.f0.f0 b.f0.f0.f1 b.f0.f0.f2 b.f0.f1 b.f1 b.f2 b.f3 b.f4) (-1)
  | [], i, h => by
    have := drop_end h
    exact Ev_shift 1 (f := fun _ => some (-1)) (fun k => by rw [slices_IndexFunc_64.l0, if_neg (by omega)]) (Ev_const rfl)
  | x :: r, i, h => by
    obtain ⟨hi, hx, hr⟩ := rd60 t i x r h
    have hm : x ∈ t := by rw [← (drop_at h).2.1]; exact List.getElem_mem hi
    refine Ev_shift 1 (fun k => by rw [slices_IndexFunc_64.l0, if_pos (by omega), if_pos (by omega), if_pos (by omega), hx, next i t.length hi (by omega)]) ?_
    refine Ev_bind (mis1_ev x b (hk x hm).1) ?_
    simp only [(hk x hm).2, Bool.false_eq_true, if_false]
    exact mis_from b t ht hk r (i + 1) hr
theorem mis_ev (b : S60) (t : List S60) (ht : t.length ≤ 1000000) (hk : ∀ o ∈ t, kdB o = true ∧ barB b o = false) : Ev (fun k => blocks_misplaced.f k t b.f0.f0.f0 b.f0.f0.f1 b.f0.f0.f2 b.f0.f1 b.f1 b.f2 b.f3 b.f4) false := by
  unfold blocks_misplaced.f
  refine Ev_bind (a := false) ?_ (Ev_const rfl)
  unfold slices_ContainsFunc_64.f
  refine Ev_bind (a := -1) ?_ (Ev_const rfl)
  unfold slices_IndexFunc_64.f
  exact mis_from b t ht hk t 0 rfl
/-- A table. -/
structure Tab (l : List S60) : Prop where
  v : ∀ b ∈ l, vB b = true ∧ szB b
  lt : l.Pairwise Lt
  bar : l.Pairwise (fun o b => barB b o = false)
theorem kd_of {b : S60} (h : vB b = true) : kdB b = true := by
  unfold vB mayV at h
  exact (Bool.and_eq_true_iff.1 (Bool.and_eq_true_iff.1 h).2).1
theorem check_up (l : List S60) (hl : l.length ≤ 1000000) (hT : Tab l) : ∀ (d i : Nat), l.length - i ≤ d → i ≤ l.length → Ev (fun k => blocks_Check.l0 k l l (l.length : Int) (i : Int)) 0
  | d, i, hd, hi => by
    by_cases h : i < l.length
    · cases d with
      | zero => exact absurd hd (by omega)
      | succ d =>
        have ih := check_up l hl hT d (i + 1) (by omega) (by omega)
        have hm := List.getElem_mem h
        obtain ⟨hv, hsz⟩ := hT.v _ hm
        have hj : Ev (fun k => blocks_Check.j1 k l (i : Int) l (l.length : Int) (i : Int) l[i].f0.f0.f0 l[i].f0.f0.f1 l[i].f0.f0.f2 l[i].f0.f1 l[i].f1 l[i].f2 l[i].f3 l[i].f4) 0 := by
          refine Ev_shift 1 (fun k => by rw [blocks_Check.j1, if_pos (by omega), if_pos (by omega), Int.toNat_natCast, next i l.length h (by omega)]) ?_
          refine Ev_bind (mis_ev l[i] (l.take i) (by rw [List.length_take]; omega) (fun o ho => ?_)) ?_
          · obtain ⟨j, hj, rfl⟩ := List.getElem_of_mem ho
            have hjl : j < i := by rw [List.length_take] at hj; omega
            rw [List.getElem_take]
            exact ⟨kd_of (hT.v _ (List.getElem_mem _)).1, List.pairwise_iff_getElem.1 hT.bar j i (by omega) h hjl⟩
          · simp only [Bool.false_eq_true, if_false]
            exact ih
        refine Ev_shift 1 (fun k => by rw [blocks_Check.l0, if_pos (by omega), if_pos (by omega), if_pos (by omega), rdB l i h]) ?_
        refine Ev_bind (fault_ok l[i] hsz hv) ?_
        simp only [if_true]
        by_cases h0 : 0 < i
        · have hw : wrap64 ((i : Int) - 1) = ((i - 1 : Nat) : Int) := by rw [wrap_id (by omega) (by omega)]; omega
          have hr1 : rd_T60 l ((i - 1 : Nat) : Int) = l[i - 1]'(by omega) := rdB l (i - 1) (by omega)
          have hlt : pcm l[i].f0 (l[i - 1]'(by omega)).f0 > 0 := pcm_flip (List.pairwise_iff_getElem.1 hT.lt (i - 1) i (by omega) h (by omega))
          simp only [hw, if_pos (show (i : Int) > 0 by omega), if_pos (show 0 ≤ ((i - 1 : Nat) : Int) by omega), if_pos (show ((i - 1 : Nat) : Int) < (l.length : Int) by omega), hr1]
          refine Ev_bind (upcm l[i].f0 (l[i - 1]'(by omega)).f0) ?_
          simp only [if_neg (show ¬ pcm l[i].f0 (l[i - 1]'(by omega)).f0 < 0 by omega), if_neg (show ¬ pcm l[i].f0 (l[i - 1]'(by omega)).f0 = 0 by omega)]
          exact hj
        · simp only [if_neg (show ¬ ((i : Int) > 0) by omega)]
          exact hj
    · exact Ev_shift 1 (f := fun _ => some 0) (fun k => by rw [blocks_Check.l0, if_neg (by omega)]) (Ev_const rfl)
theorem check_ok (l : List S60) (hl : l.length ≤ 512) (hT : Tab l) : Ev (fun k => blocks_Check.f k l) 0 := by
  unfold blocks_Check.f
  simp only [if_neg (show ¬ ((l.length : Nat) : Int) > 512 by omega)]
  exact check_up l (by omega) hT l.length 0 (by omega) (Nat.zero_le _)
/-! ### what is away had ended -/
end Go.Proofs.Ytjifdgicamlikaa.Ma
namespace Go.Proofs.Ytjifdgicamlikaa.Ma
open Go.RowKit Go.Proofs.YtjifdgicamlikaaW.PrintWords Go.Proofs.YtjifdgicamlikaaW.PrintLast Go.Proofs.YtjifdgicamlikaaW.PrintMore Go.Proofs.Ytjifdgicamlikaa.XP Go.Proofs.Ytjifdgicamlikaa.QA Go.Proofs.Ytjifdgicamlikaa.Cm
set_option linter.unusedVariables false
set_option linter.unusedSimpArgs false
/-! ### numbers -/
theorem half_nat (a P T : Nat) (hT : 0 < T) (hP : P % (T * 2) = 0) : a - a % (T * 2) = P ↔ (a - a % T = P ∨ a - a % T = P + T) := by
  have h1 : a % (T * 2) = a % T + T * (a / T % 2) := Nat.mod_mul
  have h2 := Nat.div_add_mod a T
  have h3 : a / T % 2 = 0 ∨ a / T % 2 = 1 := by omega
  have hle : a % (T * 2) ≤ a := Nat.mod_le _ _
  rcases h3 with h3 | h3
  · rw [h3, Nat.mul_zero, Nat.add_zero] at h1
    rw [h1]
    refine ⟨.inl, ?_⟩
    rintro (h | h)
    · exact h
    · exfalso
      have e1 : a - a % (T * 2) = (T * 2) * (a / (T * 2)) := by have := Nat.div_add_mod a (T * 2); omega
      have e2 : P = (T * 2) * (P / (T * 2)) := by have := Nat.div_add_mod P (T * 2); omega
      have e3 : (T * 2) * (a / (T * 2)) = (T * 2) * (P / (T * 2)) + T := by omega
      have e4 : T * (2 * (a / (T * 2))) = T * (2 * (P / (T * 2)) + 1) := by
        rw [Nat.mul_add, Nat.mul_one, ← Nat.mul_assoc, ← Nat.mul_assoc]
        exact e3
      have := Nat.eq_of_mul_eq_mul_left hT e4
      omega
  · rw [h3, Nat.mul_one] at h1
    constructor
    · intro h
      exact .inr (by omega)
    · rintro (h | h)
      · exfalso
        have e1 : a - a % (T * 2) = (T * 2) * (a / (T * 2)) := by have := Nat.div_add_mod a (T * 2); omega
        have e2 : P = (T * 2) * (P / (T * 2)) := by have := Nat.div_add_mod P (T * 2); omega
        have e3 : (T * 2) * (a / (T * 2)) + T = (T * 2) * (P / (T * 2)) := by omega
        have e4 : T * (2 * (a / (T * 2)) + 1) = T * (2 * (P / (T * 2))) := by
          rw [Nat.mul_add, Nat.mul_one, ← Nat.mul_assoc, ← Nat.mul_assoc]
          exact e3
        have := Nat.eq_of_mul_eq_mul_left hT e4
        omega
      · omega
theorem and_mask (x k : Nat) (hx : x < 18446744073709551616) (hk : k ≤ 64) : Go.bits .and .u64 (x : Int) ((2 ^ k - 1 : Nat) : Int) = ((x % 2 ^ k : Nat) : Int) := by
  have hp : 2 ^ k ≤ 2 ^ 64 := Nat.pow_le_pow_right (by decide) hk
  rw [b_and_nat x (2 ^ k - 1) hx (by omega), Nat.and_two_pow_sub_one_eq_mod]
theorem andnot_mask (x k : Nat) (hx : x < 18446744073709551616) (hk : k ≤ 64) : Go.bits .andNot .u64 (x : Int) ((2 ^ k - 1 : Nat) : Int) = ((x - x % 2 ^ k : Nat) : Int) := by
  rw [← andnot_sub (x : Int) _ (by omega) (by omega), and_mask x k hx hk, IntKind.wrap_u64]
  have := Nat.mod_le x (2 ^ k)
  omega
/-! ### a prefix by its numbers -/
def kH (p : S31) : Nat := (lenV p.f0.f0 - p.f1).toNat - 64
def kL (p : S31) : Nat := min (lenV p.f0.f0 - p.f1).toNat 64
def hN (a : S29) : Nat := a.f1.toNat
def lN (a : S29) : Nat := a.f2.toNat
theorem n_of {a : S29} (h : uA a) : a.f1 = ((hN a : Nat) : Int) ∧ a.f2 = ((lN a : Nat) : Int) ∧ hN a < 18446744073709551616 ∧ lN a < 18446744073709551616 := by
  unfold uA at h
  unfold hN lN
  omega
theorem k_le {p : S31} (h : inB p.f0 p.f1 = true) : kH p ≤ 64 ∧ kL p ≤ 64 := by
  obtain ⟨_, h0, h1⟩ := (inB_iff _ _).1 h
  have := lenV_le p.f0.f0
  unfold kH kL
  omega
theorem pvB_iff (p : S31) (hu : uA p.f0) : pvB p = true ↔ inB p.f0 p.f1 = true ∧ hN p.f0 % 2 ^ kH p = 0 ∧ lN p.f0 % 2 ^ kL p = 0 := by
  obtain ⟨e1, e2, h1, h2⟩ := n_of hu
  unfold pvB
  rw [Bool.and_eq_true_iff, Bool.and_eq_true_iff, decide_eq_true_iff, beq_iff_eq]
  constructor
  · rintro ⟨hi, ha, hb⟩
    obtain ⟨k1, k2⟩ := k_le hi
    rw [e1] at ha
    rw [e2] at hb
    have ha' : Go.bits .and .u64 ((hN p.f0 : Nat) : Int) ((2 ^ kH p - 1 : Nat) : Int) = 0 := ha
    have hb' : Go.bits .and .u64 ((lN p.f0 : Nat) : Int) ((2 ^ kL p - 1 : Nat) : Int) = 0 := hb
    rw [and_mask _ _ h1 k1] at ha'
    rw [and_mask _ _ h2 k2] at hb'
    exact ⟨hi, by omega, by omega⟩
  · rintro ⟨hi, ha, hb⟩
    obtain ⟨k1, k2⟩ := k_le hi
    refine ⟨hi, ?_, ?_⟩
    · rw [e1]
      show Go.bits .and .u64 ((hN p.f0 : Nat) : Int) ((2 ^ kH p - 1 : Nat) : Int) = 0
      rw [and_mask _ _ h1 k1, ha]; rfl
    · rw [e2]
      show Go.bits .and .u64 ((lN p.f0 : Nat) : Int) ((2 ^ kL p - 1 : Nat) : Int) = 0
      rw [and_mask _ _ h2 k2, hb]; rfl
theorem pcB_iff (p : S31) (a : S29) (hp : uA p.f0) (ha : uA a) : pcB p a = true ↔ pvB p = true ∧ p.f0.f0 = a.f0 ∧ adB a = true ∧ hN a - hN a % 2 ^ kH p = hN p.f0 ∧ lN a - lN a % 2 ^ kL p = lN p.f0 := by
  obtain ⟨e1, e2, h1, h2⟩ := n_of ha
  obtain ⟨e3, e4, h3, h4⟩ := n_of hp
  unfold pcB
  rw [Bool.and_eq_true_iff, Bool.and_eq_true_iff, Bool.and_eq_true_iff, eqPfx_iff]
  constructor
  · rintro ⟨hv, hf, hi, he⟩
    have hf := beq_iff_eq.1 hf
    obtain ⟨k1, k2⟩ := k_le ((pvB_iff p hp).1 hv).1
    rw [ofV, if_pos hi] at he
    have c1 : Go.bits .andNot .u64 a.f1 (mkH a p.f1) = p.f0.f1 := congrArg (fun z : S31 => z.f0.f1) he
    have c2 : Go.bits .andNot .u64 a.f2 (mkL a p.f1) = p.f0.f2 := congrArg (fun z : S31 => z.f0.f2) he
    have m1 : mkH a p.f1 = ((2 ^ kH p - 1 : Nat) : Int) := by unfold mkH kH mHi; rw [hf]
    have m2 : mkL a p.f1 = ((2 ^ kL p - 1 : Nat) : Int) := by unfold mkL kL mLo; rw [hf]
    rw [m1, e1, e3, andnot_mask _ _ h1 k1] at c1
    rw [m2, e2, e4, andnot_mask _ _ h2 k2] at c2
    exact ⟨hv, hf, ((inB_iff _ _).1 hi).1, by omega, by omega⟩
  · rintro ⟨hv, hf, had, c1, c2⟩
    have hin := ((pvB_iff p hp).1 hv).1
    obtain ⟨k1, k2⟩ := k_le hin
    obtain ⟨_, b0, b1⟩ := (inB_iff _ _).1 hin
    have hi : inB a p.f1 = true := (inB_iff _ _).2 ⟨had, b0, by rw [← hf]; exact b1⟩
    refine ⟨hv, beq_iff_eq.2 hf, hi, ?_⟩
    rw [ofV, if_pos hi]
    have m1 : mkH a p.f1 = ((2 ^ kH p - 1 : Nat) : Int) := by unfold mkH kH mHi; rw [hf]
    have m2 : mkL a p.f1 = ((2 ^ kL p - 1 : Nat) : Int) := by unfold mkL kL mLo; rw [hf]
    have d1 : Go.bits .andNot .u64 a.f1 (mkH a p.f1) = p.f0.f1 := by rw [m1, e1, andnot_mask _ _ h1 k1, c1, ← e3]
    have d2 : Go.bits .andNot .u64 a.f2 (mkL a p.f1) = p.f0.f2 := by rw [m2, e2, andnot_mask _ _ h2 k2, c2, ← e4]
    rw [d1, d2, ← hf]
/-! ### halves -/
def lowH (p : S31) : S31 := ⟨p.f0, p.f1 + 1⟩
def upH (p : S31) : S31 := ⟨⟨p.f0.f0, p.f0.f1 + (if 64 ≤ (lenV p.f0.f0 - p.f1 - 1).toNat then ((2 ^ ((lenV p.f0.f0 - p.f1 - 1).toNat - 64) : Nat) : Int) else 0), p.f0.f2 + (if 64 ≤ (lenV p.f0.f0 - p.f1 - 1).toNat then 0 else ((2 ^ (lenV p.f0.f0 - p.f1 - 1).toNat : Nat) : Int))⟩, p.f1 + 1⟩
end Go.Proofs.Ytjifdgicamlikaa.Ma
namespace Go.Proofs.Ytjifdgicamlikaa.Ma
open Go.RowKit Go.Proofs.YtjifdgicamlikaaW.PrintWords Go.Proofs.YtjifdgicamlikaaW.PrintLast Go.Proofs.YtjifdgicamlikaaW.PrintMore Go.Proofs.Ytjifdgicamlikaa.XP Go.Proofs.Ytjifdgicamlikaa.QA Go.Proofs.Ytjifdgicamlikaa.Cm
set_option linter.unusedVariables false
set_option linter.unusedSimpArgs false
theorem room (x k T : Nat) (hx : x < 18446744073709551616) (hk : k ≤ 64) (h : x % 2 ^ k = 0) (hT : T < 2 ^ k) : x + T < 18446744073709551616 := by
  have e1 : 2 ^ 64 = 2 ^ k * 2 ^ (64 - k) := by rw [← Nat.pow_add]; congr 1; omega
  have e2 : x = 2 ^ k * (x / 2 ^ k) := by have := Nat.div_add_mod x (2 ^ k); omega
  have hp : 0 < 2 ^ k := Nat.two_pow_pos k
  have h1 : x / 2 ^ k < 2 ^ (64 - k) := by
    rw [Nat.div_lt_iff_lt_mul hp, Nat.mul_comm, ← e1]
    omega
  have h2 : 2 ^ k * (x / 2 ^ k + 1) ≤ 2 ^ k * 2 ^ (64 - k) := Nat.mul_le_mul_left _ h1
  rw [← e1, Nat.mul_add, Nat.mul_one, ← e2] at h2
  omega
def hm (p : S31) : Nat := (lenV p.f0.f0 - p.f1 - 1).toNat
def tH (p : S31) : Nat := if 64 ≤ hm p then 2 ^ (hm p - 64) else 0
def tL (p : S31) : Nat := if 64 ≤ hm p then 0 else 2 ^ hm p
theorem upH_eq (p : S31) : upH p = ⟨⟨p.f0.f0, p.f0.f1 + ((tH p : Nat) : Int), p.f0.f2 + ((tL p : Nat) : Int)⟩, p.f1 + 1⟩ := by
  unfold upH tH tL hm
  by_cases h : 64 ≤ (lenV p.f0.f0 - p.f1 - 1).toNat
  · rw [if_pos h, if_pos h, if_pos h, if_pos h]; rfl
  · rw [if_neg h, if_neg h, if_neg h, if_neg h]; rfl
/-- What is known of a prefix that has halves. -/
structure Hv (p : S31) : Prop where
  u : uA p.f0
  v : pvB p = true
  b : p.f1 < lenV p.f0.f0
theorem Hv.nums {p : S31} (h : Hv p) : 0 ≤ p.f1 ∧ hm p ≤ 127 ∧ (lenV p.f0.f0 - p.f1).toNat = hm p + 1 ∧ kH p ≤ 64 ∧ kL p ≤ 64 ∧ hN p.f0 % 2 ^ kH p = 0 ∧ lN p.f0 % 2 ^ kL p = 0 ∧ tH p < 2 ^ kH p ∧ tL p < 2 ^ kL p := by
  obtain ⟨hi, h1, h2⟩ := (pvB_iff p h.u).1 h.v
  obtain ⟨_, b0, b1⟩ := (inB_iff _ _).1 hi
  have hb := h.b
  have hl := lenV_le p.f0.f0
  obtain ⟨k1, k2⟩ := k_le hi
  have e : (lenV p.f0.f0 - p.f1).toNat = hm p + 1 := by unfold hm; omega
  refine ⟨b0, by unfold hm; omega, e, k1, k2, h1, h2, ?_, ?_⟩
  · unfold tH kH
    rw [e]
    by_cases hh : 64 ≤ hm p
    · rw [if_pos hh]
      exact Nat.pow_lt_pow_right (by decide) (by omega)
    · rw [if_neg hh]
      exact Nat.two_pow_pos _
  · unfold tL kL
    rw [e]
    by_cases hh : 64 ≤ hm p
    · rw [if_pos hh]
      exact Nat.two_pow_pos _
    · rw [if_neg hh]
      exact Nat.pow_lt_pow_right (by decide) (by omega)
theorem Hv.up {p : S31} (h : Hv p) : uA (upH p).f0 ∧ hN (upH p).f0 = hN p.f0 + tH p ∧ lN (upH p).f0 = lN p.f0 + tL p := by
  obtain ⟨_, _, _, k1, k2, h1, h2, t1, t2⟩ := h.nums
  obtain ⟨e1, e2, b1, b2⟩ := n_of h.u
  have r1 := room _ _ _ b1 k1 h1 t1
  have r2 := room _ _ _ b2 k2 h2 t2
  rw [upH_eq]
  unfold uA hN lN at *
  simp only at *
  omega
theorem kH_low (p : S31) (h : Hv p) : kH (lowH p) = hm p - 64 ∧ kL (lowH p) = min (hm p) 64 ∧ kH (upH p) = hm p - 64 ∧ kL (upH p) = min (hm p) 64 := by
  have : (lenV p.f0.f0 - (p.f1 + 1)).toNat = hm p := by unfold hm; omega
  rw [upH_eq]
  unfold kH kL lowH
  simp only [this, and_self]
theorem kH_self (p : S31) (h : Hv p) : kH p = hm p + 1 - 64 ∧ kL p = min (hm p + 1) 64 := by
  obtain ⟨_, _, e, _⟩ := h.nums
  unfold kH kL
  rw [e]
  exact ⟨rfl, rfl⟩
theorem dvd_less {x k j : Nat} (h : x % 2 ^ k = 0) (hj : j ≤ k) : x % 2 ^ j = 0 :=
  Nat.mod_eq_zero_of_dvd (Nat.dvd_trans (Nat.pow_dvd_pow 2 hj) (Nat.dvd_of_mod_eq_zero h))
theorem Hv.valid {p : S31} (h : Hv p) : pvB (lowH p) = true ∧ pvB (upH p) = true := by
  obtain ⟨b0, hm127, e, k1, k2, h1, h2, t1, t2⟩ := h.nums
  obtain ⟨hi, _⟩ := (pvB_iff p h.u).1 h.v
  obtain ⟨ad, _, _⟩ := (inB_iff _ _).1 hi
  obtain ⟨l1, l2, l3, l4⟩ := kH_low p h
  obtain ⟨s1, s2⟩ := kH_self p h
  have hb := h.b
  rw [s1] at h1
  rw [s2] at h2
  constructor
  · refine (pvB_iff (lowH p) h.u).2 ⟨(inB_iff _ _).2 ⟨ad, by show 0 ≤ p.f1 + 1; omega, by show p.f1 + 1 ≤ lenV p.f0.f0; omega⟩, ?_, ?_⟩
    · rw [l1]
      exact dvd_less h1 (by omega)
    · rw [l2]
      exact dvd_less h2 (by omega)
  · obtain ⟨hu, n1, n2⟩ := h.up
    refine (pvB_iff (upH p) hu).2 ⟨(inB_iff _ _).2 ⟨?_, by show 0 ≤ p.f1 + 1; omega, by show p.f1 + 1 ≤ lenV p.f0.f0; omega⟩, ?_, ?_⟩
    · -- the address is one
      unfold adB at ad ⊢
      rw [upH_eq]
      cases hv6 : p.f0.f0 with
      | true => rfl
      | false =>
        rw [hv6] at ad
        simp only [Bool.false_or, Bool.and_eq_true, decide_eq_true_eq] at ad ⊢
        have h32 : lenV p.f0.f0 = 32 := by rw [hv6]; rfl
        have hm31 : hm p ≤ 31 := by unfold hm; omega
        have eH : tH p = 0 := by unfold tH; rw [if_neg (by omega)]
        refine ⟨by rw [eH]; omega, ?_⟩
        obtain ⟨_, e2, _, _⟩ := n_of h.u
        have hx : lN p.f0 < 2 ^ 32 := by omega
        have ekl : kL p = hm p + 1 := by rw [s2]; omega
        rw [ekl] at t2
        have e1 : min (hm p + 1) 64 = hm p + 1 := by omega
        rw [e1] at h2
        have q1 : (2 : Nat) ^ 32 = 2 ^ (hm p + 1) * 2 ^ (32 - (hm p + 1)) := by rw [← Nat.pow_add]; congr 1; omega
        have q2 : lN p.f0 = 2 ^ (hm p + 1) * (lN p.f0 / 2 ^ (hm p + 1)) := by have := Nat.div_add_mod (lN p.f0) (2 ^ (hm p + 1)); omega
        have q3 : lN p.f0 / 2 ^ (hm p + 1) < 2 ^ (32 - (hm p + 1)) := by
          rw [Nat.div_lt_iff_lt_mul (Nat.two_pow_pos _), Nat.mul_comm, ← q1]
          exact hx
        have q4 : 2 ^ (hm p + 1) * (lN p.f0 / 2 ^ (hm p + 1) + 1) ≤ 2 ^ (hm p + 1) * 2 ^ (32 - (hm p + 1)) := Nat.mul_le_mul_left _ q3
        rw [← q1, Nat.mul_add, Nat.mul_one, ← q2] at q4
        omega
    · rw [l3, n1]
      by_cases hh : 64 ≤ hm p
      · have eH : tH p = 2 ^ (hm p - 64) := by unfold tH; rw [if_pos hh]
        rw [eH, Nat.add_mod_right]
        exact dvd_less h1 (by omega)
      · have : hm p - 64 = 0 := by omega
        rw [this, Nat.pow_zero, Nat.mod_one]
    · rw [l4, n2]
      by_cases hh : 64 ≤ hm p
      · have eL : tL p = 0 := by unfold tL; rw [if_pos hh]
        rw [eL, Nat.add_zero]
        exact dvd_less h2 (by omega)
      · have eL : tL p = 2 ^ hm p := by unfold tL; rw [if_neg hh]
        have em : min (hm p) 64 = hm p := by omega
        rw [eL, em, Nat.add_mod_right]
        exact dvd_less h2 (by omega)
theorem Hv.split {p : S31} (h : Hv p) (a : S29) (ha : uA a) : pcB p a = (pcB (lowH p) a || pcB (upH p) a) ∧ (pcB (lowH p) a && pcB (upH p) a) = false := by
  obtain ⟨b0, hm127, e, k1, k2, h1, h2, t1, t2⟩ := h.nums
  obtain ⟨l1, l2, l3, l4⟩ := kH_low p h
  obtain ⟨s1, s2⟩ := kH_self p h
  obtain ⟨hu, n1, n2⟩ := h.up
  obtain ⟨v1, v2⟩ := h.valid
  have i0 := pcB_iff p a h.u ha
  have i1 := pcB_iff (lowH p) a h.u ha
  have i2 := pcB_iff (upH p) a hu ha
  have f1 : (lowH p).f0 = p.f0 := rfl
  have f2 : (upH p).f0.f0 = p.f0.f0 := by rw [upH_eq]
  rw [l1, l2, f1] at i1
  rw [l3, l4, n1, n2, f2] at i2
  rw [s1, s2] at i0
  rw [s1] at h1
  rw [s2] at h2
  by_cases hh : 64 ≤ hm p
  · have eH : tH p = 2 ^ (hm p - 64) := by unfold tH; rw [if_pos hh]
    have eL : tL p = 0 := by unfold tL; rw [if_pos hh]
    have e1 : hm p + 1 - 64 = (hm p - 64) + 1 := by omega
    have e2 : min (hm p + 1) 64 = 64 := by omega
    have e3 : min (hm p) 64 = 64 := by omega
    rw [e1, e2, Nat.pow_succ] at i0
    rw [e3] at i1
    rw [e3, eH, eL, Nat.add_zero] at i2
    rw [e1, Nat.pow_succ] at h1
    have hp := Nat.two_pow_pos (hm p - 64)
    have hn := half_nat (hN a) (hN p.f0) (2 ^ (hm p - 64)) hp h1
    constructor
    · rw [Bool.eq_iff_iff, Bool.or_eq_true, i0, i1, i2]
      constructor
      · rintro ⟨_, c2, c3, c4, c5⟩
        rcases hn.1 c4 with c | c
        · exact .inl ⟨v1, c2, c3, c, c5⟩
        · exact .inr ⟨v2, c2, c3, c, c5⟩
      · rintro (⟨_, c2, c3, c4, c5⟩ | ⟨_, c2, c3, c4, c5⟩)
        · exact ⟨h.v, c2, c3, hn.2 (.inl c4), c5⟩
        · exact ⟨h.v, c2, c3, hn.2 (.inr c4), c5⟩
    · rw [Bool.and_eq_false_iff]
      by_cases c : pcB (lowH p) a = true
      · refine .inr (Bool.eq_false_iff.2 (fun c' => ?_))
        have := (i1.1 c).2.2.2.1
        have := (i2.1 c').2.2.2.1
        omega
      · exact .inl (by simpa using c)
  · have e1 : hm p + 1 - 64 = hm p - 64 := by clear i0 i1 i2 h1 h2 t1 t2; omega
    have e2 : min (hm p + 1) 64 = hm p + 1 := by clear i0 i1 i2 h1 h2 t1 t2; omega
    have e3 : min (hm p) 64 = hm p := by clear i0 i1 i2 h1 h2 t1 t2; omega
    have eH : tH p = 0 := by unfold tH; rw [if_neg hh]
    have eL : tL p = 2 ^ hm p := by unfold tL; rw [if_neg hh]
    rw [e1, e2, Nat.pow_succ] at i0
    rw [e3] at i1
    simp only [e3, eH, eL, Nat.add_zero] at i2
    rw [e2, Nat.pow_succ] at h2
    have hp := Nat.two_pow_pos (hm p)
    have hn := half_nat (lN a) (lN p.f0) (2 ^ hm p) hp h2
    constructor
    · rw [Bool.eq_iff_iff, Bool.or_eq_true, i0, i1, i2]
      constructor
      · rintro ⟨_, c2, c3, c4, c5⟩
        rcases hn.1 c5 with c | c
        · exact .inl ⟨v1, c2, c3, c4, c⟩
        · exact .inr ⟨v2, c2, c3, c4, c⟩
      · rintro (⟨_, c2, c3, c4, c5⟩ | ⟨_, c2, c3, c4, c5⟩)
        · exact ⟨h.v, c2, c3, c4, hn.2 (.inl c5)⟩
        · exact ⟨h.v, c2, c3, c4, hn.2 (.inr c5)⟩
    · rw [Bool.and_eq_false_iff]
      by_cases c : pcB (lowH p) a = true
      · refine .inr (Bool.eq_false_iff.2 (fun c' => ?_))
        have := (i1.1 c).2.2.2.2
        have := (i2.1 c').2.2.2.2
        omega
      · exact .inl (by simpa using c)
end Go.Proofs.Ytjifdgicamlikaa.Ma
namespace Go.Proofs.Ytjifdgicamlikaa.Ma
open Go.RowKit Go.Proofs.YtjifdgicamlikaaW.PrintWords Go.Proofs.YtjifdgicamlikaaW.PrintLast Go.Proofs.YtjifdgicamlikaaW.PrintMore Go.Proofs.Ytjifdgicamlikaa.XP Go.Proofs.Ytjifdgicamlikaa.QA Go.Proofs.Ytjifdgicamlikaa.Cm
set_option linter.unusedVariables false
set_option linter.unusedSimpArgs false
/-! ### Halves -/
theorem par_low {p : S31} (h : Hv p) (i : Int) (hi : i = 0 ∨ i = 1) : parB p (p.f1 + 1) i = true := by
  obtain ⟨b0, _, _⟩ := h.nums
  have hb := h.b
  unfold parB
  rw [h.v, Bool.true_and, decide_eq_true (show p.f1 ≤ p.f1 + 1 by omega), decide_eq_true (show p.f1 + 1 ≤ lenV p.f0.f0 by omega), Bool.true_and, Bool.true_and, show (p.f1 + 1 - p.f1).toNat = 1 by omega, decide_eq_true (show i < 2 ^ 1 by omega), Bool.or_true]
theorem pHi_one (s : Nat) (h : s ≤ 127) : pHi 1 s = if 64 ≤ s then ((2 ^ (s - 64) : Nat) : Int) else 0 := by
  have : ∀ s : Fin 128, pHi 1 s.val = if 64 ≤ s.val then ((2 ^ (s.val - 64) : Nat) : Int) else 0 := by decide +kernel
  exact this ⟨s, by omega⟩
theorem pLo_one (s : Nat) (h : s ≤ 127) : pLo 1 s = if 64 ≤ s then 0 else ((2 ^ s : Nat) : Int) := by
  have : ∀ s : Fin 128, pLo 1 s.val = if 64 ≤ s.val then 0 else ((2 ^ s.val : Nat) : Int) := by decide +kernel
  exact this ⟨s, by omega⟩
theorem pz (s : Nat) : pHi 0 s = 0 ∧ pLo 0 s = 0 := by
  unfold pHi pLo
  rw [Int.zero_mul]
  decide
theorem parV_low {p : S31} (h : Hv p) : parV p (p.f1 + 1) 0 = lowH p := by
  obtain ⟨e1, e2, b1, b2⟩ := n_of h.u
  unfold parV
  rw [if_pos (par_low h 0 (.inl rfl)), (pz _).1, (pz _).2, e1, e2, or_zero _ (by omega) (by omega), or_zero _ (by omega) (by omega), ← e1, ← e2]
  rfl
theorem or_up (x k T : Nat) (hx : x < 18446744073709551616) (hk : k ≤ 64) (h : x % 2 ^ k = 0) (hT : T < 2 ^ k) : Go.bits .or .u64 (x : Int) (T : Int) = (x : Int) + (T : Int) := by
  have hr := room x k T hx hk h hT
  have hp : 2 ^ k ≤ 2 ^ 64 := Nat.pow_le_pow_right (by decide) hk
  have ha : Go.bits .and .u64 (x : Int) (T : Int) = 0 := by
    refine apart (x : Int) (T : Int) k hk (by omega) (by omega) (by omega) (by exact_mod_cast hT) ?_
    rw [and_mask x k hx hk, h]
    rfl
  rw [← or_add (x : Int) (T : Int) (by omega) (by omega) (by omega) (by omega) ha, IntKind.wrap_u64]
  omega
theorem parV_up {p : S31} (h : Hv p) : parV p (p.f1 + 1) 1 = upH p := by
  obtain ⟨b0, hm127, e, k1, k2, h1, h2, t1, t2⟩ := h.nums
  obtain ⟨e1, e2, b1, b2⟩ := n_of h.u
  have hs : (lenV p.f0.f0 - (p.f1 + 1)).toNat = hm p := by unfold hm; omega
  have cH : pHi 1 (hm p) = ((tH p : Nat) : Int) := by
    rw [pHi_one _ hm127]; unfold tH
    split <;> rfl
  have cL : pLo 1 (hm p) = ((tL p : Nat) : Int) := by
    rw [pLo_one _ hm127]; unfold tL
    split <;> rfl
  unfold parV
  rw [if_pos (par_low h 1 (.inr rfl)), hs, cH, cL, e1, e2, or_up _ _ _ b1 k1 h1 t1, or_up _ _ _ b2 k2 h2 t2, ← e1, ← e2, upH_eq]
theorem halves_ev (p : S31) (hu : uA p.f0) (hr : -9223372036854775808 ≤ p.f1 ∧ p.f1 ≤ 9223372036854775807) : ∃ t, Ev (fun k => prefix_Halves.f k p.f0.f0 p.f0.f1 p.f0.f2 p.f1) t ∧ (t.2.2.2.2.2.2.2.2 = false ∨ (Hv p ∧ t = (p.f0.f0, p.f0.f1, p.f0.f2, p.f1 + 1, (upH p).f0.f0, (upH p).f0.f1, (upH p).f0.f2, (upH p).f1, true))) := by
  have hw : -9223372036854775808 ≤ wrap64 (p.f1 + 1) ∧ wrap64 (p.f1 + 1) ≤ 9223372036854775807 := by unfold wrap64; omega
  have p0 := part_pfx p (wrap64 (p.f1 + 1)) 0 hw (by omega) (by omega)
  have p1 := part_pfx p (wrap64 (p.f1 + 1)) 1 hw (by omega) (by omega)
  unfold prefix_Halves.f
  have no : ∀ a b c d, Ev (fun k => prefix_Halves.j0 k true p.f0.f0 p.f0.f1 p.f0.f2 p.f1 a b c d) (false, 0, 0, 0, false, 0, 0, 0, false) := fun a b c d =>
    Ev_shift 1 (f := fun _ => some (false, 0, 0, 0, false, 0, 0, 0, false)) (fun k => by rw [prefix_Halves.j0, if_pos rfl]) (Ev_const rfl)
  cases hp : parB p (wrap64 (p.f1 + 1)) 0 with
  | false =>
    refine ⟨(false, 0, 0, 0, false, 0, 0, 0, false), ?_, .inl rfl⟩
    rw [hp] at p0
    refine Ev_bind p0 ?_
    simp only [tPfx, Bool.false_eq_true, if_false]
    exact no _ _ _ _
  | true =>
    have hv : pvB p = true := by
      unfold parB at hp
      exact (Bool.and_eq_true_iff.1 hp).1
    obtain ⟨_, b0, b1⟩ := pv_in hv
    have hl := lenV_le p.f0.f0
    have hwe : wrap64 (p.f1 + 1) = p.f1 + 1 := wrap_id (by omega) (by omega)
    rw [hwe] at hp p0 p1
    have hb : p.f1 < lenV p.f0.f0 := by
      unfold parB at hp
      have h2 := (Bool.and_eq_true_iff.1 (Bool.and_eq_true_iff.1 (Bool.and_eq_true_iff.1 hp).2).2).1
      have := of_decide_eq_true h2
      omega
    have H : Hv p := ⟨hu, hv, hb⟩
    refine ⟨_, ?_, .inr ⟨H, rfl⟩⟩
    simp only [hwe]
    rw [hp, parV_low H] at p0
    rw [par_low H 1 (.inr rfl), parV_up H] at p1
    refine Ev_bind p0 ?_
    simp only [tPfx, if_true]
    refine Ev_bind (valid_pfx p) ?_
    rw [hv]
    refine Ev_shift 1 (fun k => by rw [Bool.not_true, prefix_Halves.j0, if_neg Bool.false_ne_true, hwe]) ?_
    exact Ev_bind p1 (Ev_const rfl)
/-! ### counts -/
theorem j0_nodup (l : List S29) : (usage_report.j0 l).Nodup := by
  have h : ∀ (r : List S29) (S : List (Bool × Int × Int)), S.Nodup → (r.foldl (fun S a => XM.put S (a.f0, a.f1, a.f2)) S).Nodup := by
    intro r
    induction r with
    | nil => exact fun S h => h
    | cons a r ih =>
      intro S hS
      refine ih _ ?_
      show (XM.put S (a.f0, a.f1, a.f2)).Nodup
      unfold XM.put
      split
      · exact hS
      · rename_i hc
        refine List.nodup_append.2 ⟨hS, by simp, fun x hx y hy => ?_⟩
        simp at hy
        subst hy
        rintro rfl
        exact hc (by simpa using hx)
  exact h l [] List.nodup_nil
theorem cnt_same (p : S31) {l l' : List S29} (h : ∀ a, a ∈ l ↔ a ∈ l') : cnt p l = cnt p l' := by
  have hp : (usage_report.j0 l).Perm (usage_report.j0 l') := (List.perm_ext_iff_of_nodup (j0_nodup l) (j0_nodup l')).2 (fun x => by
    rw [mem_j0, mem_j0]
    exact ⟨fun ⟨a, ha, e⟩ => ⟨a, (h a).1 ha, e⟩, fun ⟨a, ha, e⟩ => ⟨a, (h a).2 ha, e⟩⟩)
  exact (hp.filter (cB p)).length_eq
theorem cnt_split {p : S31} (h : Hv p) (l : List S29) (ok : ∀ a ∈ l, uA a) : cnt p l = cnt (lowH p) l + cnt (upH p) l := by
  unfold cnt
  have key : ∀ S : List (Bool × Int × Int), (∀ x ∈ S, ∃ a ∈ l, tri a = x) → (S.filter (cB p)).length = (S.filter (cB (lowH p))).length + (S.filter (cB (upH p))).length := by
    intro S
    induction S with
    | nil => exact fun _ => rfl
    | cons x r ih =>
      intro hx
      obtain ⟨a, ha, rfl⟩ := hx x List.mem_cons_self
      have ih := ih (fun y hy => hx y (List.mem_cons_of_mem _ hy))
      obtain ⟨s1, s2⟩ := h.split a (ok a ha)
      have e0 : cB p (tri a) = pcB p a := rfl
      have e1 : cB (lowH p) (tri a) = pcB (lowH p) a := rfl
      have e2 : cB (upH p) (tri a) = pcB (upH p) a := rfl
      rw [List.filter_cons, List.filter_cons, List.filter_cons, e0, e1, e2, s1]
      cases c1 : pcB (lowH p) a with
      | true =>
        rw [c1, Bool.true_and] at s2
        rw [s2]
        simp only [Bool.or_false, if_true, Bool.false_eq_true, if_false, List.length_cons]
        omega
      | false =>
        cases c2 : pcB (upH p) a with
        | true =>
          simp only [Bool.false_or, if_true, Bool.false_eq_true, if_false, List.length_cons]
          omega
        | false =>
          simp only [Bool.or_self, Bool.false_eq_true, if_false]
          omega
  exact key _ (fun x hx => (mem_j0 l).1 hx)
theorem nodup_lt : ∀ (n : Nat) (l : List Nat), l.Nodup → (∀ x ∈ l, x < n) → l.length ≤ n
  | 0, l, _, h => by
    cases l with
    | nil => exact Nat.le_refl _
    | cons x r => exact absurd (h x List.mem_cons_self) (by omega)
  | n + 1, l, hd, h => by
    by_cases hm : n ∈ l
    · have h1 := nodup_lt n (l.erase n) (hd.erase n) (fun x hx => by
        obtain ⟨h2, h3⟩ := hd.mem_erase_iff.1 hx
        have := h x h3
        omega)
      have h2 := List.length_erase_of_mem hm
      omega
    · have h1 := nodup_lt n l hd (fun x hx => by
        have h2 := h x hx
        rcases Nat.eq_or_lt_of_le (Nat.le_of_lt_succ h2) with e | e
        · exact absurd (e ▸ hx) hm
        · exact e)
      omega
theorem cnt_tot (p : S31) (hu : uA p.f0) (l : List S29) (ok : ∀ a ∈ l, uA a) (hl : l.length ≤ 100) : ((cnt p l : Nat) : Int) ≤ totV p := by
  have hle := cnt_le p l
  unfold totV szV
  by_cases hv : pvB p = true
  · rw [if_pos hv]
    by_cases h64 : lenV p.f0.f0 - p.f1 ≥ 64
    · rw [if_pos h64]
      show ((cnt p l : Nat) : Int) ≤ 18446744073709551615
      omega
    · rw [if_neg h64]
      show ((cnt p l : Nat) : Int) ≤ ((2 ^ (lenV p.f0.f0 - p.f1).toNat : Nat) : Int)
      obtain ⟨_, b0, b1⟩ := pv_in hv
      have ekL : kL p = (lenV p.f0.f0 - p.f1).toNat := by unfold kL; omega
      have ekH : kH p = 0 := by unfold kH; omega
      rw [← ekL]
      have hmap : (((usage_report.j0 l).filter (cB p)).map (fun x => x.2.2.toNat % 2 ^ kL p)).Nodup := by
        have hnd : ((usage_report.j0 l).filter (cB p)).Nodup := (j0_nodup l).filter _
        refine List.Pairwise.map (R := fun x y => x ≠ y ∧ (∃ a ∈ l, tri a = x ∧ pcB p a = true) ∧ (∃ a ∈ l, tri a = y ∧ pcB p a = true)) _ ?_ ?_
        · rintro x y ⟨hne, ⟨a, ha, rfl, ca⟩, ⟨b, hb, rfl, cb⟩⟩ he
          obtain ⟨_, fa, _, ha1, ha2⟩ := (pcB_iff p a hu (ok a ha)).1 ca
          obtain ⟨_, fb, _, hb1, hb2⟩ := (pcB_iff p b hu (ok b hb)).1 cb
          rw [ekH, Nat.pow_zero, Nat.mod_one, Nat.sub_zero] at ha1 hb1
          have he' : lN a % 2 ^ kL p = lN b % 2 ^ kL p := he
          have la := Nat.mod_le (lN a) (2 ^ kL p)
          have lb := Nat.mod_le (lN b) (2 ^ kL p)
          obtain ⟨a1, a2, _, _⟩ := n_of (ok a ha)
          obtain ⟨b1', b2', _, _⟩ := n_of (ok b hb)
          have q1 : a.f1 = b.f1 := by rw [a1, b1']; omega
          have q2 : a.f2 = b.f2 := by rw [a2, b2']; omega
          apply hne
          unfold tri
          rw [← fa, ← fb, q1, q2]
        · have hall : ∀ x ∈ (usage_report.j0 l).filter (cB p), ∃ a ∈ l, tri a = x ∧ pcB p a = true := fun x hx => by
            obtain ⟨h1, h2⟩ := List.mem_filter.1 hx
            obtain ⟨a, ha, rfl⟩ := (mem_j0 l).1 h1
            exact ⟨a, ha, rfl, h2⟩
          exact List.Pairwise.imp_of_mem (fun hx hy hne => ⟨hne, hall _ hx, hall _ hy⟩) hnd
      have := nodup_lt (2 ^ kL p) _ hmap (fun y hy => by
        obtain ⟨x, _, rfl⟩ := List.mem_map.1 hy
        exact Nat.mod_lt _ (Nat.two_pow_pos _))
      rw [List.length_map] at this
      unfold cnt
      omega
  · rw [if_neg hv]
    show ((cnt p l : Nat) : Int) ≤ 18446744073709551615
    omega
/-! ### the proportion -/
theorem mil_facts (n t : Nat) (hn : n ≤ 100) (ht : 0 < t) (hnt : n ≤ t) (ht2 : t ≤ 18446744073709551615) : 0 ≤ milV (n : Int) (t : Int) ∧ milV (n : Int) (t : Int) ≤ 1000 ∧ (milV (n : Int) (t : Int) = 0 ↔ n = 0) ∧ (milV (n : Int) (t : Int) = 1000 ↔ n = t) := by
  have e1 : IntKind.u64.wrap (1000 * (n : Int)) = ((1000 * n : Nat) : Int) := by rw [IntKind.wrap_u64]; omega
  have e2 : Int.tmod ((1000 * n : Nat) : Int) (t : Int) = ((1000 * n % t : Nat) : Int) := by rw [Int.tmod_eq_emod_of_nonneg (by omega)]; rfl
  have e3 : Int.tdiv ((1000 * n : Nat) : Int) (t : Int) = ((1000 * n / t : Nat) : Int) := by rw [Int.tdiv_eq_ediv_of_nonneg (by omega)]; rfl
  have hq : 1000 * n / t ≤ 1000 := by
    rw [Nat.div_le_iff_le_mul_add_pred ht]
    have : 1000 * n ≤ 1000 * t := Nat.mul_le_mul_left _ hnt
    have e : t * 1000 = 1000 * t := Nat.mul_comm _ _
    omega
  have hd := Nat.div_add_mod (1000 * n) t
  have hm := Nat.mod_lt (1000 * n) ht
  generalize hQ : 1000 * n / t = q at *
  generalize hR : 1000 * n % t = r at *
  have f1 : IntKind.u64.wrap ((q : Nat) : Int) = ((q : Nat) : Int) := by rw [IntKind.wrap_u64]; omega
  have f2 : IntKind.u64.wrap (((q : Nat) : Int) + 1) = ((q + 1 : Nat) : Int) := by rw [IntKind.wrap_u64]; omega
  unfold milV
  rw [e1, e2, e3, f1, f2, wrap_id (show -9223372036854775808 ≤ ((q + 1 : Nat) : Int) by omega) (by omega), wrap_id (show -9223372036854775808 ≤ ((q : Nat) : Int) by omega) (by omega)]
  by_cases hr : ((r : Nat) : Int) > 0
  · rw [if_pos hr]
    have hq2 : q < 1000 := by
      rcases Nat.lt_or_ge q 1000 with h | h
      · exact h
      · have : q = 1000 := by omega
        subst this
        have : t * 1000 ≥ n * 1000 := Nat.mul_le_mul_right _ hnt
        omega
    refine ⟨by omega, by omega, ⟨fun h => by omega, fun h => ?_⟩, ⟨fun h => ?_, fun h => ?_⟩⟩
    · subst h
      simp only [Nat.mul_zero] at hd
      have : r = 0 := by omega
      omega
    · have : q = 999 := by omega
      subst this
      rcases Nat.lt_or_ge n t with hlt | hge
      · exfalso
        -- 1000 n = 999 t + r with 0 < r < t, n < t: so t > 1000 (t - n) .. n > 999 t / 1000
        have h1 : t * 999 + r = 1000 * n := hd
        have h2 : r = 1000 * n - t * 999 := by omega
        omega
      · omega
    · subst h
      exfalso
      have : n * q + r = 1000 * n := hd
      have e : n * 1000 = 1000 * n := Nat.mul_comm _ _
      have h3 : n * (q + 1) ≤ n * 1000 := Nat.mul_le_mul_left _ (by omega)
      rw [Nat.mul_add, Nat.mul_one] at h3
      omega
  · rw [if_neg hr]
    have hr0 : r = 0 := by omega
    subst hr0
    rw [Nat.add_zero] at hd
    refine ⟨by omega, by omega, ⟨fun h => ?_, fun h => ?_⟩, ⟨fun h => ?_, fun h => ?_⟩⟩
    · have : q = 0 := by omega
      subst this
      rw [Nat.mul_zero] at hd
      omega
    · subst h
      simp only [Nat.mul_zero] at hd
      rcases Nat.mul_eq_zero.1 hd with h | h <;> omega
    · have : q = 1000 := by omega
      subst this
      omega
    · subst h
      have e : n * q = n * 1000 := by rw [hd, Nat.mul_comm]
      have := Nat.eq_of_mul_eq_mul_left ht e
      omega
end Go.Proofs.Ytjifdgicamlikaa.Ma
namespace Go.Proofs.Ytjifdgicamlikaa.Ma
open Go.RowKit Go.Proofs.YtjifdgicamlikaaW.PrintWords Go.Proofs.YtjifdgicamlikaaW.PrintLast Go.Proofs.YtjifdgicamlikaaW.PrintMore Go.Proofs.Ytjifdgicamlikaa.XP Go.Proofs.Ytjifdgicamlikaa.QA Go.Proofs.Ytjifdgicamlikaa.Cm
set_option linter.unusedVariables false
set_option linter.unusedSimpArgs false
/-- The three blocks of the law. -/
def threeB (p : S31) : List S60 := [⟨p, 1, ⟨#[97]⟩, ⟨#[]⟩, 0⟩, ⟨lowH p, 1, ⟨#[98]⟩, ⟨#[]⟩, 0⟩, ⟨upH p, 1, ⟨#[99]⟩, ⟨#[]⟩, 0⟩]
theorem strA : strB 1 63 ⟨#[97]⟩ = true ∧ strB 1 63 ⟨#[98]⟩ = true ∧ strB 1 63 ⟨#[99]⟩ = true ∧ strB 0 32 ⟨#[]⟩ = true := by
  refine ⟨?_, ?_, ?_, ?_⟩ <;> decide +kernel
theorem vB_one {q : S31} {s : ByteArray} (hq : pvB q = true) (hs : strB 1 63 s = true) : vB (⟨q, 1, s, ⟨#[]⟩, 0⟩ : S60) = true := by
  unfold vB mayV kdB tmB
  simp [hq, hs, strA.2.2.2]
theorem bar_one (b : S60) (q : S31) (s : ByteArray) : barB b (⟨q, 1, s, ⟨#[]⟩, 0⟩ : S60) = false := by
  unfold barB
  rw [decide_eq_false (show ¬ (1 : Int) = 3 by decide), decide_eq_false (show ¬ (1 : Int) = 2 by decide), Bool.false_and, Bool.or_self, Bool.and_false]
theorem pcm_low (p : S31) : pcm p (lowH p) < 0 := by
  unfold pcm lowH
  rw [if_pos (cmp_self _), if_pos (show p.f1 < p.f1 + 1 by omega)]
  decide
theorem pcm_up {p : S31} (h : Hv p) : pcm (lowH p) (upH p) < 0 := by
  have hc : cmp (lowH p).f0 (upH p).f0 = -1 := by
    rw [upH_eq]
    unfold lowH cmp
    have n : (p.f0.f0 != p.f0.f0) = false := by simp
    simp only [n, Bool.false_eq_true, if_false]
    unfold tH tL
    by_cases h6 : 64 ≤ hm p
    · have := Nat.two_pow_pos (hm p - 64)
      rw [if_pos h6, if_pos h6, if_neg (by omega), if_pos (by omega)]
    · have := Nat.two_pow_pos (hm p)
      rw [if_neg h6, if_neg h6, if_pos (by omega), if_pos (by omega)]
  unfold pcm
  rw [if_neg (by omega), hc]
  decide
theorem three_tab {p : S31} (h : Hv p) : Tab (threeB p) := by
  obtain ⟨v1, v2⟩ := h.valid
  obtain ⟨s1, s2, s3, _⟩ := strA
  have l1 := pcm_low p
  have l2 := pcm_up h
  have l3 := pcm_trans l1 l2
  have z : ∀ c, (⟨#[c]⟩ : ByteArray).size ≤ 140737488351232 ∧ (⟨#[]⟩ : ByteArray).size ≤ 140737488351232 := fun c => ⟨by show (1 : Nat) ≤ _; omega, by show (0 : Nat) ≤ _; omega⟩
  refine ⟨fun b hb => ?_, ?_, ?_⟩
  · unfold threeB at hb
    simp only [List.mem_cons, List.not_mem_nil, or_false] at hb
    rcases hb with rfl | rfl | rfl
    · exact ⟨vB_one h.v s1, z _⟩
    · exact ⟨vB_one v1 s2, z _⟩
    · exact ⟨vB_one v2 s3, z _⟩
  · unfold threeB
    refine List.Pairwise.cons (fun b hb => ?_) (List.Pairwise.cons (fun b hb => ?_) (List.pairwise_singleton _ _))
    · simp only [List.mem_cons, List.not_mem_nil, or_false] at hb
      rcases hb with rfl | rfl
      · exact l1
      · exact l3
    · simp only [List.mem_cons, List.not_mem_nil, or_false] at hb
      subst hb
      exact l2
  · unfold threeB
    exact List.Pairwise.cons (fun b _ => bar_one b _ _) (List.Pairwise.cons (fun b _ => bar_one b _ _) (List.pairwise_singleton _ _))
theorem eqPfx_self (p : S31) : eqPfx p p = true := (eqPfx_iff p p).2 rfl
theorem three_fnd (p : S31) : fndB p (threeB p) = true ∧ fndB (lowH p) (threeB p) = true ∧ fndB (upH p) (threeB p) = true := by
  unfold fndB threeB
  simp only [List.any_cons, eqPfx_self, Bool.true_or, Bool.or_true, and_self]
theorem of_three (p q : S31) (u : List S29) (hq : fndB q (threeB p) = true) (hu : u.length * 24 ≤ 140737488351232) (ok : ∀ a ∈ u, okS29 a) : Ev (fun k => usage_Of.f k (threeB p) q.f0.f0 q.f0.f1 q.f0.f2 q.f1 u) (q.f0.f0, q.f0.f1, q.f0.f2, q.f1, (cnt q u : Int), totV q, milV (cnt q u) (totV q), true) := by
  have := of_ev q (threeB p) u (by show (3 : Nat) ≤ _; omega) hu ok
  unfold ofT at this
  rw [if_pos hq] at this
  exact this
theorem sums_tail {p : S31} (h : Hv p) (u z : List S29) (hu : u.length ≤ 100) (hz : z.length ≤ 200) (ok : ∀ a ∈ u, okS29 a) (hm : ∀ a, a ∈ z ↔ a ∈ u) : Ev (fun k => ddilaw48_UsageSums.l0 k u (threeB p) z (-1) p.f0.f0 p.f0.f1 p.f0.f2 p.f1 (lowH p).f0.f0 (lowH p).f0.f1 (lowH p).f0.f2 (lowH p).f1 (upH p).f0.f0 (upH p).f0.f1 (upH p).f0.f2 (upH p).f1) true := by
  obtain ⟨f1, f2, f3⟩ := three_fnd p
  have ok' : ∀ a ∈ z, okS29 a := fun a ha => ok a ((hm a).1 ha)
  have uok : ∀ a ∈ u, uA a := fun a ha => uA_of (ok a ha)
  have hsp := cnt_split h u uok
  have hsame : cnt p z = cnt p u := cnt_same p hm
  have htot := cnt_tot p h.u u uok hu
  have hle := cnt_le p u
  have t1 := totV_pos p
  have ht : ∃ t : Nat, totV p = (t : Int) ∧ 0 < t ∧ t ≤ 18446744073709551615 := by
    have hb : 0 ≤ totV p ∧ totV p ≤ 18446744073709551615 := by
      unfold totV szV
      by_cases hv : pvB p = true
      · rw [if_pos hv]
        by_cases h64 : lenV p.f0.f0 - p.f1 ≥ 64
        · rw [if_pos h64]; simp
        · rw [if_neg h64]
          have : (2 : Nat) ^ (lenV p.f0.f0 - p.f1).toNat ≤ 2 ^ 63 := Nat.pow_le_pow_right (by decide) (by omega)
          simp only [if_true]
          exact ⟨Int.natCast_nonneg _, Int.le_trans (Int.ofNat_le.2 this) (by decide)⟩
      · rw [if_neg hv]; simp
    refine ⟨(totV p).toNat, by omega, by omega, by omega⟩
  obtain ⟨t, et, tp, tm⟩ := ht
  rw [et] at htot
  obtain ⟨m1, m2, m3, m4⟩ := mil_facts (cnt p u) t (by omega) tp (by omega) tm
  rw [← et] at m1 m2 m3 m4 htot
  refine Ev_shift 1 (fun k => by rw [ddilaw48_UsageSums.l0, if_neg (by decide)]) ?_
  refine Ev_bind (of_three p p u f1 (by omega) ok) ?_
  refine Ev_bind (of_three p (lowH p) u f2 (by omega) ok) ?_
  refine Ev_bind (of_three p (upH p) u f3 (by omega) ok) ?_
  refine Ev_bind (of_three p p z f1 (by omega) ok') ?_
  rw [hsame]
  have c1 : (((p.f0.f0 == p.f0.f0 && (p.f0.f1 == p.f0.f1 && (p.f0.f2 == p.f0.f2))) && (p.f1 == p.f1)) && ((cnt p u : Int) == (cnt p u : Int) && (totV p == totV p && (milV (cnt p u) (totV p) == milV (cnt p u) (totV p))))) = true := by simp
  have w1 : (cnt p u : Int) = IntKind.u64.wrap ((cnt (lowH p) u : Int) + (cnt (upH p) u : Int)) := by rw [IntKind.wrap_u64]; omega
  have w2 : (cnt p u : Int) ≤ IntKind.u64.wrap ((u.length : Nat) : Int) := by rw [IntKind.wrap_u64]; omega
  have b1 : ((milV (cnt p u) (totV p) == 0) == ((cnt p u : Int) == 0)) = true := by
    rw [beq_iff_eq, Bool.eq_iff_iff, beq_iff_eq, beq_iff_eq, m3]
    omega
  have b2 : ((milV (cnt p u) (totV p) == 1000) == ((cnt p u : Int) == totV p)) = true := by
    rw [beq_iff_eq, Bool.eq_iff_iff, beq_iff_eq, beq_iff_eq, m4, et]
    omega
  simp only [if_true]
  simp only [c1, if_true, if_pos w1, if_pos htot, if_pos w2, if_pos (show milV (cnt p u) (totV p) ≥ 0 from m1), if_pos m2, b1, b2]
  exact Ev_bind awake_ev (Ev_const rfl)
theorem sums_loop {p : S31} (h : Hv p) (u : List S29) (hu : u.length ≤ 100) (ok : ∀ a ∈ u, okS29 a) : ∀ (i : Nat) (z : List S29), i ≤ u.length → z.length + 2 * i ≤ 200 → (∀ a, (a ∈ z ∨ a ∈ u.take i) ↔ a ∈ u) → Ev (fun k => ddilaw48_UsageSums.l0 k u (threeB p) z ((i : Int) - 1) p.f0.f0 p.f0.f1 p.f0.f2 p.f1 (lowH p).f0.f0 (lowH p).f0.f1 (lowH p).f0.f2 (lowH p).f1 (upH p).f0.f0 (upH p).f0.f1 (upH p).f0.f2 (upH p).f1) true
  | 0, z, _, hz, hm => sums_tail h u z hu (by omega) ok (fun a => by rw [← hm a]; simp)
  | i + 1, z, hi, hz, hm => by
    have e1 : ((i + 1 : Nat) : Int) - 1 = (i : Int) := by omega
    have ih := sums_loop h u hu ok i (z ++ [u[i], u[i]]) (by omega) (by simp only [List.length_append, List.length_cons, List.length_nil]; omega) (fun a => by
      rw [← hm a, List.take_succ_eq_append_getElem (by omega)]
      simp only [List.mem_append, List.mem_cons, List.not_mem_nil, or_false, or_self]
      constructor
      · rintro ((x | x) | x)
        · exact .inl x
        · exact .inr (.inr x)
        · exact .inr (.inl x)
      · rintro (x | x | x)
        · exact .inl (.inl x)
        · exact .inr x
        · exact .inl (.inr x))
    refine Ev_shift 1 (fun k => ?_) ih
    rw [ddilaw48_UsageSums.l0, e1, if_pos (by omega), if_pos (by omega), if_pos (by omega), rd29 u i (by omega), wrap_id (show -9223372036854775808 ≤ (i : Int) - 1 by omega) (by omega), Option.bind_some, if_pos (show z.length + [u[i], u[i]].length < 5864062014805 by simp only [List.length_cons, List.length_nil]; omega)]
theorem usageSums : ddilaw48_UsageSums.Pure := by
  intro p0 p1 p2 p3 u hp ⟨hu, _, oku⟩
  refine Ev.rounds (?_ : Ev (fun k => ddilaw48_UsageSums.f k p0 p1 p2 p3 u) true)
  obtain ⟨t, ht, hc⟩ := halves_ev ⟨⟨p0, p1, p2⟩, p3⟩ (uA_of hp.1) (wf_i64 hp.2)
  unfold ddilaw48_UsageSums.f
  refine Ev_bind ht ?_
  have haw : ∀ a b c d a' b' c' d', Ev (fun k => ddilaw48_UsageSums.j0 k u true p0 p1 p2 p3 a b c d a' b' c' d') true := fun a b c d a' b' c' d' =>
    Ev_shift 1 (fun k => by rw [ddilaw48_UsageSums.j0, if_pos rfl]) (Ev_bind (f := fun _ t => some t) awake_ev (Ev_const rfl))
  rcases hc with hc | ⟨H, rfl⟩
  · simp only [hc, Bool.false_eq_true, if_false]
    exact haw _ _ _ _ _ _ _ _
  · simp only [if_true]
    by_cases h1 : (u.length : Int) > 100
    · rw [decide_eq_true h1]
      exact haw _ _ _ _ _ _ _ _
    · rw [decide_eq_false h1]
      have hck := check_ok (threeB ⟨⟨p0, p1, p2⟩, p3⟩) (by show (3 : Nat) ≤ _; omega) (three_tab H)
      have hlp := sums_loop H u (by omega) oku u.length [] (Nat.le_refl _) (by simp only [List.length_nil]; omega) (fun a => by rw [List.take_length]; simp)
      refine Ev_shift 1 (fun k => by rw [ddilaw48_UsageSums.j0, if_neg Bool.false_ne_true, Option.bind_some]) ?_
      refine Ev_bind hck ?_
      simp only [if_true, wrap_id (show -9223372036854775808 ≤ (u.length : Int) - 1 by omega) (by omega)]
      exact hlp
end Go.Proofs.Ytjifdgicamlikaa.Ma
namespace Go.Proofs.Ytjifdgicamlikaa.Pure
theorem UsageSums : QA.ddilaw48_UsageSums.Pure := Ma.usageSums
end Go.Proofs.Ytjifdgicamlikaa.Pure
