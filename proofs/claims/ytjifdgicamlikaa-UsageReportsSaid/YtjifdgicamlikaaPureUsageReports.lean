/- Of and All return the specified reports, for every table of at most 60 blocks, every prefix and at most 100 addresses: the pure statement of UsageReports (no condition but the sizes that every argument has). -/
import Derived.Test.YtjifdgicamlikaaQAd1
import Derived.Test.YtjifdgicamlikaaXP
import Derived.Test.YtjifdgicamlikaaXM
import Derived.Laws.Bits64
namespace Go.Proofs.Ytjifdgicamlikaa.Cm
open Go.RowKit Go.Proofs.YtjifdgicamlikaaW.PrintWords Go.Proofs.YtjifdgicamlikaaW.PrintLast Go.Proofs.YtjifdgicamlikaaW.PrintMore Go.Proofs.Ytjifdgicamlikaa.XP Go.Proofs.Ytjifdgicamlikaa.QA
set_option linter.unusedVariables false
set_option linter.unusedSimpArgs false
theorem rdAddr (l : List S29) (i : Nat) (h : i < l.length) : rd_T29 l (i : Int) = l[i] := by
  simp [rd_T29, List.getD_eq_getElem?_getD, List.getElem?_eq_getElem h]
def ea (a x : S29) : Bool := a.f0 == x.f0 && (a.f1 == x.f1 && (a.f2 == x.f2))
theorem ea_iff (a x : S29) : ea a x = true ↔ a = x := by
  obtain ⟨a0, a1, a2⟩ := a
  obtain ⟨x0, x1, x2⟩ := x
  simp [ea]
theorem ea_ne (a x : S29) : ea a x = false ↔ a ≠ x := by
  rw [← Bool.not_eq_true, ea_iff]
def cmp (a b : S29) : Int := if (a.f0 != b.f0) = true then (if b.f0 = true then -1 else 1) else (if a.f1 = b.f1 then (if a.f2 < b.f2 then -1 else (if a.f2 > b.f2 then 1 else 0)) else (if a.f1 < b.f1 then -1 else 1))
theorem rcmp (a b : S29) : ddiref02_Compare.f a.f0 a.f1 a.f2 b.f0 b.f1 b.f2 = some (cmp a b) := by
  unfold ddiref02_Compare.f cmp
  repeat' split
  all_goals first | rfl | omega
end Go.Proofs.Ytjifdgicamlikaa.Cm
namespace Go.Proofs.Ytjifdgicamlikaa.Cm
open Go.RowKit Go.Proofs.YtjifdgicamlikaaW.PrintWords Go.Proofs.YtjifdgicamlikaaW.PrintLast Go.Proofs.YtjifdgicamlikaaW.PrintMore Go.Proofs.Ytjifdgicamlikaa.XP Go.Proofs.Ytjifdgicamlikaa.QA
set_option linter.unusedVariables false
set_option linter.unusedSimpArgs false
/-! ### bits -/
theorem bv_split (A B : BitVec 64) : (A &&& ~~~B) + (A &&& B) = A := by
  rw [BitVec.add_eq_or_of_and_eq_zero]
  · apply BitVec.eq_of_getLsbD_eq
    intro i hi
    simp only [BitVec.getLsbD_or, BitVec.getLsbD_and, BitVec.getLsbD_not, hi, decide_true, Bool.true_and]
    cases A.getLsbD i <;> cases B.getLsbD i <;> rfl
  · apply BitVec.eq_of_getLsbD_eq
    intro i hi
    simp only [BitVec.getLsbD_and, BitVec.getLsbD_not, hi, decide_true, Bool.true_and, BitVec.getLsbD_zero]
    cases A.getLsbD i <;> cases B.getLsbD i <;> rfl
theorem bv_of (x : Int) (h0 : 0 ≤ x) (h1 : x < 18446744073709551616) : ((BitVec.ofInt 64 x).toNat : Int) = x := by
  obtain ⟨n, rfl⟩ := Int.eq_ofNat_of_zero_le h0
  rw [BitVec.ofInt_natCast, BitVec.toNat_ofNat]
  omega
theorem b_and (x m : Int) : Go.bits .and .u64 x m = ((BitVec.ofInt 64 x &&& BitVec.ofInt 64 m).toNat : Int) := by
  show IntKind.u64.wrap ((BitVec.ofInt 64 x &&& BitVec.ofInt 64 m).toNat : Int) = _
  have := (BitVec.ofInt 64 x &&& BitVec.ofInt 64 m).isLt
  rw [IntKind.wrap_u64]
  omega
theorem b_not (x m : Int) : Go.bits .andNot .u64 x m = ((BitVec.ofInt 64 x &&& ~~~BitVec.ofInt 64 m).toNat : Int) := by
  show IntKind.u64.wrap ((BitVec.ofInt 64 x &&& ~~~BitVec.ofInt 64 m).toNat : Int) = _
  have := (BitVec.ofInt 64 x &&& ~~~BitVec.ofInt 64 m).isLt
  rw [IntKind.wrap_u64]
  omega
theorem andnot_sub (x m : Int) (h0 : 0 ≤ x) (h1 : x < 18446744073709551616) : IntKind.u64.wrap (x - Go.bits .and .u64 x m) = Go.bits .andNot .u64 x m := by
  rw [b_and, b_not, IntKind.wrap_u64]
  have hx := bv_of x h0 h1
  generalize BitVec.ofInt 64 x = A at hx
  generalize BitVec.ofInt 64 m = B
  have h := congrArg BitVec.toNat (bv_split A B)
  rw [BitVec.toNat_add] at h
  have c1 : (A &&& B).toNat ≤ A.toNat := by rw [BitVec.toNat_and]; exact Nat.and_le_left
  have c2 : (A &&& ~~~B).toNat ≤ A.toNat := by rw [BitVec.toNat_and]; exact Nat.and_le_left
  omega
/-! ### masks -/
def mHi (m : Nat) : Int := ((2 ^ (m - 64) - 1 : Nat) : Int)
def mLo (m : Nat) : Int := ((2 ^ (min m 64) - 1 : Nat) : Int)
def lenV (b : Bool) : Int := if b = true then 128 else 32
theorem later6 : ∀ n : Fin 129, prefix_later.f true ((n.val : Nat) : Int) = some (mHi (128 - n.val), mLo (128 - n.val)) := by decide +kernel
theorem later4 : ∀ n : Fin 33, prefix_later.f false ((n.val : Nat) : Int) = some (mHi (32 - n.val), mLo (32 - n.val)) := by decide +kernel
theorem ones_all : ∀ m : Fin 129, ddiref03_ones.f 300 ((m.val : Nat) : Int) = some (mHi m.val, mLo m.val) := by decide +kernel
theorem lenV_le (b : Bool) : 32 ≤ lenV b ∧ lenV b ≤ 128 := by
  cases b <;> simp [lenV]
theorem later_v (b : Bool) (n : Int) (h0 : 0 ≤ n) (h1 : n ≤ lenV b) : prefix_later.f b n = some (mHi (lenV b - n).toNat, mLo (lenV b - n).toNat) := by
  obtain ⟨j, rfl⟩ := Int.eq_ofNat_of_zero_le h0
  cases b with
  | true =>
    have h2 : lenV true = 128 := rfl
    rw [h2] at h1 ⊢
    have h := later6 ⟨j, by omega⟩
    simp only at h
    rw [h, show ((128 : Int) - (j : Int)).toNat = 128 - j by omega]
  | false =>
    have h2 : lenV false = 32 := rfl
    rw [h2] at h1 ⊢
    have h := later4 ⟨j, by omega⟩
    simp only at h
    rw [h, show ((32 : Int) - (j : Int)).toNat = 32 - j by omega]
theorem ones_ev (b : Bool) (n : Int) (h0 : 0 ≤ n) (h1 : n ≤ lenV b) : Ev (fun k => ddiref03_ones.f k (wrap64 (lenV b - n))) (mHi (lenV b - n).toNat, mLo (lenV b - n).toNat) := by
  have hl := lenV_le b
  rw [wrap_id (by omega) (by omega)]
  obtain ⟨j, hj⟩ := Int.eq_ofNat_of_zero_le (show 0 ≤ lenV b - n by omega)
  rw [hj, Int.toNat_natCast]
  have h := ones_all ⟨j, by omega⟩
  exact ⟨300, fun k hk => at_rounds (g := fun k => ddiref03_ones.f k (j : Int)) (ddiref03_ones.mono (j : Int)) hk h⟩
theorem long_v (b : Bool) : ddiref03_Long.f b = some (lenV b) := by cases b <;> rfl
theorem length_v (a : S29) : prefix_length.f a.f0 a.f1 a.f2 = some (lenV a.f0) := by
  unfold prefix_length.f
  cases a.f0 <;> rfl
/-! ### addresses -/
def adB (x : S29) : Bool := x.f0 || (decide (x.f1 = 0) && decide (x.f2 ≤ 4294967295))
theorem ad_v (x : S29) : addr_Valid.f x.f0 x.f1 x.f2 = some (adB x) := by
  unfold addr_Valid.f adB
  cases h : x.f0 with
  | true => rfl
  | false =>
    simp only [Bool.false_eq_true, if_false, Bool.false_or]
    by_cases h1 : x.f1 = 0
    · simp [h1]
    · simp [h1]
theorem rad_v (x : S29) : ddiref02_Valid.f x.f0 x.f1 x.f2 = some (adB x) := by
  unfold ddiref02_Valid.f adB
  cases h : x.f0 with
  | true => rfl
  | false =>
    simp only [Bool.false_eq_true, if_false, Bool.false_or]
    by_cases h1 : x.f1 = 0
    · simp [h1]
      omega
    · simp [h1]
/-! ### Valid -/
def mkH (a : S29) (n : Int) : Int := mHi (lenV a.f0 - n).toNat
def mkL (a : S29) (n : Int) : Int := mLo (lenV a.f0 - n).toNat
def inB (a : S29) (n : Int) : Bool := adB a && (decide (0 ≤ n) && decide (n ≤ lenV a.f0))
def pvB (p : S31) : Bool := inB p.f0 p.f1 && (decide (Go.bits .and .u64 p.f0.f1 (mkH p.f0 p.f1) = 0) && (Go.bits .and .u64 p.f0.f2 (mkL p.f0 p.f1) == 0))
theorem inB_iff (a : S29) (n : Int) : inB a n = true ↔ adB a = true ∧ 0 ≤ n ∧ n ≤ lenV a.f0 := by
  simp [inB]
theorem pv_in {p : S31} (h : pvB p = true) : adB p.f0 = true ∧ 0 ≤ p.f1 ∧ p.f1 ≤ lenV p.f0.f0 := by
  rw [pvB, Bool.and_eq_true] at h
  exact (inB_iff _ _).1 h.1
theorem pv_j (p : S31) (b : Bool) (hb : b = !inB p.f0 p.f1) : Ev (fun k => prefix_Valid.j0 k b p.f0.f0 p.f0.f1 p.f0.f2 p.f1) (pvB p) := by
  unfold pvB
  cases hi : inB p.f0 p.f1 with
  | false =>
    rw [hi] at hb
    subst hb
    refine Ev_shift 1 (f := fun _ => some false) (fun k => ?_) (Ev_const rfl)
    rw [prefix_Valid.j0]
    rfl
  | true =>
    rw [hi] at hb
    subst hb
    obtain ⟨_, h0, h1⟩ := (inB_iff _ _).1 hi
    refine Ev_shift 1 (f := fun _ => some (decide (Go.bits .and .u64 p.f0.f1 (mkH p.f0 p.f1) = 0) && (Go.bits .and .u64 p.f0.f2 (mkL p.f0 p.f1) == 0))) (fun k => ?_) (Ev_const rfl)
    rw [prefix_Valid.j0, if_neg (by decide), later_v p.f0.f0 p.f1 h0 h1]
    simp only [Option.bind_some]
    show (if Go.bits .and .u64 p.f0.f1 (mkH p.f0 p.f1) = 0 then _ else _) = _
    by_cases h : Go.bits .and .u64 p.f0.f1 (mkH p.f0 p.f1) = 0
    · rw [if_pos h, decide_eq_true h]; rfl
    · rw [if_neg h, decide_eq_false h]; rfl
theorem valid_pfx (p : S31) : Ev (fun k => prefix_Valid.f k p.f0.f0 p.f0.f1 p.f0.f2 p.f1) (pvB p) := by
  unfold prefix_Valid.f
  simp only [ad_v, Option.bind_some, length_v]
  cases ha : adB p.f0 with
  | false =>
    simp only [Bool.false_eq_true, if_false]
    exact pv_j p true (by simp [inB, ha])
  | true =>
    simp only [if_true]
    by_cases h0 : p.f1 < 0
    · simp only [if_pos h0]
      exact pv_j p true (by simp [inB, ha]; omega)
    · simp only [if_neg h0]
      refine pv_j p _ ?_
      by_cases h1 : p.f1 ≤ lenV p.f0.f0
      · rw [decide_eq_false (by omega)]; simp [inB, ha, h1]; omega
      · rw [decide_eq_true (by omega)]; simp [inB, ha, h1]
theorem rpv_j (p : S31) (b : Bool) (hb : b = !inB p.f0 p.f1) : Ev (fun k => ddiref03_Valid.j0 k b p.f0.f0 p.f0.f1 p.f0.f2 p.f1) (pvB p) := by
  unfold pvB
  cases hi : inB p.f0 p.f1 with
  | false =>
    rw [hi] at hb
    subst hb
    refine Ev_shift 1 (f := fun _ => some false) (fun k => ?_) (Ev_const rfl)
    rw [ddiref03_Valid.j0]
    rfl
  | true =>
    rw [hi] at hb
    subst hb
    obtain ⟨_, h0, h1⟩ := (inB_iff _ _).1 hi
    refine Ev_shift 1 (fun k => by rw [ddiref03_Valid.j0, if_neg (by decide), long_v, Option.bind_some]) ?_
    refine Ev.bind (ones_ev p.f0.f0 p.f1 h0 h1) ?_
    show Ev (fun n => if Go.bits .and .u64 p.f0.f1 (mkH p.f0 p.f1) = 0 then _ else _) _
    by_cases h : Go.bits .and .u64 p.f0.f1 (mkH p.f0 p.f1) = 0
    · simp only [if_pos h, decide_eq_true h]
      exact Ev_const rfl
    · simp only [if_neg h, decide_eq_false h]
      exact Ev_const rfl
theorem rvalid_pfx (p : S31) : Ev (fun k => ddiref03_Valid.f k p.f0.f0 p.f0.f1 p.f0.f2 p.f1) (pvB p) := by
  unfold ddiref03_Valid.f
  simp only [rad_v, Option.bind_some, long_v]
  cases ha : adB p.f0 with
  | false =>
    simp only [Bool.false_eq_true, if_false]
    exact rpv_j p true (by simp [inB, ha])
  | true =>
    simp only [if_true]
    by_cases h0 : p.f1 < 0
    · simp only [if_pos h0]
      exact rpv_j p true (by simp [inB, ha]; omega)
    · simp only [if_neg h0]
      refine rpv_j p _ ?_
      by_cases h1 : p.f1 ≤ lenV p.f0.f0
      · rw [decide_eq_false (by omega)]; simp [inB, ha, h1]; omega
      · rw [decide_eq_true (by omega)]; simp [inB, ha, h1]
/-! ### Of -/
def zPfx : S31 := ⟨⟨false, 0, 0⟩, 0⟩
def ofV (a : S29) (n : Int) : S31 := if inB a n = true then ⟨⟨a.f0, Go.bits .andNot .u64 a.f1 (mkH a n), Go.bits .andNot .u64 a.f2 (mkL a n)⟩, n⟩ else zPfx
def tPfx (p : S31) (b : Bool) : Bool × Int × Int × Int × Bool := (p.f0.f0, p.f0.f1, p.f0.f2, p.f1, b)
theorem of_j (a : S29) (n : Int) (b : Bool) (hb : b = !inB a n) : Ev (fun k => prefix_Of.j0 k n b a.f0 a.f1 a.f2) (tPfx (ofV a n) (inB a n)) := by
  unfold ofV
  cases hi : inB a n with
  | false =>
    rw [hi] at hb
    subst hb
    refine Ev_shift 1 (f := fun _ => some (tPfx zPfx false)) (fun k => ?_) (Ev_const rfl)
    rw [prefix_Of.j0]
    rfl
  | true =>
    rw [hi] at hb
    subst hb
    obtain ⟨_, h0, h1⟩ := (inB_iff _ _).1 hi
    refine Ev_shift 1 (f := fun _ => some (tPfx ⟨⟨a.f0, Go.bits .andNot .u64 a.f1 (mkH a n), Go.bits .andNot .u64 a.f2 (mkL a n)⟩, n⟩ true)) (fun k => ?_) (Ev_const rfl)
    rw [prefix_Of.j0, if_neg (by decide), later_v a.f0 n h0 h1]
    rfl
theorem of_pfx (a : S29) (n : Int) : Ev (fun k => prefix_Of.f k a.f0 a.f1 a.f2 n) (tPfx (ofV a n) (inB a n)) := by
  unfold prefix_Of.f
  simp only [ad_v, Option.bind_some, length_v]
  cases ha : adB a with
  | false =>
    simp only [Bool.false_eq_true, if_false]
    exact of_j a n true (by simp [inB, ha])
  | true =>
    simp only [if_true]
    by_cases h0 : n < 0
    · simp only [if_pos h0]
      exact of_j a n true (by simp [inB, ha]; omega)
    · simp only [if_neg h0]
      refine of_j a n _ ?_
      by_cases h1 : n ≤ lenV a.f0
      · rw [decide_eq_false (by omega)]; simp [inB, ha, h1]; omega
      · rw [decide_eq_true (by omega)]; simp [inB, ha, h1]
def uA (a : S29) : Prop := (0 ≤ a.f1 ∧ a.f1 < 18446744073709551616) ∧ (0 ≤ a.f2 ∧ a.f2 < 18446744073709551616)
theorem uA_of {a : S29} (h : okS29 a) : uA a := by
  obtain ⟨_, h1, h2⟩ := h
  have g1 := wf_u64 h1
  have g2 := wf_u64 h2
  exact ⟨⟨g1.1, by omega⟩, ⟨g2.1, by omega⟩⟩
theorem rof_j (a : S29) (ok : uA a) (n : Int) (b : Bool) (hb : b = !inB a n) : Ev (fun k => ddiref03_Of.j0 k n b a.f0 a.f1 a.f2) (tPfx (ofV a n) (inB a n)) := by
  unfold ofV
  cases hi : inB a n with
  | false =>
    rw [hi] at hb
    subst hb
    refine Ev_shift 1 (f := fun _ => some (tPfx zPfx false)) (fun k => ?_) (Ev_const rfl)
    rw [ddiref03_Of.j0]
    rfl
  | true =>
    rw [hi] at hb
    subst hb
    obtain ⟨_, h0, h1⟩ := (inB_iff _ _).1 hi
    refine Ev_shift 1 (fun k => by rw [ddiref03_Of.j0, if_neg (by decide), long_v, Option.bind_some]) ?_
    refine Ev.bind (ones_ev a.f0 n h0 h1) (Ev_const ?_)
    show some (a.f0, IntKind.u64.wrap (a.f1 - Go.bits .and .u64 a.f1 (mkH a n)), IntKind.u64.wrap (a.f2 - Go.bits .and .u64 a.f2 (mkL a n)), n, true) = _
    rw [andnot_sub _ _ ok.1.1 ok.1.2, andnot_sub _ _ ok.2.1 ok.2.2]
    rfl
theorem rof_pfx (a : S29) (ok : uA a) (n : Int) : Ev (fun k => ddiref03_Of.f k a.f0 a.f1 a.f2 n) (tPfx (ofV a n) (inB a n)) := by
  unfold ddiref03_Of.f
  simp only [rad_v, Option.bind_some, long_v]
  cases ha : adB a with
  | false =>
    simp only [Bool.false_eq_true, if_false]
    exact rof_j a ok n true (by simp [inB, ha])
  | true =>
    simp only [if_true]
    by_cases h0 : n < 0
    · simp only [if_pos h0]
      exact rof_j a ok n true (by simp [inB, ha]; omega)
    · simp only [if_neg h0]
      refine rof_j a ok n _ ?_
      by_cases h1 : n ≤ lenV a.f0
      · rw [decide_eq_false (by omega)]; simp [inB, ha, h1]; omega
      · rw [decide_eq_true (by omega)]; simp [inB, ha, h1]
/-! ### Contains, Within, Overlap -/
def eqPfx (x p : S31) : Bool := (x.f0.f0 == p.f0.f0 && (x.f0.f1 == p.f0.f1 && (x.f0.f2 == p.f0.f2))) && (x.f1 == p.f1)
def pcB (p : S31) (a : S29) : Bool := pvB p && ((p.f0.f0 == a.f0) && (inB a p.f1 && eqPfx (ofV a p.f1) p))
theorem con_j (p : S31) (a : S29) (b : Bool) (hb : b = !(pvB p && (p.f0.f0 == a.f0))) : Ev (fun k => prefix_Contains.j0 k b p.f0.f0 p.f0.f1 p.f0.f2 p.f1 a.f0 a.f1 a.f2) (pcB p a) := by
  unfold pcB
  rw [← Bool.and_assoc]
  cases hi : (pvB p && (p.f0.f0 == a.f0)) with
  | false =>
    rw [hi] at hb
    subst hb
    refine Ev_shift 1 (f := fun _ => some false) (fun k => ?_) (Ev_const rfl)
    rw [prefix_Contains.j0]
    rfl
  | true =>
    rw [hi] at hb
    subst hb
    refine Ev_shift 1 (fun k => by rw [prefix_Contains.j0, if_neg (by decide)]) ?_
    refine Ev.bind (of_pfx a p.f1) ?_
    show Ev (fun n => if inB a p.f1 = true then some (eqPfx (ofV a p.f1) p) else some false) _
    cases inB a p.f1 with
    | true => exact Ev_const rfl
    | false => exact Ev_const rfl
theorem contains_pfx (p : S31) (a : S29) : Ev (fun k => prefix_Contains.f k p.f0.f0 p.f0.f1 p.f0.f2 p.f1 a.f0 a.f1 a.f2) (pcB p a) := by
  unfold prefix_Contains.f
  refine Ev.bind (valid_pfx p) ?_
  cases hv : pvB p with
  | true =>
    simp only [if_true]
    exact con_j p a _ (by rw [hv]; rfl)
  | false =>
    simp only [Bool.false_eq_true, if_false]
    exact con_j p a _ (by rw [hv]; rfl)
theorem rcon_j (p : S31) (a : S29) (ok : uA a) (b : Bool) (hb : b = !((pvB p && adB a) && (p.f0.f0 == a.f0))) : Ev (fun k => ddiref03_Contains.j0 k b p.f0.f0 p.f0.f1 p.f0.f2 p.f1 a.f0 a.f1 a.f2) (pcB p a) := by
  have hE : pcB p a = (((pvB p && adB a) && (p.f0.f0 == a.f0)) && eqPfx (ofV a p.f1) p) := by
    unfold pcB
    cases hv : pvB p with
    | false => rfl
    | true =>
      obtain ⟨_, h0, h1⟩ := pv_in hv
      by_cases he : p.f0.f0 = a.f0
      · rw [he] at h1
        simp [inB, he, h0, h1]
      · have : (p.f0.f0 == a.f0) = false := by simpa using he
        rw [this]
        simp
  rw [hE]
  cases hi : ((pvB p && adB a) && (p.f0.f0 == a.f0)) with
  | false =>
    rw [hi] at hb
    subst hb
    refine Ev_shift 1 (f := fun _ => some false) (fun k => ?_) (Ev_const rfl)
    rw [ddiref03_Contains.j0]
    rfl
  | true =>
    rw [hi] at hb
    subst hb
    refine Ev_shift 1 (fun k => by rw [ddiref03_Contains.j0, if_neg (by decide)]) ?_
    refine Ev.bind (rof_pfx a ok p.f1) ?_
    exact Ev_const rfl
theorem rcontains_pfx (p : S31) (a : S29) (ok : uA a) : Ev (fun k => ddiref03_Contains.f k p.f0.f0 p.f0.f1 p.f0.f2 p.f1 a.f0 a.f1 a.f2) (pcB p a) := by
  unfold ddiref03_Contains.f
  refine Ev.bind (rvalid_pfx p) ?_
  cases hv : pvB p with
  | true =>
    simp only [if_true, rad_v, Option.bind_some]
    cases ha : adB a with
    | true =>
      simp only [if_true]
      exact rcon_j p a ok _ (by rw [hv, ha]; rfl)
    | false =>
      simp only [Bool.false_eq_true, if_false]
      exact rcon_j p a ok _ (by rw [hv, ha]; rfl)
  | false =>
    simp only [Bool.false_eq_true, if_false]
    exact rcon_j p a ok _ (by rw [hv]; rfl)
def pwB (p q : S31) : Bool := pvB p && (decide (q.f1 ≤ p.f1) && pcB q p.f0)
theorem rwithin_pfx (p q : S31) (ok : uA p.f0) : Ev (fun k => ddiref03_Within.f k p.f0.f0 p.f0.f1 p.f0.f2 p.f1 q.f0.f0 q.f0.f1 q.f0.f2 q.f1) (pwB p q) := by
  unfold ddiref03_Within.f pwB
  refine Ev.bind (rvalid_pfx p) ?_
  cases hv : pvB p with
  | false =>
    simp only [Bool.false_eq_true, if_false]
    exact Ev_const rfl
  | true =>
    simp only [if_true, Bool.true_and]
    by_cases h : p.f1 ≥ q.f1
    · simp only [if_pos h, decide_eq_true (show q.f1 ≤ p.f1 from h), Bool.true_and]
      exact Ev.bind (rcontains_pfx q p.f0 ok) (Ev_const rfl)
    · simp only [if_neg h, decide_eq_false (show ¬ q.f1 ≤ p.f1 from h), Bool.false_and]
      exact Ev_const rfl
end Go.Proofs.Ytjifdgicamlikaa.Cm
namespace Go.Proofs.Ytjifdgicamlikaa.Ma
open Go.RowKit Go.Proofs.YtjifdgicamlikaaW.PrintWords Go.Proofs.YtjifdgicamlikaaW.PrintLast Go.Proofs.YtjifdgicamlikaaW.PrintMore Go.Proofs.Ytjifdgicamlikaa.XP Go.Proofs.Ytjifdgicamlikaa.QA
set_option linter.unusedVariables false
set_option linter.unusedSimpArgs false
/-! ### equal lists of prefixes -/
/-! ### the examples -/
theorem awake_k : ddilaw48_awake.f 400 = some true := by decide +kernel
theorem awake_ev : Ev (fun k => ddilaw48_awake.f k) true := ⟨400, fun k hk => at_rounds (g := fun k => ddilaw48_awake.f k) ddilaw48_awake.mono hk awake_k⟩
end Go.Proofs.Ytjifdgicamlikaa.Ma
namespace Go.Proofs.Ytjifdgicamlikaa.Ma
open Go.RowKit Go.Proofs.YtjifdgicamlikaaW.PrintWords Go.Proofs.YtjifdgicamlikaaW.PrintLast Go.Proofs.YtjifdgicamlikaaW.PrintMore Go.Proofs.Ytjifdgicamlikaa.XP Go.Proofs.Ytjifdgicamlikaa.QA Go.Proofs.Ytjifdgicamlikaa.Cm
set_option linter.unusedVariables false
set_option linter.unusedSimpArgs false
/-! ### Size -/
def szV (p : S31) : Int × Bool := if pvB p = true then (if lenV p.f0.f0 - p.f1 ≥ 64 then (0, false) else (((2 ^ (lenV p.f0.f0 - p.f1).toNat : Nat) : Int), true)) else (0, false)
theorem shl_pow : ∀ m : Fin 64, shl .u64 1 ((m.val : Nat) : Int) = ((2 ^ m.val : Nat) : Int) := by decide +kernel
theorem mlo_pow : ∀ m : Fin 64, IntKind.u64.wrap (mLo m.val + 1) = ((2 ^ m.val : Nat) : Int) := by decide +kernel
theorem size_pfx (p : S31) : Ev (fun k => prefix_Size.f k p.f0.f0 p.f0.f1 p.f0.f2 p.f1) (szV p) := by
  unfold prefix_Size.f szV
  refine Ev_bind (valid_pfx p) ?_
  by_cases hv : pvB p = true
  · obtain ⟨_, h0, h1⟩ := pv_in hv
    have hl := lenV_le p.f0.f0
    simp only [hv, if_true, length_v, Option.bind_some]
    rw [wrap_id (by omega) (by omega)]
    by_cases h : lenV p.f0.f0 - p.f1 ≥ 64
    · simp only [if_pos h]
      exact Ev_const rfl
    · simp only [if_neg h]
      obtain ⟨j, hj⟩ := Int.eq_ofNat_of_zero_le (show 0 ≤ lenV p.f0.f0 - p.f1 by omega)
      rw [hj]
      have hw : IntKind.u64.wrap (j : Int) = (j : Int) := by rw [IntKind.wrap_u64]; omega
      rw [hw, if_pos (by omega), shl_pow ⟨j, by omega⟩, Int.toNat_natCast]
      exact Ev_const rfl
  · simp only [hv, Bool.false_eq_true, if_false]
    exact Ev_const rfl
theorem rsize_pfx (p : S31) : Ev (fun k => ddiref03_Size.f k p.f0.f0 p.f0.f1 p.f0.f2 p.f1) (szV p) := by
  unfold ddiref03_Size.f szV
  refine Ev_bind (rvalid_pfx p) ?_
  by_cases hv : pvB p = true
  · obtain ⟨_, h0, h1⟩ := pv_in hv
    have hl := lenV_le p.f0.f0
    simp only [hv, if_true, long_v, Option.bind_some]
    have hwr : wrap64 (lenV p.f0.f0 - p.f1) = lenV p.f0.f0 - p.f1 := wrap_id (by omega) (by omega)
    by_cases h : lenV p.f0.f0 - p.f1 ≥ 64
    · simp only [if_pos h]
      refine Ev_shift 1 (f := fun _ => some (0, false)) (fun k => ?_) (Ev_const rfl)
      rw [hwr, decide_eq_true (show lenV p.f0.f0 - p.f1 > 63 by omega), ddiref03_Size.j0, if_pos rfl]
    · simp only [if_neg h]
      refine Ev_shift 1 (f := fun k => (ddiref03_ones.f k (wrap64 (lenV p.f0.f0 - p.f1))).bind fun bt385 => (some (IntKind.u64.wrap (bt385.2 + 1), true))) (fun k => ?_) ?_
      · rw [decide_eq_false (show ¬ wrap64 (lenV p.f0.f0 - p.f1) > 63 by rw [hwr]; omega), ddiref03_Size.j0, if_neg Bool.false_ne_true, long_v, Option.bind_some]
      · refine Ev_bind (ones_ev p.f0.f0 p.f1 h0 h1) ?_
        obtain ⟨j, hj⟩ := Int.eq_ofNat_of_zero_le (show 0 ≤ lenV p.f0.f0 - p.f1 by omega)
        simp only [hj, Int.toNat_natCast]
        rw [mlo_pow ⟨j, by omega⟩]
        exact Ev_const rfl
  · simp only [hv, Bool.false_eq_true, if_false]
    refine Ev_shift 1 (f := fun _ => some (0, false)) (fun k => ?_) (Ev_const rfl)
    rw [ddiref03_Size.j0, if_pos rfl]
/-! ### the set of the addresses -/
def tri (a : S29) : Bool × Int × Int := (a.f0, a.f1, a.f2)
theorem tri_inj {a b : S29} (h : tri a = tri b) : a = b := by
  cases a; cases b
  simp only [tri, Prod.mk.injEq] at h
  obtain ⟨rfl, rfl, rfl⟩ := h
  rfl
def cB (p : S31) (x : Bool × Int × Int) : Bool := pcB p ⟨x.1, x.2.1, x.2.2⟩
theorem cB_tri (p : S31) (a : S29) : cB p (tri a) = pcB p a := rfl
theorem mem_put {S : List (Bool × Int × Int)} {x y : Bool × Int × Int} : x ∈ XM.put S y ↔ x ∈ S ∨ x = y := by
  unfold XM.put
  split
  · rename_i h
    have hy : y ∈ S := by simpa using h
    constructor
    · exact .inl
    · rintro (h | rfl)
      · exact h
      · exact hy
  · simp
theorem mem_fold {x : Bool × Int × Int} : ∀ (l : List S29) (S : List (Bool × Int × Int)), x ∈ l.foldl (fun S a => XM.put S (a.f0, a.f1, a.f2)) S ↔ x ∈ S ∨ ∃ a ∈ l, tri a = x
  | [], S => by simp
  | a :: r, S => by
    rw [List.foldl_cons, mem_fold r, mem_put]
    constructor
    · rintro ((h | rfl) | ⟨b, hb, rfl⟩)
      · exact .inl h
      · exact .inr ⟨a, List.mem_cons_self, rfl⟩
      · exact .inr ⟨b, List.mem_cons_of_mem _ hb, rfl⟩
    · rintro (h | ⟨b, hb, rfl⟩)
      · exact .inl (.inl h)
      · rcases List.mem_cons.1 hb with rfl | hb
        · exact .inl (.inr rfl)
        · exact .inr ⟨b, hb, rfl⟩
theorem mem_j0 {x : Bool × Int × Int} (l : List S29) : x ∈ usage_report.j0 l ↔ ∃ a ∈ l, tri a = x := by
  unfold usage_report.j0
  rw [mem_fold]
  simp
theorem j0_snoc (l : List S29) (a : S29) : usage_report.j0 (l ++ [a]) = XM.put (usage_report.j0 l) (tri a) := by
  unfold usage_report.j0
  rw [List.foldl_append]
  rfl
theorem drop_ev (p : S31) : ∀ (l : List S29) (S : List (Bool × Int × Int)), Ev (fun k => usage_report.l0 k p.f0.f0 p.f0.f1 p.f0.f2 p.f1 l S) (S.filter (fun x => cB p x || !(l.map tri).contains x))
  | [], S => by
    refine Ev_of_eq (fun k => ?_)
    rw [usage_report.l0, List.filter_eq_self.2 (fun x _ => by simp)]
  | a :: r, S => by
    have ih := drop_ev p r (if pcB p a = true then S else XM.del S (a.f0, a.f1, a.f2))
    have e : (if pcB p a = true then S else XM.del S (a.f0, a.f1, a.f2)).filter (fun x => cB p x || !(r.map tri).contains x) = S.filter (fun x => cB p x || !((a :: r).map tri).contains x) := by
      by_cases h : pcB p a = true
      · rw [if_pos h]
        refine List.filter_congr (fun x _ => ?_)
        rw [List.map_cons, List.contains_cons]
        by_cases hx : x = tri a
        · subst hx
          rw [cB_tri, h]; rfl
        · have : (x == tri a) = false := by simpa using hx
          rw [this, Bool.false_or]
      · rw [if_neg h, XM.del, List.filter_filter]
        refine List.filter_congr (fun x _ => ?_)
        rw [List.map_cons, List.contains_cons]
        by_cases hx : x = tri a
        · subst hx
          have h' : pcB p a = false := by simpa using h
          rw [cB_tri, h']
          simp [tri]
        · have h1 : (x == tri a) = false := by simpa using hx
          have h2 : (x == (a.f0, a.f1, a.f2)) = false := h1
          rw [h1, h2]
          simp
    rw [e] at ih
    exact Ev_bind (contains_pfx p a) ih
/-! ### reports -/
def cnt (p : S31) (l : List S29) : Nat := ((usage_report.j0 l).filter (cB p)).length
def totV (p : S31) : Int := if (szV p).2 = true then (szV p).1 else 18446744073709551615
def milV (n t : Int) : Int := if (Int.tmod (IntKind.u64.wrap (1000 * n)) t) > 0 then wrap64 (IntKind.u64.wrap ((IntKind.u64.wrap (Int.tdiv (IntKind.u64.wrap (1000 * n)) t)) + 1)) else wrap64 (IntKind.u64.wrap (Int.tdiv (IntKind.u64.wrap (1000 * n)) t))
def repV (p : S31) (n : Int) : Bool × Int × Int × Int × Int × Int × Int := (p.f0.f0, p.f0.f1, p.f0.f2, p.f1, n, totV p, milV n (totV p))
theorem totV_pos (p : S31) : totV p ≠ 0 := by
  unfold totV szV
  by_cases hv : pvB p = true
  · rw [if_pos hv]
    by_cases h64 : lenV p.f0.f0 - p.f1 ≥ 64
    · rw [if_pos h64]
      decide
    · rw [if_neg h64]
      have := Nat.two_pow_pos (lenV p.f0.f0 - p.f1).toNat
      show ((2 ^ (lenV p.f0.f0 - p.f1).toNat : Nat) : Int) ≠ 0
      omega
  · rw [if_neg hv]
    decide
theorem ok_tri {a : S29} (h : okS29 a) : XM.ok (a.f0, a.f1, a.f2) = true := by
  obtain ⟨h1, h2⟩ := h.2
  unfold XM.ok
  rw [h1, h2]
  rfl
theorem report_ev (p : S31) (l : List S29) (hl : l.length * 24 ≤ 140737488351232) (ok : ∀ a ∈ l, okS29 a) : Ev (fun k => usage_report.f k p.f0.f0 p.f0.f1 p.f0.f2 p.f1 l) (repV p (cnt p l)) := by
  unfold usage_report.f
  have h1 : (l.all fun a => XM.ok (a.f0, a.f1, a.f2)) = true := List.all_eq_true.2 (fun a ha => ok_tri (ok a ha))
  simp only [h1, if_true, if_pos (show l.length * 24 ≤ 140737488355328 by omega)]
  refine Ev_bind (drop_ev p l (usage_report.j0 l)) ?_
  have e : (usage_report.j0 l).filter (fun x => cB p x || !(l.map tri).contains x) = (usage_report.j0 l).filter (cB p) := by
    refine List.filter_congr (fun x hx => ?_)
    obtain ⟨a, ha, rfl⟩ := (mem_j0 l).1 hx
    have : (l.map tri).contains (tri a) = true := by simpa using ⟨a, ha, rfl⟩
    rw [this]; simp
  rw [e]
  refine Ev_bind (size_pfx p) ?_
  have hj : usage_report.j1 ((cnt p l : Nat) : Int) (totV p) = some ((cnt p l : Int), totV p, milV (cnt p l) (totV p)) := by
    unfold usage_report.j1 milV
    rw [if_neg (totV_pos p)]
    split <;> rfl
  refine Ev_of_eq (fun k => ?_)
  show (usage_report.j1 ((cnt p l : Nat) : Int) (totV p)).bind _ = _
  rw [hj]
  rfl
end Go.Proofs.Ytjifdgicamlikaa.Ma
namespace Go.Proofs.Ytjifdgicamlikaa.Ma
open Go.RowKit Go.Proofs.YtjifdgicamlikaaW.PrintWords Go.Proofs.YtjifdgicamlikaaW.PrintLast Go.Proofs.YtjifdgicamlikaaW.PrintMore Go.Proofs.Ytjifdgicamlikaa.XP Go.Proofs.Ytjifdgicamlikaa.QA Go.Proofs.Ytjifdgicamlikaa.Cm
set_option linter.unusedVariables false
set_option linter.unusedSimpArgs false
instance decAddr : DecidableEq S29 := fun a b => if h : ea a b = true then isTrue ((ea_iff a b).1 h) else isFalse (fun e => h ((ea_iff a b).2 e))
theorem rd29 (l : List S29) (i : Nat) (h : i < l.length) : rd_T29 l (i : Int) = l[i] := rdAddr l i h
theorem before_from (l : List S29) (hl : l.length ≤ 140737488351232) (i : Nat) (hi : i < l.length) : ∀ (d j : Nat), i - j ≤ d → j ≤ i → Ev (fun k => ddiref48_before.l0 k l (i : Int) (j : Int)) (((l.take i).drop j).contains l[i])
  | d, j, hd, hj => by
    by_cases h : j < i
    · cases d with
      | zero => exact absurd hd (by omega)
      | succ d =>
        have ih := before_from l hl i hi d (j + 1) (by omega) (by omega)
        have hjl : j < (l.take i).length := by rw [List.length_take]; omega
        have hx : (l.take i)[j] = l[j]'(by omega) := List.getElem_take
        rw [List.drop_eq_getElem_cons hjl, hx, List.contains_cons]
        by_cases he : l[j]'(by omega) = l[i]
        · have : (l[i] == l[j]'(by omega)) = true := by rw [he]; simp
          rw [this, Bool.true_or]
          refine Ev_shift 1 (f := fun _ => some true) (fun k => ?_) (Ev_const rfl)
          rw [ddiref48_before.l0, if_pos (by omega), if_pos (by omega), if_pos (by omega), if_pos (by omega), if_pos (by omega), rd29 l j (by omega), rd29 l i hi, if_pos (by rw [he]; simp)]
        · have hne : (l[i] == l[j]'(by omega)) = false := by simpa using fun h => he h.symm
          rw [hne, Bool.false_or]
          refine Ev_shift 1 (fun k => ?_) ih
          have hea : ((l[j]'(by omega)).f0 == l[i].f0 && ((l[j]'(by omega)).f1 == l[i].f1 && ((l[j]'(by omega)).f2 == l[i].f2))) = false := (ea_ne _ _).2 he
          rw [ddiref48_before.l0, if_pos (by omega), if_pos (by omega), if_pos (by omega), if_pos (by omega), if_pos (by omega), rd29 l j (by omega), rd29 l i hi, hea, if_neg Bool.false_ne_true, next j i h (by omega)]
    · have e : (l.take i).drop j = [] := List.drop_eq_nil_of_le (by rw [List.length_take]; omega)
      rw [e]
      refine Ev_shift 1 (f := fun _ => some false) (fun k => ?_) (Ev_const rfl)
      rw [ddiref48_before.l0, if_neg (by omega)]
theorem before_ev (l : List S29) (hl : l.length ≤ 140737488351232) (i : Nat) (hi : i < l.length) : Ev (fun k => ddiref48_before.f k l (i : Int)) ((l.take i).contains l[i]) := by
  unfold ddiref48_before.f
  have := before_from l hl i hi i 0 (by omega) (Nat.zero_le _)
  rwa [List.drop_zero] at this
/-- One more address. -/
theorem cnt_snoc (p : S31) (l : List S29) (a : S29) : cnt p (l ++ [a]) = cnt p l + if pcB p a = true ∧ l.contains a = false then 1 else 0 := by
  unfold cnt
  rw [j0_snoc]
  have hc : (usage_report.j0 l).contains (tri a) = l.contains a := by
    rw [Bool.eq_iff_iff, List.contains_iff_mem, List.contains_iff_mem, mem_j0]
    constructor
    · rintro ⟨b, hb, e⟩
      rw [← tri_inj e]
      exact hb
    · exact fun h => ⟨a, h, rfl⟩
  unfold XM.put
  rw [hc]
  by_cases h : l.contains a = true
  · rw [if_pos h, if_neg (by rw [h]; simp)]
    rfl
  · have h' : l.contains a = false := by simpa using h
    rw [if_neg h, List.filter_append, List.length_append, h']
    by_cases hp : pcB p a = true
    · rw [if_pos ⟨hp, rfl⟩]
      simp [cB_tri, hp]
    · rw [if_neg (fun h => hp h.1)]
      have hp' : pcB p a = false := by simpa using hp
      simp [cB_tri, hp']
theorem cnt_le (p : S31) : ∀ l : List S29, cnt p l ≤ l.length := by
  intro l
  have h : ∀ (r : List S29) (S : List (Bool × Int × Int)), (r.foldl (fun S a => XM.put S (a.f0, a.f1, a.f2)) S).length ≤ S.length + r.length := by
    intro r
    induction r with
    | nil => intro S; simp
    | cons a r ih =>
      intro S
      have := ih (XM.put S (a.f0, a.f1, a.f2))
      have h2 : (XM.put S (a.f0, a.f1, a.f2)).length ≤ S.length + 1 := by
        unfold XM.put
        split <;> simp
      rw [List.foldl_cons, List.length_cons]
      omega
  have h1 := h l []
  have h2 := List.length_filter_le (cB p) (usage_report.j0 l)
  unfold cnt usage_report.j0 at *
  simp at h1
  omega
theorem rtail_ev (p : S31) (n : Int) : Ev (fun k => (ddiref03_Size.f k p.f0.f0 p.f0.f1 p.f0.f2 p.f1).bind fun bt392 => (if bt392.2 = true then (ddiref48_report.j2 k n bt392.1 p.f0.f0 p.f0.f1 p.f0.f2 p.f1) else (ddiref48_report.j2 k n 18446744073709551615 p.f0.f0 p.f0.f1 p.f0.f2 p.f1))) (repV p n) := by
  have hj : ∀ k, ddiref48_report.j2 (k + 1) n (totV p) p.f0.f0 p.f0.f1 p.f0.f2 p.f1 = some (repV p n) := fun k => by
    rw [ddiref48_report.j2, if_neg (totV_pos p)]
    unfold repV milV
    split <;> rfl
  refine Ev_bind (rsize_pfx p) ?_
  by_cases h : (szV p).2 = true
  · simp only [h, if_true]
    refine Ev_shift 1 (f := fun _ => some (repV p n)) (fun k => ?_) (Ev_const rfl)
    have e : totV p = (szV p).1 := by unfold totV; rw [if_pos h]
    rw [← e]
    exact hj k
  · simp only [h, Bool.false_eq_true, if_false]
    refine Ev_shift 1 (f := fun _ => some (repV p n)) (fun k => ?_) (Ev_const rfl)
    have e : totV p = 18446744073709551615 := by unfold totV; rw [if_neg h]
    rw [← e]
    exact hj k
theorem rreport_from (p : S31) (l : List S29) (hl : l.length ≤ 140737488351232) (ok : ∀ a ∈ l, uA a) : ∀ (d i : Nat), l.length - i ≤ d → i ≤ l.length → Ev (fun k => ddiref48_report.l0 k l ((cnt p (l.take i) : Nat) : Int) (i : Int) p.f0.f0 p.f0.f1 p.f0.f2 p.f1) (repV p (cnt p l))
  | d, i, hd, hi => by
    by_cases h : i < l.length
    · cases d with
      | zero => exact absurd hd (by omega)
      | succ d =>
        have ih := rreport_from p l hl ok d (i + 1) (by omega) (by omega)
        have hle := cnt_le p (l.take i)
        rw [List.length_take] at hle
        rw [List.take_succ_eq_append_getElem h, cnt_snoc] at ih
        have hu := ok l[i] (List.getElem_mem h)
        have key : Ev (fun k => (ddiref03_Contains.f k p.f0.f0 p.f0.f1 p.f0.f2 p.f1 l[i].f0 l[i].f1 l[i].f2).bind fun t390 => (if t390 = true then ((ddiref48_before.f k l (i : Int)).bind fun t391 => (ddiref48_report.j1 k l ((cnt p (l.take i) : Nat) : Int) (i : Int) (!t391) p.f0.f0 p.f0.f1 p.f0.f2 p.f1)) else (ddiref48_report.j1 k l ((cnt p (l.take i) : Nat) : Int) (i : Int) false p.f0.f0 p.f0.f1 p.f0.f2 p.f1))) (repV p (cnt p l)) := by
          refine Ev_bind (rcontains_pfx p l[i] hu) ?_
          by_cases hp : pcB p l[i] = true
          · simp only [hp, if_true]
            refine Ev_bind (before_ev l hl i h) ?_
            by_cases hb : (l.take i).contains l[i] = true
            · rw [if_neg (by rw [hb]; simp), Nat.add_zero] at ih
              simp only [hb, Bool.not_true]
              refine Ev_shift 1 (fun k => ?_) ih
              rw [ddiref48_report.j1, if_neg Bool.false_ne_true, next i l.length h (by omega)]
            · have hb' : (l.take i).contains l[i] = false := by simpa using hb
              rw [if_pos ⟨hp, hb'⟩] at ih
              simp only [hb', Bool.not_false]
              refine Ev_shift 1 (fun k => ?_) ih
              have e : IntKind.u64.wrap (((cnt p (l.take i) : Nat) : Int) + 1) = ((cnt p (l.take i) + 1 : Nat) : Int) := by rw [IntKind.wrap_u64]; omega
              rw [ddiref48_report.j1, if_pos rfl, next i l.length h (by omega), e]
          · rw [if_neg (fun h => hp h.1), Nat.add_zero] at ih
            simp only [hp, Bool.false_eq_true, if_false]
            refine Ev_shift 1 (fun k => ?_) ih
            rw [ddiref48_report.j1, if_neg Bool.false_ne_true, next i l.length h (by omega)]
        refine Ev_shift 1 (fun k => ?_) key
        rw [ddiref48_report.l0, if_pos (by omega), if_pos (by omega), rd29 l i h]
    · refine Ev_shift 1 (fun k => ?_) (rtail_ev p (cnt p l))
      rw [ddiref48_report.l0, if_neg (by omega), List.take_of_length_le (by omega)]
theorem rreport_ev (p : S31) (l : List S29) (hl : l.length ≤ 140737488351232) (ok : ∀ a ∈ l, uA a) : Ev (fun k => ddiref48_report.f k p.f0.f0 p.f0.f1 p.f0.f2 p.f1 l) (repV p (cnt p l)) := by
  unfold ddiref48_report.f
  exact rreport_from p l hl ok l.length 0 (by omega) (Nat.zero_le _)
end Go.Proofs.Ytjifdgicamlikaa.Ma
namespace Go.Proofs.Ytjifdgicamlikaa.Ma
open Go.RowKit Go.Proofs.YtjifdgicamlikaaW.PrintWords Go.Proofs.YtjifdgicamlikaaW.PrintLast Go.Proofs.YtjifdgicamlikaaW.PrintMore Go.Proofs.Ytjifdgicamlikaa.XP Go.Proofs.Ytjifdgicamlikaa.QA Go.Proofs.Ytjifdgicamlikaa.Cm
set_option linter.unusedVariables false
set_option linter.unusedSimpArgs false
theorem rd60 (l : List S60) (i : Nat) (x : S60) (r : List S60) (h : l.drop i = x :: r) : i < l.length ∧ rd_T60 l (i : Int) = x ∧ l.drop (i + 1) = r := by
  obtain ⟨hi, hx, hr⟩ := drop_at h
  refine ⟨hi, ?_, hr⟩
  simp [rd_T60, List.getD_eq_getElem?_getD, List.getElem?_eq_getElem hi, hx]
theorem rdB (l : List S60) (i : Nat) (h : i < l.length) : rd_T60 l (i : Int) = l[i] := by
  simp [rd_T60, List.getD_eq_getElem?_getD, List.getElem?_eq_getElem h]
/-! ### Find -/
def fndB (p : S31) (l : List S60) : Bool := l.any (fun b => eqPfx b.f0 p)
theorem index_from (p : S31) (l : List S60) (hl : l.length ≤ 140737488351232) : ∀ (r : List S60) (i : Nat), l.drop i = r → ∃ v : Int, Ev (fun k => slices_IndexFunc_77.l0 k l (l.length : Int) (i : Int) p.f0.f0 p.f0.f1 p.f0.f2 p.f1) v ∧ ((fndB p r = false ∧ v = -1) ∨ (fndB p r = true ∧ ∃ j : Nat, v = (j : Int) ∧ j < l.length))
  | [], i, h => by
    have := drop_end h
    exact ⟨-1, Ev_shift 1 (f := fun _ => some (-1)) (fun k => by rw [slices_IndexFunc_77.l0, if_neg (by omega)]) (Ev_const rfl), .inl ⟨rfl, rfl⟩⟩
  | b :: r, i, h => by
    obtain ⟨hi, hx, hr⟩ := rd60 l i b r h
    by_cases he : eqPfx b.f0 p = true
    · refine ⟨(i : Int), Ev_shift 1 (f := fun _ => some (i : Int)) (fun k => ?_) (Ev_const rfl), .inr ⟨by simp [fndB, he], i, rfl, hi⟩⟩
      have hb : blocks_index_1.f b.f0.f0.f0 b.f0.f0.f1 b.f0.f0.f2 b.f0.f1 b.f1 b.f2 b.f3 b.f4 p.f0.f0 p.f0.f1 p.f0.f2 p.f1 = some true := congrArg some he
      rw [slices_IndexFunc_77.l0, if_pos (by omega), if_pos (by omega), if_pos (by omega), hx, hb]
      rfl
    · have he' : eqPfx b.f0 p = false := by simpa using he
      obtain ⟨v, hv, hc⟩ := index_from p l hl r (i + 1) hr
      refine ⟨v, Ev_shift 1 (fun k => ?_) hv, ?_⟩
      · have hb : blocks_index_1.f b.f0.f0.f0 b.f0.f0.f1 b.f0.f0.f2 b.f0.f1 b.f1 b.f2 b.f3 b.f4 p.f0.f0 p.f0.f1 p.f0.f2 p.f1 = some false := congrArg some he'
        rw [slices_IndexFunc_77.l0, if_pos (by omega), if_pos (by omega), if_pos (by omega), hx, hb, Option.bind_some, if_neg Bool.false_ne_true, next i l.length hi (by omega)]
      · have e : fndB p (b :: r) = fndB p r := by simp [fndB, he']
        rw [e]
        exact hc
theorem find_ev (p : S31) (l : List S60) (hl : l.length ≤ 140737488351232) : ∃ t, Ev (fun k => blocks_Find.f k l p.f0.f0 p.f0.f1 p.f0.f2 p.f1) t ∧ t.2.2.2.2.2.2.2.2 = fndB p l := by
  obtain ⟨v, hv, hc⟩ := index_from p l hl l 0 rfl
  have hi : Ev (fun k => blocks_index.f k l p.f0.f0 p.f0.f1 p.f0.f2 p.f1) v := by
    unfold blocks_index.f slices_IndexFunc_77.f
    exact Ev_bind hv (Ev_const rfl)
  rcases hc with ⟨hf, rfl⟩ | ⟨hf, j, rfl, hj⟩
  · refine ⟨(false, 0, 0, 0, 0, (⟨#[]⟩ : ByteArray), (⟨#[]⟩ : ByteArray), 0, false), ?_, hf.symm⟩
    unfold blocks_Find.f
    refine Ev_bind hi ?_
    simp only [if_neg (show ¬ (-1 : Int) ≥ 0 by omega)]
    exact Ev_const rfl
  · refine ⟨((rd_T60 l (j : Int)).f0.f0.f0, (rd_T60 l (j : Int)).f0.f0.f1, (rd_T60 l (j : Int)).f0.f0.f2, (rd_T60 l (j : Int)).f0.f1, (rd_T60 l (j : Int)).f1, (rd_T60 l (j : Int)).f2, (rd_T60 l (j : Int)).f3, (rd_T60 l (j : Int)).f4, true), ?_, hf.symm⟩
    unfold blocks_Find.f
    refine Ev_bind hi ?_
    simp only [if_pos (show ((j : Nat) : Int) ≥ 0 by omega), if_pos (show 0 ≤ ((j : Nat) : Int) by omega), if_pos (show ((j : Nat) : Int) < (l.length : Int) by omega)]
    exact Ev_const rfl
theorem rfind_from (p : S31) (l : List S60) (hl : l.length ≤ 140737488351232) : ∀ (r : List S60) (i : Nat), l.drop i = r → ∃ t, Ev (fun k => ddiref46_Find.l0 k l (i : Int) p.f0.f0 p.f0.f1 p.f0.f2 p.f1) t ∧ t.2.2.2.2.2.2.2.2 = fndB p r
  | [], i, h => by
    have := drop_end h
    exact ⟨(false, 0, 0, 0, 0, (⟨#[]⟩ : ByteArray), (⟨#[]⟩ : ByteArray), 0, false), Ev_shift 1 (f := fun _ => some (false, 0, 0, 0, 0, (⟨#[]⟩ : ByteArray), (⟨#[]⟩ : ByteArray), 0, false)) (fun k => by rw [ddiref46_Find.l0, if_neg (by omega)]) (Ev_const rfl), rfl⟩
  | b :: r, i, h => by
    obtain ⟨hi, hx, hr⟩ := rd60 l i b r h
    by_cases he : eqPfx b.f0 p = true
    · refine ⟨(b.f0.f0.f0, b.f0.f0.f1, b.f0.f0.f2, b.f0.f1, b.f1, b.f2, b.f3, b.f4, true), Ev_shift 1 (f := fun _ => some (b.f0.f0.f0, b.f0.f0.f1, b.f0.f0.f2, b.f0.f1, b.f1, b.f2, b.f3, b.f4, true)) (fun k => ?_) (Ev_const rfl), by simp [fndB, he]⟩
      have he2 : ((b.f0.f0.f0 == p.f0.f0 && (b.f0.f0.f1 == p.f0.f1 && (b.f0.f0.f2 == p.f0.f2))) && (b.f0.f1 == p.f1)) = true := he
      rw [ddiref46_Find.l0, if_pos (by omega), if_pos (by omega), hx, if_pos he2]
    · have he' : eqPfx b.f0 p = false := by simpa using he
      have he2 : ((b.f0.f0.f0 == p.f0.f0 && (b.f0.f0.f1 == p.f0.f1 && (b.f0.f0.f2 == p.f0.f2))) && (b.f0.f1 == p.f1)) = false := he'
      obtain ⟨t, ht, hc⟩ := rfind_from p l hl r (i + 1) hr
      refine ⟨t, Ev_shift 1 (fun k => ?_) ht, ?_⟩
      · rw [ddiref46_Find.l0, if_pos (by omega), if_pos (by omega), hx, he2, if_neg Bool.false_ne_true, next i l.length hi (by omega)]
      · have e : fndB p (b :: r) = fndB p r := by simp [fndB, he']
        rw [e]
        exact hc
theorem rfind_ev (p : S31) (l : List S60) (hl : l.length ≤ 140737488351232) : ∃ t, Ev (fun k => ddiref46_Find.f k l p.f0.f0 p.f0.f1 p.f0.f2 p.f1) t ∧ t.2.2.2.2.2.2.2.2 = fndB p l := by
  unfold ddiref46_Find.f
  exact rfind_from p l hl l 0 rfl
/-! ### Of -/
def ofT (p : S31) (l : List S60) (u : List S29) : Bool × Int × Int × Int × Int × Int × Int × Bool := if fndB p l = true then (p.f0.f0, p.f0.f1, p.f0.f2, p.f1, (cnt p u : Int), totV p, milV (cnt p u) (totV p), true) else (false, 0, 0, 0, 0, 0, 0, false)
theorem of_ev (p : S31) (l : List S60) (u : List S29) (hl : l.length ≤ 140737488351232) (hu : u.length * 24 ≤ 140737488351232) (ok : ∀ a ∈ u, okS29 a) : Ev (fun k => usage_Of.f k l p.f0.f0 p.f0.f1 p.f0.f2 p.f1 u) (ofT p l u) := by
  obtain ⟨t, ht, hf⟩ := find_ev p l hl
  unfold usage_Of.f ofT
  refine Ev_bind ht ?_
  rw [hf]
  by_cases h : fndB p l = true
  · simp only [h, if_true]
    exact Ev_bind (report_ev p u hu ok) (Ev_const rfl)
  · simp only [h, Bool.false_eq_true, if_false]
    exact Ev_const rfl
theorem rof_ev (p : S31) (l : List S60) (u : List S29) (hl : l.length ≤ 140737488351232) (hu : u.length * 24 ≤ 140737488351232) (ok : ∀ a ∈ u, okS29 a) : Ev (fun k => ddiref48_Of.f k l p.f0.f0 p.f0.f1 p.f0.f2 p.f1 u) (ofT p l u) := by
  obtain ⟨t, ht, hf⟩ := rfind_ev p l hl
  unfold ddiref48_Of.f ofT
  refine Ev_bind ht ?_
  rw [hf]
  by_cases h : fndB p l = true
  · simp only [h, if_true]
    exact Ev_bind (rreport_ev p u (by omega) (fun a ha => uA_of (ok a ha))) (Ev_const rfl)
  · simp only [h, Bool.false_eq_true, if_false]
    exact Ev_const rfl
/-! ### All -/
def repB (u : List S29) (b : S60) : S36 := ⟨b.f0, (cnt b.f0 u : Int), totV b.f0, milV (cnt b.f0 u) (totV b.f0)⟩
def repR (u : List S29) (b : S60) : S39 := ⟨b.f0, (cnt b.f0 u : Int), totV b.f0, milV (cnt b.f0 u) (totV b.f0)⟩
theorem all_from (l : List S60) (u : List S29) (hl : l.length ≤ 1759218604441) (hu : u.length * 24 ≤ 140737488351232) (ok : ∀ a ∈ u, okS29 a) : ∀ (r : List S60) (i : Nat), l.drop i = r → Ev (fun k => usage_All.l0 k u ((l.take i).map (repB u)) l (l.length : Int) (i : Int)) (l.map (repB u))
  | [], i, h => by
    have := drop_end h
    refine Ev_shift 1 (f := fun _ => some (l.map (repB u))) (fun k => ?_) (Ev_const rfl)
    rw [usage_All.l0, if_neg (by omega), List.take_of_length_le (by omega)]
  | b :: r, i, h => by
    obtain ⟨hi, hx, hr⟩ := rd60 l i b r h
    have hxi : l[i] = b := (drop_at h).2.1
    have ih := all_from l u hl hu ok r (i + 1) hr
    have hlen : ((l.take i).map (repB u)).length < 2513169434916 := by rw [List.length_map, List.length_take]; omega
    rw [List.take_succ_eq_append_getElem hi, List.map_append, hxi] at ih
    have key : Ev (fun k => (usage_report.f k b.f0.f0.f0 b.f0.f0.f1 b.f0.f0.f2 b.f0.f1 u).bind fun bt216 => (if ((l.take i).map (repB u)).length < 2513169434916 then (usage_All.l0 k u ((l.take i).map (repB u) ++ [(⟨(⟨(⟨bt216.1,bt216.2.1,bt216.2.2.1⟩ : S29),bt216.2.2.2.1⟩ : S31),bt216.2.2.2.2.1,bt216.2.2.2.2.2.1,bt216.2.2.2.2.2.2⟩ : S36)]) l (l.length : Int) ((i + 1 : Nat) : Int)) else (none))) (l.map (repB u)) := by
      refine Ev_bind (report_ev b.f0 u hu ok) ?_
      simp only [if_pos hlen]
      exact ih
    refine Ev_shift 1 (fun k => ?_) key
    rw [usage_All.l0, if_pos (by omega), if_pos (by omega), if_pos (by omega), hx, next i l.length hi (by omega)]
theorem rall_from (l : List S60) (hs : List S73) (zs : List ByteArray) (u : List S29) (hl : l.length ≤ 1759218604441) (hu : u.length * 24 ≤ 140737488351232) (ok : ∀ a ∈ u, okS29 a) : ∀ (r : List S60) (i : Nat), l.drop i = r → Ev (fun k => ddiref48_All.l0 k u ((l.take i).map (repR u)) (i : Int) l hs zs) (l.map (repR u))
  | [], i, h => by
    have := drop_end h
    refine Ev_shift 1 (f := fun _ => some (l.map (repR u))) (fun k => ?_) (Ev_const rfl)
    rw [ddiref48_All.l0, if_neg (by omega), List.take_of_length_le (by omega)]
  | b :: r, i, h => by
    obtain ⟨hi, hx, hr⟩ := rd60 l i b r h
    have hxi : l[i] = b := (drop_at h).2.1
    have ih := rall_from l hs zs u hl hu ok r (i + 1) hr
    have hlen : ((l.take i).map (repR u)).length < 2513169434916 := by rw [List.length_map, List.length_take]; omega
    rw [List.take_succ_eq_append_getElem hi, List.map_append, hxi] at ih
    have key : Ev (fun k => (ddiref48_report.f k b.f0.f0.f0 b.f0.f0.f1 b.f0.f0.f2 b.f0.f1 u).bind fun bt415 => (if ((l.take i).map (repR u)).length < 2513169434916 then (ddiref48_All.l0 k u ((l.take i).map (repR u) ++ [(⟨(⟨(⟨bt415.1,bt415.2.1,bt415.2.2.1⟩ : S29),bt415.2.2.2.1⟩ : S31),bt415.2.2.2.2.1,bt415.2.2.2.2.2.1,bt415.2.2.2.2.2.2⟩ : S39)]) ((i + 1 : Nat) : Int) l hs zs) else (none))) (l.map (repR u)) := by
      refine Ev_bind (rreport_ev b.f0 u (by omega) (fun a ha => uA_of (ok a ha))) ?_
      simp only [if_pos hlen]
      exact ih
    refine Ev_shift 1 (fun k => ?_) key
    rw [ddiref48_All.l0, if_pos (by omega), if_pos (by omega), hx, next i l.length hi (by omega)]
theorem all_ev (l : List S60) (hs : List S73) (zs : List ByteArray) (u : List S29) (hl : l.length ≤ 1759218604441) (hu : u.length * 24 ≤ 140737488351232) (ok : ∀ a ∈ u, okS29 a) : Ev (fun k => usage_All.f k l hs zs u) (l.map (repB u)) := by
  unfold usage_All.f
  exact all_from l u hl hu ok l 0 rfl
theorem rall_ev (l : List S60) (hs : List S73) (zs : List ByteArray) (u : List S29) (hl : l.length ≤ 1759218604441) (hu : u.length * 24 ≤ 140737488351232) (ok : ∀ a ∈ u, okS29 a) : Ev (fun k => ddiref48_All.f k l hs zs u) (l.map (repR u)) := by
  unfold ddiref48_All.f
  exact rall_from l hs zs u hl hu ok l 0 rfl
end Go.Proofs.Ytjifdgicamlikaa.Ma
namespace Go.Proofs.Ytjifdgicamlikaa.Cm
open Go.RowKit Go.Proofs.YtjifdgicamlikaaW.PrintWords Go.Proofs.YtjifdgicamlikaaW.PrintLast Go.Proofs.YtjifdgicamlikaaW.PrintMore Go.Proofs.Ytjifdgicamlikaa.XP
set_option linter.unusedVariables false
set_option linter.unusedSimpArgs false
theorem bt_at_drop (s : ByteArray) (i : Nat) (c : UInt8) (r : List UInt8) (h : s.data.toList.drop i = c :: r) : i < s.size ∧ bt s (i : Int) = (c.toNat : Int) ∧ s.data.toList.drop (i + 1) = r := by
  obtain ⟨hi, hx, hr⟩ := drop_at h
  refine ⟨by rw [size_data]; exact hi, ?_, hr⟩
  rw [bt_get s i hi, hx]
theorem size_end (s : ByteArray) (i : Nat) (h : s.data.toList.drop i = []) : s.size ≤ i := by rw [size_data]; exact drop_end h
end Go.Proofs.Ytjifdgicamlikaa.Cm
namespace Go.Proofs.Ytjifdgicamlikaa.Ma
open Go.RowKit Go.Proofs.YtjifdgicamlikaaW.PrintWords Go.Proofs.YtjifdgicamlikaaW.PrintLast Go.Proofs.YtjifdgicamlikaaW.PrintMore Go.Proofs.Ytjifdgicamlikaa.XP Go.Proofs.Ytjifdgicamlikaa.QA Go.Proofs.Ytjifdgicamlikaa.Cm
set_option linter.unusedVariables false
set_option linter.unusedSimpArgs false
def visB (c : UInt8) : Bool := !(decide ((c.toNat : Int) < 33) || decide ((c.toNat : Int) > 126))
def strB (lo hi : Nat) (s : ByteArray) : Bool := decide (lo ≤ s.size) && (decide (s.size ≤ hi) && s.data.toList.all visB)
theorem rpr_from (s : ByteArray) (hs : s.size ≤ 140737488351232) : ∀ (r : List UInt8) (i : Nat), s.data.toList.drop i = r → Ev (fun k => ddiref46_printable.l0 k s (i : Int)) (r.all visB)
  | [], i, h => by
    have := size_end s i h
    exact Ev_shift 1 (f := fun _ => some true) (fun k => by rw [ddiref46_printable.l0, if_neg (by omega)]) (Ev_const rfl)
  | c :: r, i, h => by
    obtain ⟨hi, hb, hr⟩ := bt_at_drop s i c r h
    have ih := rpr_from s hs r (i + 1) hr
    by_cases h1 : (c.toNat : Int) < 33
    · have e : (c :: r).all visB = false := by simp [visB, h1]
      rw [e]
      refine Ev_shift 2 (f := fun _ => some false) (fun k => ?_) (Ev_const rfl)
      rw [ddiref46_printable.l0, if_pos (by omega), if_pos (by omega), hb, if_pos h1, ddiref46_printable.j1, if_pos rfl]
    · by_cases h2 : (c.toNat : Int) > 126
      · have e : (c :: r).all visB = false := by
          have : visB c = false := by unfold visB; rw [decide_eq_true h2]; simp
          simp [this]
        rw [e]
        refine Ev_shift 2 (f := fun _ => some false) (fun k => ?_) (Ev_const rfl)
        rw [ddiref46_printable.l0, if_pos (by omega), if_pos (by omega), hb, if_neg h1, decide_eq_true h2, ddiref46_printable.j1, if_pos rfl]
      · have e : (c :: r).all visB = r.all visB := by
          have : visB c = true := by unfold visB; rw [decide_eq_false h1, decide_eq_false h2]; rfl
          simp [this]
        rw [e]
        refine Ev_shift 2 (fun k => ?_) ih
        rw [ddiref46_printable.l0, if_pos (by omega), if_pos (by omega), hb, if_neg h1, decide_eq_false h2, ddiref46_printable.j1, if_neg Bool.false_ne_true, next i s.size hi (by omega)]
theorem rpr_ev (s : ByteArray) (hs : s.size ≤ 140737488351232) : Ev (fun k => ddiref46_printable.f k s) (s.data.toList.all visB) := by
  unfold ddiref46_printable.f
  exact rpr_from s hs s.data.toList 0 rfl
def kdB (b : S60) : Bool := decide (1 ≤ b.f1) && (decide (b.f1 ≤ 3) && (!decide (b.f1 = 3) || decide (b.f0.f1 = lenV b.f0.f0.f0)))
def tmB (b : S60) : Bool := decide (0 ≤ b.f4) && decide (b.f4 ≤ 4294967295)
def mayV (b : S60) : Bool := kdB b && (strB 1 63 b.f2 && (strB 0 32 b.f3 && tmB b))
def szB (b : S60) : Prop := b.f2.size ≤ 140737488351232 ∧ b.f3.size ≤ 140737488351232
theorem rmay_j (b : S60) (hs : szB b) (x : Bool) (hx : x = !kdB b) : Ev (fun k => ddiref46_may.j0 k x b.f0.f0.f0 b.f0.f0.f1 b.f0.f0.f2 b.f0.f1 b.f1 b.f2 b.f3 b.f4) (mayV b) := by
  unfold mayV
  cases hk : kdB b with
  | false =>
    rw [hk] at hx; subst hx
    exact Ev_shift 1 (f := fun _ => some false) (fun k => by rw [ddiref46_may.j0]; rfl) (Ev_const rfl)
  | true =>
    rw [hk] at hx; subst hx
    rw [Bool.true_and]
    unfold strB
    by_cases h1 : 1 ≤ b.f2.size
    · by_cases h2 : b.f2.size ≤ 63
      · have key : Ev (fun k => (ddiref46_printable.f k b.f2).bind fun t111 => (if t111 = true then (if (b.f3.size : Int) ≤ 32 then ((ddiref46_printable.f k b.f3).bind fun t112 => (if t112 = true then (if b.f4 ≥ 0 then (some (decide (b.f4 ≤ 4294967295))) else (some false)) else (some false))) else (some false)) else (some false))) ((decide (1 ≤ b.f2.size) && (decide (b.f2.size ≤ 63) && b.f2.data.toList.all visB)) && ((decide (0 ≤ b.f3.size) && (decide (b.f3.size ≤ 32) && b.f3.data.toList.all visB)) && tmB b)) := by
          refine Ev_bind (rpr_ev b.f2 hs.1) ?_
          rw [decide_eq_true h1, decide_eq_true h2, decide_eq_true (Nat.zero_le b.f3.size)]
          cases hp : b.f2.data.toList.all visB with
          | false => exact Ev_const rfl
          | true =>
            by_cases h3 : b.f3.size ≤ 32
            · rw [decide_eq_true h3]
              simp only [if_true, if_pos (show ((b.f3.size : Nat) : Int) ≤ 32 by omega)]
              refine Ev_bind (rpr_ev b.f3 hs.2) ?_
              cases hq : b.f3.data.toList.all visB with
              | false => exact Ev_const rfl
              | true =>
                unfold tmB
                by_cases h4 : 0 ≤ b.f4
                · rw [decide_eq_true h4]
                  simp only [if_true, if_pos (show b.f4 ≥ 0 from h4)]
                  exact Ev_const rfl
                · rw [decide_eq_false h4]
                  simp only [if_true, if_neg (show ¬ b.f4 ≥ 0 from h4)]
                  exact Ev_const rfl
            · rw [decide_eq_false h3]
              simp only [if_true, if_neg (show ¬ ((b.f3.size : Nat) : Int) ≤ 32 by omega)]
              exact Ev_const rfl
        refine Ev_shift 1 (fun k => ?_) key
        rw [ddiref46_may.j0, if_neg (by simp), if_pos (by omega), if_pos (by omega)]
      · rw [decide_eq_false h2]
        refine Ev_shift 1 (f := fun _ => some false) (fun k => ?_) (Ev_const (by simp))
        rw [ddiref46_may.j0, if_neg (by simp), if_pos (by omega), if_neg (by omega)]
    · rw [decide_eq_false h1]
      refine Ev_shift 1 (f := fun _ => some false) (fun k => ?_) (Ev_const (by simp))
      rw [ddiref46_may.j0, if_neg (by simp), if_neg (by omega)]
theorem rwhole_v (p : S31) : ddiref46_whole.f p.f0.f0 p.f0.f1 p.f0.f2 p.f1 = some (lenV p.f0.f0) := by
  unfold ddiref46_whole.f
  cases p.f0.f0 <;> rfl
theorem rmay_ev (b : S60) (hs : szB b) : Ev (fun k => ddiref46_may.f k b.f0.f0.f0 b.f0.f0.f1 b.f0.f0.f2 b.f0.f1 b.f1 b.f2 b.f3 b.f4) (mayV b) := by
  unfold ddiref46_may.f
  by_cases h1 : b.f1 < 1
  · simp only [if_pos h1]
    exact rmay_j b hs true (by unfold kdB; rw [decide_eq_false (by omega)]; rfl)
  · simp only [if_neg h1]
    by_cases h3 : b.f1 > 3
    · simp only [if_pos h3]
      exact rmay_j b hs true (by unfold kdB; rw [decide_eq_false (show ¬ b.f1 ≤ 3 by omega)]; simp)
    · simp only [if_neg h3]
      by_cases h : b.f1 = 3
      · simp only [if_pos h, rwhole_v b.f0, Option.bind_some]
        refine rmay_j b hs _ ?_
        unfold kdB
        rw [decide_eq_true (show 1 ≤ b.f1 by omega), decide_eq_true (show b.f1 ≤ 3 by omega), decide_eq_true h]
        rw [Bool.eq_iff_iff]
        simp
      · simp only [if_neg h]
        refine rmay_j b hs false ?_
        unfold kdB
        rw [decide_eq_true (show 1 ≤ b.f1 by omega), decide_eq_true (show b.f1 ≤ 3 by omega), decide_eq_false h]
        rfl
/-! ### order and overlap -/
def pcm (p q : S31) : Int := if cmp p.f0 q.f0 = 0 then (if p.f1 < q.f1 then -1 else (if p.f1 > q.f1 then 1 else 0)) else cmp p.f0 q.f0
theorem rpcm (p q : S31) : ddiref03_Compare.f p.f0.f0 p.f0.f1 p.f0.f2 p.f1 q.f0.f0 q.f0.f1 q.f0.f2 q.f1 = some (pcm p q) := by
  unfold ddiref03_Compare.f pcm
  rw [rcmp p.f0 q.f0, Option.bind_some]
  split
  · split
    · rfl
    · split <;> rfl
  · rfl
def pin (p q : S31) : Bool := pwB p q && decide (p.f1 > q.f1)
theorem rin_ev (p q : S31) (ok : uA p.f0) : Ev (fun k => ddiref46_in.f k p.f0.f0 p.f0.f1 p.f0.f2 p.f1 q.f0.f0 q.f0.f1 q.f0.f2 q.f1) (pin p q) := by
  unfold ddiref46_in.f pin
  refine Ev_bind (rwithin_pfx p q ok) ?_
  cases pwB p q with
  | true => exact Ev_const rfl
  | false => exact Ev_const rfl
def barB (b o : S60) : Bool := pin b.f0 o.f0 && (decide (o.f1 = 3) || (decide (o.f1 = 2) && (b.f1 != 3)))
theorem rbar_ev (b o : S60) (ok : uA b.f0.f0) : Ev (fun k => ddiref46_barred.f k b.f0.f0.f0 b.f0.f0.f1 b.f0.f0.f2 b.f0.f1 b.f1 b.f2 b.f3 b.f4 o.f0.f0.f0 o.f0.f0.f1 o.f0.f0.f2 o.f0.f1 o.f1 o.f2 o.f3 o.f4) (barB b o) := by
  unfold ddiref46_barred.f barB
  refine Ev_bind (rin_ev b.f0 o.f0 ok) ?_
  cases pin b.f0 o.f0 with
  | false => exact Ev_const rfl
  | true =>
    simp only [if_true, Bool.true_and]
    by_cases h3 : o.f1 = 3
    · simp only [if_pos h3, decide_eq_true h3]
      exact Ev_const rfl
    · simp only [if_neg h3, decide_eq_false h3, Bool.false_or]
      by_cases h2 : o.f1 = 2
      · simp only [if_pos h2, decide_eq_true h2]
        exact Ev_const rfl
      · simp only [if_neg h2, decide_eq_false h2]
        exact Ev_const rfl
/-! ### Check -/
def vB (b : S60) : Bool := pvB b.f0 && mayV b
def TabAt (l : List S60) (q : Nat) (hq : q < l.length) : Prop := vB l[q] = true ∧ (∀ h : 0 < q, pcm (l[q - 1]'(by omega)).f0 l[q].f0 ≤ 0 ∧ eqPfx (l[q - 1]'(by omega)).f0 l[q].f0 = false) ∧ ∀ z (hz : z < q), barB l[q] (l[z]'(by omega)) = false
def okT (l : List S60) : Prop := ∀ b ∈ l, uA b.f0.f0 ∧ szB b
theorem check_l1 (l : List S60) (hl : l.length ≤ 1000000) (ok : okT l) (i : Nat) (hi : i < l.length) (P : Prop) (hK : ∃ c, Ev (fun k => ddiref46_Check.l0 k l ((i + 1 : Nat) : Int)) c ∧ (c = 0 → P)) :
    ∀ (d z : Nat), i - z ≤ d → z ≤ i → ∃ c, Ev (fun k => ddiref46_Check.l1 k l (i : Int) (z : Int)) c ∧ (c = 0 → P ∧ ∀ y (_ : z ≤ y) (hy : y < i), barB l[i] (l[y]'(by omega)) = false)
  | d, z, hd, hz => by
    by_cases h : z < i
    · cases d with
      | zero => exact absurd hd (by omega)
      | succ d =>
        obtain ⟨c, hc, hp⟩ := check_l1 l hl ok i hi P hK d (z + 1) (by omega) (by omega)
        have hb := rbar_ev l[i] (l[z]'(by omega)) (ok _ (List.getElem_mem hi)).1
        cases hbb : barB l[i] (l[z]'(by omega)) with
        | true =>
          refine ⟨24, ?_, fun h => absurd h (by decide)⟩
          rw [hbb] at hb
          refine Ev_shift 1 (fun k => ?_) (Ev_bind (f := fun k t157 => if t157 = true then (some 24) else (ddiref46_Check.l1 k l (i : Int) (wrap64 ((z : Int) + 1)))) hb (Ev_const rfl))
          rw [ddiref46_Check.l1, if_pos (by omega), if_pos (by omega), if_pos (by omega), if_pos (by omega), if_pos (by omega), rdB l i hi, rdB l z (by omega)]
        | false =>
          rw [hbb] at hb
          refine ⟨c, ?_, fun h0 => ⟨(hp h0).1, fun y hy1 hy2 => ?_⟩⟩
          · refine Ev_shift 1 (fun k => ?_) (Ev_bind (f := fun k t157 => if t157 = true then (some 24) else (ddiref46_Check.l1 k l (i : Int) (wrap64 ((z : Int) + 1)))) hb (by simp only [Bool.false_eq_true, if_false, next z l.length (show z < l.length by omega) (by omega)]; exact hc))
            rw [ddiref46_Check.l1, if_pos (by omega), if_pos (by omega), if_pos (by omega), if_pos (by omega), if_pos (by omega), rdB l i hi, rdB l z (by omega)]
          · rcases Nat.eq_or_lt_of_le hy1 with rfl | hy1
            · exact hbb
            · exact (hp h0).2 y (by omega) hy2
    · obtain ⟨c, hc, hp⟩ := hK
      refine ⟨c, Ev_shift 1 (fun k => ?_) hc, fun h0 => ⟨hp h0, fun y _ _ => absurd hd (by omega)⟩⟩
      rw [ddiref46_Check.l1, if_neg (by omega), next i l.length hi (by omega)]
theorem check_from (l : List S60) (hl : l.length ≤ 1000000) (ok : okT l) : ∀ (d i : Nat), l.length - i ≤ d → i ≤ l.length → ∃ c, Ev (fun k => ddiref46_Check.l0 k l (i : Int)) c ∧ (c = 0 → ∀ q (_ : i ≤ q) (hq : q < l.length), TabAt l q hq)
  | d, i, hd, hi => by
    by_cases h : i < l.length
    · cases d with
      | zero => exact absurd hd (by omega)
      | succ d =>
        have hK := check_from l hl ok d (i + 1) (by omega) (by omega)
        obtain ⟨c1, h1, hp1⟩ := check_l1 l hl ok i h _ hK i 0 (by omega) (Nat.zero_le _)
        obtain ⟨hu, hsz⟩ := ok _ (List.getElem_mem h)
        have hv := rvalid_pfx l[i].f0
        have hm := rmay_ev l[i] hsz
        have hG : ∀ k, ddiref46_Check.l0 (k + 1) l (i : Int) = (ddiref03_Valid.f k l[i].f0.f0.f0 l[i].f0.f0.f1 l[i].f0.f0.f2 l[i].f0.f1).bind fun t147 => (if t147 = true then ((ddiref46_may.f k l[i].f0.f0.f0 l[i].f0.f0.f1 l[i].f0.f0.f2 l[i].f0.f1 l[i].f1 l[i].f2 l[i].f3 l[i].f4).bind fun t149 => (if t149 = true then (if (i : Int) > 0 then (if 0 ≤ (wrap64 ((i : Int) - 1)) then (if (wrap64 ((i : Int) - 1)) < (l.length : Int) then ((ddiref03_Compare.f ((rd_T60 l (wrap64 ((i : Int) - 1))).f0.f0.f0) ((rd_T60 l (wrap64 ((i : Int) - 1))).f0.f0.f1) ((rd_T60 l (wrap64 ((i : Int) - 1))).f0.f0.f2) ((rd_T60 l (wrap64 ((i : Int) - 1))).f0.f1) l[i].f0.f0.f0 l[i].f0.f0.f1 l[i].f0.f0.f2 l[i].f0.f1).bind fun t152 => (ddiref46_Check.j1 k l (i : Int) (decide (t152 > 0)))) else (none)) else (none)) else (ddiref46_Check.j1 k l (i : Int) false)) else (some 1))) else (some 3)) := fun k => by
          rw [ddiref46_Check.l0, if_pos (by omega), if_pos (by omega), rdB l i h]
        have hj2 : ∀ k, ddiref46_Check.j2 (k + 1) l (i : Int) false = ddiref46_Check.l1 k l (i : Int) ((0 : Nat) : Int) := fun k => by
          rw [ddiref46_Check.j2, if_neg Bool.false_ne_true]; rfl
        cases hpv : pvB l[i].f0 with
        | false =>
          refine ⟨3, Ev_shift 1 hG (Ev_bind hv ?_), fun h => absurd h (by decide)⟩
          simp only [hpv, Bool.false_eq_true, if_false]
          exact Ev_const rfl
        | true =>
          cases hmv : mayV l[i] with
          | false =>
            refine ⟨1, Ev_shift 1 hG (Ev_bind hv ?_), fun h => absurd h (by decide)⟩
            simp only [hpv, if_true]
            refine Ev_bind hm ?_
            simp only [hmv, Bool.false_eq_true, if_false]
            exact Ev_const rfl
          | true =>
            have hvb : vB l[i] = true := by unfold vB; rw [hpv, hmv]; rfl
            have fin : ∀ r, Ev (fun k => if (i : Int) > 0 then (if 0 ≤ (wrap64 ((i : Int) - 1)) then (if (wrap64 ((i : Int) - 1)) < (l.length : Int) then ((ddiref03_Compare.f ((rd_T60 l (wrap64 ((i : Int) - 1))).f0.f0.f0) ((rd_T60 l (wrap64 ((i : Int) - 1))).f0.f0.f1) ((rd_T60 l (wrap64 ((i : Int) - 1))).f0.f0.f2) ((rd_T60 l (wrap64 ((i : Int) - 1))).f0.f1) l[i].f0.f0.f0 l[i].f0.f0.f1 l[i].f0.f0.f2 l[i].f0.f1).bind fun t152 => (ddiref46_Check.j1 k l (i : Int) (decide (t152 > 0)))) else (none)) else (none)) else (ddiref46_Check.j1 k l (i : Int) false)) r → Ev (fun k => ddiref46_Check.l0 k l (i : Int)) r := fun r hr => by
              refine Ev_shift 1 hG (Ev_bind hv ?_)
              simp only [hpv, if_true]
              refine Ev_bind hm ?_
              simp only [hmv, if_true]
              exact hr
            by_cases h0 : 0 < i
            · have hw : wrap64 ((i : Int) - 1) = ((i - 1 : Nat) : Int) := by rw [wrap_id (by omega) (by omega)]; omega
              have hr1 : rd_T60 l ((i - 1 : Nat) : Int) = l[i - 1]'(by omega) := rdB l (i - 1) (by omega)
              have hcm := rpcm (l[i - 1]'(by omega)).f0 l[i].f0
              simp only [hw, if_pos (show (i : Int) > 0 by omega), if_pos (show 0 ≤ ((i - 1 : Nat) : Int) by omega), if_pos (show ((i - 1 : Nat) : Int) < (l.length : Int) by omega), hr1, hcm, Option.bind_some] at fin
              by_cases hc : pcm (l[i - 1]'(by omega)).f0 l[i].f0 > 0
              · refine ⟨7, fin 7 (Ev_shift 1 (f := fun _ => some 7) (fun k => ?_) (Ev_const rfl)), fun h => absurd h (by decide)⟩
                rw [decide_eq_true hc, ddiref46_Check.j1, if_pos rfl]
              · have hj1 : ∀ k, ddiref46_Check.j1 (k + 1) l (i : Int) (decide (pcm (l[i - 1]'(by omega)).f0 l[i].f0 > 0)) = ddiref46_Check.j2 k l (i : Int) (eqPfx (l[i - 1]'(by omega)).f0 l[i].f0) := fun k => by
                  rw [decide_eq_false hc, ddiref46_Check.j1, if_neg Bool.false_ne_true, hw, if_pos (by omega), if_pos (by omega), if_pos (by omega), if_pos (by omega), if_pos (by omega), hr1, rdB l i h]
                  rfl
                cases he : eqPfx (l[i - 1]'(by omega)).f0 l[i].f0 with
                | true =>
                  refine ⟨12, fin 12 (Ev_shift 2 (f := fun _ => some 12) (fun k => ?_) (Ev_const rfl)), fun h => absurd h (by decide)⟩
                  rw [hj1, he, ddiref46_Check.j2, if_pos rfl]
                | false =>
                  refine ⟨c1, fin c1 (Ev_shift 2 (fun k => ?_) h1), fun hz q hq1 hq2 => ?_⟩
                  · rw [hj1, he, hj2]
                  · rcases Nat.eq_or_lt_of_le hq1 with rfl | hq1
                    · exact ⟨hvb, fun _ => ⟨by omega, he⟩, fun z hz2 => (hp1 hz).2 z (Nat.zero_le _) hz2⟩
                    · exact (hp1 hz).1 q (by omega) hq2
            · obtain rfl : i = 0 := by omega
              have hj1 : ∀ k, ddiref46_Check.j1 (k + 1) l ((0 : Nat) : Int) false = ddiref46_Check.j2 k l ((0 : Nat) : Int) false := fun k => by
                rw [ddiref46_Check.j1, if_neg Bool.false_ne_true, if_neg (by omega)]
              simp only [if_neg (show ¬ (((0 : Nat) : Int) > 0) by omega)] at fin
              refine ⟨c1, fin c1 (Ev_shift 2 (fun k => ?_) h1), fun hz q hq1 hq2 => ?_⟩
              · rw [hj1, hj2]
              · rcases Nat.eq_or_lt_of_le hq1 with rfl | hq1
                · exact ⟨hvb, fun hh => absurd hh (by omega), fun z hz2 => absurd hz2 (by omega)⟩
                · exact (hp1 hz).1 q (by omega) hq2
    · refine ⟨0, Ev_shift 1 (f := fun _ => some 0) (fun k => by rw [ddiref46_Check.l0, if_neg (by omega)]) (Ev_const rfl), fun _ q hq1 hq2 => absurd hq2 (by omega)⟩
theorem rcheck_ev (l : List S60) (hl : l.length ≤ 1000000) (ok : okT l) : ∃ c, Ev (fun k => ddiref46_Check.f k l) c ∧ (c = 0 → l.length ≤ 512 ∧ ∀ q (hq : q < l.length), TabAt l q hq) := by
  unfold ddiref46_Check.f
  by_cases h : (l.length : Int) > 512
  · simp only [if_pos h]
    exact ⟨9, Ev_const rfl, fun h => absurd h (by decide)⟩
  · simp only [if_neg h]
    obtain ⟨c, hc, hp⟩ := check_from l hl ok l.length 0 (by omega) (Nat.zero_le _)
    exact ⟨c, hc, fun h0 => ⟨by omega, fun q hq => hp h0 q (Nat.zero_le _) hq⟩⟩
/-- Whether a space is looked at. -/
theorem right_ev (l : List S60) (hs : List S73) (zs : List ByteArray) (ok : okT l) : ∃ b, Ev (fun k => ddilaw48_right.f k l hs zs) b ∧ (b = true → l.length ≤ 60 ∧ hs.length ≤ 200 ∧ ∀ q (hq : q < l.length), TabAt l q hq) := by
  unfold ddilaw48_right.f
  by_cases h1 : (l.length : Int) ≤ 60
  · by_cases h2 : (hs.length : Int) ≤ 200
    · simp only [if_pos h1, if_pos h2]
      obtain ⟨c, hc, hp⟩ := rcheck_ev l (by omega) ok
      refine ⟨c == 0, Ev_bind hc (Ev_const rfl), fun h => ⟨by omega, by omega, (hp (by simpa using h)).2⟩⟩
    · simp only [if_pos h1, if_neg h2]
      exact ⟨false, Ev_const rfl, fun h => absurd h (by decide)⟩
  · simp only [if_neg h1]
    exact ⟨false, Ev_const rfl, fun h => absurd h (by decide)⟩
end Go.Proofs.Ytjifdgicamlikaa.Ma
namespace Go.Proofs.Ytjifdgicamlikaa.Ma
open Go.RowKit Go.Proofs.YtjifdgicamlikaaW.PrintWords Go.Proofs.YtjifdgicamlikaaW.PrintLast Go.Proofs.YtjifdgicamlikaaW.PrintMore Go.Proofs.Ytjifdgicamlikaa.XP Go.Proofs.Ytjifdgicamlikaa.QA Go.Proofs.Ytjifdgicamlikaa.Cm
set_option linter.unusedVariables false
set_option linter.unusedSimpArgs false
theorem okB_of {l : List S60} {hs : List S73} {zs : List ByteArray} (h : okS26 (⟨l, hs, zs⟩ : S26)) : l.length ≤ 1759218604440 ∧ okT l ∧ (∀ b ∈ l, okS60 b) ∧ (∀ x ∈ hs, okS73 x) := by
  obtain ⟨⟨h1, _, h2⟩, ⟨_, _, h3⟩, _⟩ := h
  exact ⟨by simp only at h1; omega, fun b hb => ⟨uA_of (h2 b hb).1.1, (h2 b hb).2.2.1, (h2 b hb).2.2.2.1⟩, h2, h3⟩
theorem reports_loop (u : List S29) (l : List S60) (hl : l.length ≤ 1759218604441) : ∀ (r : List S60) (i : Nat), l.drop i = r → Ev (fun k => ddilaw48_UsageReports.l0 k (l.map (repB u)) (l.map (repR u)) (i : Int)) true
  | [], i, h => by
    have := drop_end h
    refine Ev_shift 1 (fun k => ?_) (Ev_bind (f := fun _ t455 => some t455) awake_ev (Ev_const rfl))
    rw [ddilaw48_UsageReports.l0, if_neg (by rw [List.length_map]; omega)]
  | b :: r, i, h => by
    obtain ⟨hi, hx, hr⟩ := rd60 l i b r h
    have hxi : l[i] = b := (drop_at h).2.1
    have ih := reports_loop u l hl r (i + 1) hr
    have h1 : rd_T36 (l.map (repB u)) (i : Int) = repB u b := by
      simp [rd_T36, List.getD_eq_getElem?_getD, List.getElem?_eq_getElem hi, hxi]
    have h2 : rd_T39 (l.map (repR u)) (i : Int) = repR u b := by
      simp [rd_T39, List.getD_eq_getElem?_getD, List.getElem?_eq_getElem hi, hxi]
    refine Ev_shift 1 (fun k => ?_) ih
    rw [ddilaw48_UsageReports.l0, if_pos (by rw [List.length_map]; omega), if_pos (by omega), if_pos (by rw [List.length_map]; omega), h1, h2, if_neg (by simp [repB, repR]), next i l.length hi (by omega)]
theorem usageReports : ddilaw48_UsageReports.Pure := by
  intro l hs zs p0 p1 p2 p3 u hS hp ⟨hu, _, oku⟩
  obtain ⟨hl, hT, _, _⟩ := okB_of hS
  refine Ev.rounds (?_ : Ev (fun k => ddilaw48_UsageReports.f k l hs zs p0 p1 p2 p3 u) true)
  obtain ⟨t, ht, _⟩ := right_ev l hs zs hT
  unfold ddilaw48_UsageReports.f
  refine Ev_bind ht ?_
  have haw : Ev (fun k => ddilaw48_UsageReports.j0 k u true l hs zs p0 p1 p2 p3) true := by
    refine Ev_shift 1 (fun k => ?_) (Ev_bind (f := fun _ t428 => some t428) awake_ev (Ev_const rfl))
    rw [ddilaw48_UsageReports.j0, if_pos rfl]
  cases t with
  | false => exact haw
  | true =>
    simp only [if_true]
    by_cases h1 : (u.length : Int) > 100
    · rw [decide_eq_true h1]
      exact haw
    · rw [decide_eq_false h1]
      have e1 := of_ev ⟨⟨p0, p1, p2⟩, p3⟩ l u (by omega) hu oku
      have e2 := rof_ev ⟨⟨p0, p1, p2⟩, p3⟩ l u (by omega) hu oku
      have e3 := all_ev l hs zs u (by omega) hu oku
      have e4 := rall_ev l hs zs u (by omega) hu oku
      have key : ∀ T : Bool × Int × Int × Int × Int × Int × Int × Bool, Ev (fun k => (if (((!(T.1 == T.1) || (!(T.2.1 == T.2.1) || (!(T.2.2.1 == T.2.2.1)))) || (!(T.2.2.2.1 == T.2.2.2.1))) || (!(T.2.2.2.2.1 == T.2.2.2.2.1) || (!(T.2.2.2.2.2.1 == T.2.2.2.2.2.1) || (!(T.2.2.2.2.2.2.1 == T.2.2.2.2.2.2.1))))) = true then (ddilaw48_UsageReports.j1 k (l.map (repB u)) (l.map (repR u)) true) else (if (T.2.2.2.2.2.2.2 != T.2.2.2.2.2.2.2) = true then (ddilaw48_UsageReports.j1 k (l.map (repB u)) (l.map (repR u)) true) else (ddilaw48_UsageReports.j1 k (l.map (repB u)) (l.map (repR u)) (((l.map (repB u)).length : Int) != ((l.map (repR u)).length : Int)))))) true := fun T => by
        have c1 : (((!(T.1 == T.1) || (!(T.2.1 == T.2.1) || (!(T.2.2.1 == T.2.2.1)))) || (!(T.2.2.2.1 == T.2.2.2.1))) || (!(T.2.2.2.2.1 == T.2.2.2.2.1) || (!(T.2.2.2.2.2.1 == T.2.2.2.2.2.1) || (!(T.2.2.2.2.2.2.1 == T.2.2.2.2.2.2.1))))) = false := by simp
        have c2 : (T.2.2.2.2.2.2.2 != T.2.2.2.2.2.2.2) = false := by simp
        have c3 : (((l.map (repB u)).length : Int) != ((l.map (repR u)).length : Int)) = false := by simp
        simp only [c1, c2, c3, Bool.false_eq_true, if_false]
        refine Ev_shift 1 (fun k => ?_) (reports_loop u l (by omega) l 0 rfl)
        rw [ddilaw48_UsageReports.j1, if_neg Bool.false_ne_true]
        rfl
      refine Ev_shift 1 (fun k => by rw [ddilaw48_UsageReports.j0, if_neg Bool.false_ne_true]) ?_
      refine Ev_bind e1 ?_
      refine Ev_bind e2 ?_
      refine Ev_bind e3 ?_
      refine Ev_bind e4 ?_
      exact key _
end Go.Proofs.Ytjifdgicamlikaa.Ma
namespace Go.Proofs.Ytjifdgicamlikaa.Pure
theorem UsageReports : QA.ddilaw48_UsageReports.Pure := Ma.usageReports
end Go.Proofs.Ytjifdgicamlikaa.Pure
