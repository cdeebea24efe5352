/- FailoverMerges: Merge and Serves give what the reference gives. -/
import Derived.Test.YtpcjablkjaiapaaDoorQAd2
import Derived.Test.YtpcjablkjaiapaaDoorQAd1
import Derived.Test.YtpcjablkjaiapaaDoorMe
namespace Go.Proofs.YtpcjablkjaiapaaDoor.Ma
open Go.RowKit Go.Proofs.YtpcjablkjaiapaaDoorW.PrintWords Go.Proofs.YtpcjablkjaiapaaDoorW.PrintLast Go.Proofs.YtpcjablkjaiapaaDoorW.PrintMore Go.Proofs.YtpcjablkjaiapaaDoor.XP Go.Proofs.YtpcjablkjaiapaaDoor.QA Go.Proofs.YtpcjablkjaiapaaDoor.Cm
set_option linter.unusedVariables false
set_option linter.unusedSimpArgs false
def rnd (h : Int) : Int := IntKind.u64.wrap ((Go.bits .xor .u64 h (h / 4294967296)) * 11400714819323198485)
theorem u64_nn (v : Int) : 0 ≤ IntKind.u64.wrap v := by
  simp [IntKind.wrap, IntKind.signed, IntKind.bits]
  omega
theorem w01 : wrap64 (0 + 1) = 1 := by rw [wrap_id (by omega) (by omega)]; rfl
theorem w12 : wrap64 (1 + 1) = 2 := by rw [wrap_id (by omega) (by omega)]; rfl
theorem w23 : wrap64 (2 + 1) = 3 := by rw [wrap_id (by omega) (by omega)]; rfl
theorem sum1 (h : Int) : Ev (fun k => digest_Sum.l1 k h 0) (rnd (rnd (rnd h))) :=
  Ev_shift 4 (f := fun _ => some (rnd (rnd (rnd h)))) (fun k => by
    rw [digest_Sum.l1, if_pos (by omega), w01, digest_Sum.l1, if_pos (by omega), w12, digest_Sum.l1, if_pos (by omega), w23, digest_Sum.l1, if_neg (by omega)]
    rfl) (Ev_const rfl)
def sm : List UInt8 → Int → Int
  | [], h => rnd (rnd (rnd h))
  | b :: r, h => sm r (IntKind.u64.wrap ((Go.bits .xor .u64 h (IntKind.u64.wrap (b.toNat : Int))) * 1099511628211))
theorem sum_from (s : ByteArray) (hs : s.size ≤ 140737488351232) : ∀ (r : List UInt8) (i : Nat) (h : Int), s.data.toList.drop i = r → Ev (fun k => digest_Sum.l0 k s h (i : Int)) (sm r h)
  | [], i, h, hd => by
    have := size_end s i hd
    exact Ev_shift 1 (fun k => by rw [digest_Sum.l0, if_neg (by omega)]) (sum1 h)
  | b :: r, i, h, hd => by
    obtain ⟨hi, hb, hr⟩ := bt_at_drop s i b r hd
    have ih := sum_from s hs r (i + 1) (IntKind.u64.wrap ((Go.bits .xor .u64 h (IntKind.u64.wrap (b.toNat : Int))) * 1099511628211)) hr
    exact Ev_shift 1 (fun k => by rw [digest_Sum.l0, if_pos (by omega), if_pos (by omega), hb, next i s.size hi (by omega)]) ih
def sumV (s : ByteArray) : Int := sm s.data.toList 14695981039346656037
theorem sum_ev (s : ByteArray) (hs : s.size ≤ 140737488351232) : Ev (fun k => digest_Sum.f k s) (sumV s) := by
  unfold digest_Sum.f
  exact sum_from s hs _ 0 _ rfl
def stN (n : Int) : Int := if n < 0 then 0 else (if n > 4 then 0 else n)
theorem state_ev (b : Bool) (n u m : Int) : Ev (fun k => failover_state.f k b n u m) (stN n) := by
  unfold failover_state.f stN
  split
  · exact Ev_shift 1 (f := fun _ => some 0) (fun k => by rw [failover_state.j0, if_pos rfl]) (Ev_const rfl)
  · by_cases h : n > 4
    · rw [if_pos h, decide_eq_true h]
      exact Ev_shift 1 (f := fun _ => some 0) (fun k => by rw [failover_state.j0, if_pos rfl]) (Ev_const rfl)
    · rw [if_neg h, decide_eq_false h]
      exact Ev_shift 1 (f := fun _ => some n) (fun k => by rw [failover_state.j0, if_neg Bool.false_ne_true]) (Ev_const rfl)
def srvB (b : Bool) (n : Int) (c : ByteArray) : Bool := if n = 1 then ((Int.tmod (sumV c) 2 == 0) == b) else (if n = 2 then true else (n == 3))
theorem st_eq (n : Int) (m : Int) (h1 : 1 ≤ m) (h2 : m ≤ 4) : stN n = m ↔ n = m := by
  unfold stN
  split
  · omega
  · split <;> omega
theorem serves_ev (b : Bool) (n u m : Int) (c : ByteArray) (hc : c.size ≤ 140737488351232) (t : Int) : Ev (fun k => failover_Serves.f k b n u m c t) (srvB b n c) := by
  unfold failover_Serves.f srvB
  refine Ev.bind (state_ev b n u m) ?_
  have e1 := st_eq n 1 (by omega) (by omega)
  have e2 := st_eq n 2 (by omega) (by omega)
  have e3 := st_eq n 3 (by omega) (by omega)
  have hj : ∀ x : Bool, Ev (fun k => failover_Serves.j0 k x) x := by
    intro x
    cases x with
    | true => exact Ev_shift 1 (f := fun _ => some true) (fun k => by rw [failover_Serves.j0, if_pos rfl]) (Ev_const rfl)
    | false => exact Ev_shift 1 (f := fun _ => some false) (fun k => by rw [failover_Serves.j0, if_neg Bool.false_ne_true]) (Ev_const rfl)
  by_cases h1 : n = 1
  · rw [if_pos h1]
    simp only [if_pos (e1.2 h1)]
    exact Ev.bind (sum_ev c hc) (Ev_const rfl)
  · rw [if_neg h1]
    simp only [if_neg (fun h => h1 (e1.1 h))]
    by_cases h2 : n = 2
    · rw [if_pos h2]
      simp only [if_pos (e2.2 h2)]
      have := hj (stN n == 2)
      rw [show (stN n == 2) = true by simpa using e2.2 h2] at this ⊢
      exact this
    · rw [if_neg h2]
      simp only [if_neg (fun h => h2 (e2.1 h))]
      have := hj (stN n == 3)
      rw [show (stN n == 3) = (n == 3) by rw [Bool.eq_iff_iff, beq_iff_eq, beq_iff_eq]; exact e3] at this ⊢
      exact this
def x0 : S27 := ⟨⟨false, 0, 1⟩, ⟨#[99]⟩, 2, 0, 5, ⟨#[]⟩, 0⟩
end Go.Proofs.YtpcjablkjaiapaaDoor.Ma
