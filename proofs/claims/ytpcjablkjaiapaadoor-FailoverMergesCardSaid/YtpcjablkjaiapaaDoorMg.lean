/- FailoverMerges: Merge and Serves give what the reference gives. -/
import Derived.Test.YtpcjablkjaiapaaDoorQAd2
import Derived.Test.YtpcjablkjaiapaaDoorMf
namespace Go.Proofs.YtpcjablkjaiapaaDoor.Ma
open Go.RowKit Go.Proofs.YtpcjablkjaiapaaDoorW.PrintWords Go.Proofs.YtpcjablkjaiapaaDoorW.PrintLast Go.Proofs.YtpcjablkjaiapaaDoorW.PrintMore Go.Proofs.YtpcjablkjaiapaaDoor.XP Go.Proofs.YtpcjablkjaiapaaDoor.QA Go.Proofs.YtpcjablkjaiapaaDoor.Cm
set_option linter.unusedVariables false
set_option linter.unusedSimpArgs false
def rnd (h : Int) : Int := IntKind.u64.wrap ((Go.bits .xor .u64 h (h / 4294967296)) * 11400714819323198485)
theorem u64_nn (v : Int) : 0 ≤ IntKind.u64.wrap v := by
  simp [IntKind.wrap, IntKind.signed, IntKind.bits]
  omega
theorem rnd_nn (h : Int) : 0 ≤ rnd h := u64_nn _
theorem u64_lt (v : Int) : IntKind.u64.wrap v < 18446744073709551616 := by
  simp [IntKind.wrap, IntKind.signed, IntKind.bits]
  omega
theorem rnd_lt (h : Int) : rnd h < 18446744073709551616 := u64_lt _
theorem u64_id (v : Int) (h0 : 0 ≤ v) (h1 : v < 18446744073709551616) : IntKind.u64.wrap v = v := by
  simp [IntKind.wrap, IntKind.signed, IntKind.bits]
  omega
theorem w01 : wrap64 (0 + 1) = 1 := by rw [wrap_id (by omega) (by omega)]; rfl
theorem w12 : wrap64 (1 + 1) = 2 := by rw [wrap_id (by omega) (by omega)]; rfl
theorem w23 : wrap64 (2 + 1) = 3 := by rw [wrap_id (by omega) (by omega)]; rfl
theorem sum1 (h : Int) : Ev (fun k => digest_Sum.l1 k h 0) (rnd (rnd (rnd h))) :=
  Ev_shift 4 (f := fun _ => some (rnd (rnd (rnd h)))) (fun k => by
    rw [digest_Sum.l1, if_pos (by omega), w01, digest_Sum.l1, if_pos (by omega), w12, digest_Sum.l1, if_pos (by omega), w23, digest_Sum.l1, if_neg (by omega)]
    rfl) (Ev_const rfl)
theorem tdiv32 {h : Int} (h0 : 0 ≤ h) : Int.tdiv h 4294967296 = h / 4294967296 := Int.tdiv_eq_ediv_of_nonneg h0
theorem rl1 (k : Nat) (h n : Int) (h0 : 0 ≤ h) (h1 : h < 18446744073709551616) (hn : n < 3) : ddiref18_Sum.l1 (k + 1) h n = ddiref18_Sum.l1 k (rnd h) (wrap64 (n + 1)) := by
  rw [ddiref18_Sum.l1, if_pos hn, tdiv32 h0, u64_id (h / 4294967296) (by omega) (by omega), rnd]
theorem rsum1 (h : Int) (h0 : 0 ≤ h) (h1 : h < 18446744073709551616) : Ev (fun k => ddiref18_Sum.l1 k h 0) (rnd (rnd (rnd h))) :=
  Ev_shift 4 (f := fun _ => some (rnd (rnd (rnd h)))) (fun k => by
    rw [rl1 (k + 3) h 0 h0 h1 (by omega), w01, rl1 (k + 2) _ 1 (rnd_nn _) (rnd_lt _) (by omega), w12, rl1 (k + 1) _ 2 (rnd_nn _) (rnd_lt _) (by omega), w23, ddiref18_Sum.l1, if_neg (by omega)]) (Ev_const rfl)
def sm : List UInt8 → Int → Int
  | [], h => rnd (rnd (rnd h))
  | b :: r, h => sm r (IntKind.u64.wrap ((Go.bits .xor .u64 h (IntKind.u64.wrap (b.toNat : Int))) * 1099511628211))
theorem sum_from (s : ByteArray) (hs : s.size ≤ 140737488351232) : ∀ (r : List UInt8) (i : Nat) (h : Int), s.data.toList.drop i = r → Ev (fun k => digest_Sum.l0 k s h (i : Int)) (sm r h)
  | [], i, h, hd => by
    have := size_end s i hd
    exact Ev_shift 1 (fun k => by rw [digest_Sum.l0, if_neg (by omega)]) (sum1 h)
  | b :: r, i, h, hd => by
    obtain ⟨hi, hb, hr⟩ := bt_at_drop s i b r hd
    have ih := sum_from s hs r (i + 1) (IntKind.u64.wrap ((Go.bits .xor .u64 h (IntKind.u64.wrap (b.toNat : Int))) * 1099511628211)) hr
    exact Ev_shift 1 (fun k => by rw [digest_Sum.l0, if_pos (by omega), if_pos (by omega), hb, next i s.size hi (by omega)]) ih
theorem rsum_from (s : ByteArray) (hs : s.size ≤ 140737488351232) : ∀ (r : List UInt8) (i : Nat) (h : Int), 0 ≤ h → h < 18446744073709551616 → s.data.toList.drop i = r → Ev (fun k => ddiref18_Sum.l0 k s h (i : Int)) (sm r h)
  | [], i, h, h0, h1, hd => by
    have := size_end s i hd
    exact Ev_shift 1 (fun k => by rw [ddiref18_Sum.l0, if_neg (by omega)]) (rsum1 h h0 h1)
  | b :: r, i, h, h0, h1, hd => by
    obtain ⟨hi, hb, hr⟩ := bt_at_drop s i b r hd
    have ih := rsum_from s hs r (i + 1) (IntKind.u64.wrap ((Go.bits .xor .u64 h (IntKind.u64.wrap (b.toNat : Int))) * 1099511628211)) (u64_nn _) (u64_lt _) hr
    exact Ev_shift 1 (fun k => by rw [ddiref18_Sum.l0, if_pos (by omega), if_pos (by omega), hb, next i s.size hi (by omega)]) ih
def sumV (s : ByteArray) : Int := sm s.data.toList 14695981039346656037
theorem sum_ev (s : ByteArray) (hs : s.size ≤ 140737488351232) : Ev (fun k => digest_Sum.f k s) (sumV s) := by
  unfold digest_Sum.f
  exact sum_from s hs _ 0 _ rfl
theorem rsum_ev (s : ByteArray) (hs : s.size ≤ 140737488351232) : Ev (fun k => ddiref18_Sum.f k s) (sumV s) := by
  unfold ddiref18_Sum.f
  exact rsum_from s hs _ 0 _ (by omega) (by omega) rfl
def stN (n : Int) : Int := if n < 0 then 0 else (if n > 4 then 0 else n)
theorem state_ev (b : Bool) (n u m : Int) : Ev (fun k => failover_state.f k b n u m) (stN n) := by
  unfold failover_state.f stN
  split
  · exact Ev_shift 1 (f := fun _ => some 0) (fun k => by rw [failover_state.j0, if_pos rfl]) (Ev_const rfl)
  · by_cases h : n > 4
    · rw [if_pos h, decide_eq_true h]
      exact Ev_shift 1 (f := fun _ => some 0) (fun k => by rw [failover_state.j0, if_pos rfl]) (Ev_const rfl)
    · rw [if_neg h, decide_eq_false h]
      exact Ev_shift 1 (f := fun _ => some n) (fun k => by rw [failover_state.j0, if_neg Bool.false_ne_true]) (Ev_const rfl)
def srvB (b : Bool) (n : Int) (c : ByteArray) : Bool := if n = 1 then ((Int.tmod (sumV c) 2 == 0) == b) else (if n = 2 then true else (n == 3))
theorem st_eq (n : Int) (m : Int) (h1 : 1 ≤ m) (h2 : m ≤ 4) : stN n = m ↔ n = m := by
  unfold stN
  split
  · omega
  · split <;> omega
theorem serves_ev (b : Bool) (n u m : Int) (c : ByteArray) (hc : c.size ≤ 140737488351232) (t : Int) : Ev (fun k => failover_Serves.f k b n u m c t) (srvB b n c) := by
  unfold failover_Serves.f srvB
  refine Ev.bind (state_ev b n u m) ?_
  have e1 := st_eq n 1 (by omega) (by omega)
  have e2 := st_eq n 2 (by omega) (by omega)
  have e3 := st_eq n 3 (by omega) (by omega)
  have hj : ∀ x : Bool, Ev (fun k => failover_Serves.j0 k x) x := by
    intro x
    cases x with
    | true => exact Ev_shift 1 (f := fun _ => some true) (fun k => by rw [failover_Serves.j0, if_pos rfl]) (Ev_const rfl)
    | false => exact Ev_shift 1 (f := fun _ => some false) (fun k => by rw [failover_Serves.j0, if_neg Bool.false_ne_true]) (Ev_const rfl)
  by_cases h1 : n = 1
  · rw [if_pos h1]
    simp only [if_pos (e1.2 h1)]
    exact Ev.bind (sum_ev c hc) (Ev_const rfl)
  · rw [if_neg h1]
    simp only [if_neg (fun h => h1 (e1.1 h))]
    by_cases h2 : n = 2
    · rw [if_pos h2]
      simp only [if_pos (e2.2 h2)]
      have := hj (stN n == 2)
      rw [show (stN n == 2) = true by simpa using e2.2 h2] at this ⊢
      exact this
    · rw [if_neg h2]
      simp only [if_neg (fun h => h2 (e2.1 h))]
      have := hj (stN n == 3)
      rw [show (stN n == 3) = (n == 3) by rw [Bool.eq_iff_iff, beq_iff_eq, beq_iff_eq]; exact e3] at this ⊢
      exact this
theorem rserves_ev (b : Bool) (n u m : Int) (c : ByteArray) (hc : c.size ≤ 140737488351232) (t : Int) : Ev (fun k => ddiref44_Serves.f k b n u m c t) (srvB b n c) := by
  unfold ddiref44_Serves.f srvB
  split
  · exact Ev.bind (rsum_ev c hc) (Ev_const rfl)
  · split
    · exact Ev_const rfl
    · exact Ev_const rfl
theorem mrg_len (l : List S27) (x : S27) : (mrgT l x).1.length ≤ l.length + 1 := by
  unfold mrgT
  split
  · split
    · split <;> simp
    · split
      · simp
      · show (ins x l).length ≤ _
        unfold ins
        have := pos_le x.f0 l
        simp
        omega
  · simp
def x0 : S27 := ⟨⟨false, 0, 1⟩, ⟨#[99]⟩, 2, 0, 5, ⟨#[]⟩, 0⟩
theorem x0_ok : okS27 x0 := by
  refine ⟨⟨?_, ?_⟩, ?_⟩ <;> decide
theorem first_ev : Ev (fun k => failover_Merge.f k ([] : List S27) false 0 1 (⟨#[99]⟩ : ByteArray) 2 0 5 (⟨#[]⟩ : ByteArray) 0) ([x0], true) := by
  have := merge_ev [] (by simp) List.Pairwise.nil x0 x0_ok
  have e : mrgT [] x0 = ([x0], true) := by
    unfold mrgT
    rw [if_pos (by decide +kernel)]
    rfl
  rw [e] at this
  exact this
theorem failoverMerges : ddilaw44_FailoverMerges.Pure := by
  intro l a0 a1 a2 c st s0 s1 h xi pb pn pu pm ⟨hl, _, hok⟩ hx hp
  have hc : c.size ≤ 140737488351232 := hx.2.1
  refine Ev.rounds (?_ : Ev (fun k => ddilaw44_FailoverMerges.f k l a0 a1 a2 c st s0 s1 h xi pb pn pu pm) true)
  unfold ddilaw44_FailoverMerges.f
  refine Ev.bind first_ev ?_
  simp only [List.length_singleton, Int.natCast_one, if_true]
  refine Ev.bind (serves_ev false 3 0 0 ⟨#[99]⟩ (by decide) 1) ?_
  rw [show srvB false 3 ⟨#[99]⟩ = true from rfl, Bool.not_true]
  have hj2 : ∀ b : Bool, (b = false → chkT l = 0) → Ev (fun k => ddilaw44_FailoverMerges.j2 k l b a0 a1 a2 c st s0 s1 h xi) true := by
    intro b hb
    cases b with
    | true => exact Ev_shift 1 (f := fun _ => some true) (fun k => by rw [ddilaw44_FailoverMerges.j2, if_pos rfl]) (Ev_const rfl)
    | false =>
      obtain ⟨h5, hs⟩ := chkT_zero l (hb rfl)
      refine Ev_shift 1 (fun k => by rw [ddilaw44_FailoverMerges.j2, if_neg Bool.false_ne_true]) ?_
      refine Ev.bind (merge_ev l h5 hs ⟨⟨a0, a1, a2⟩, c, st, s0, s1, h, xi⟩ hx) ?_
      refine Ev.bind (rmerge_ev l h5 hs ⟨⟨a0, a1, a2⟩, c, st, s0, s1, h, xi⟩ hx) ?_
      simp only [beq_self_eq_true, if_true]
      exact Ev.bind (tables_ev _ (by have := mrg_len l ⟨⟨a0, a1, a2⟩, c, st, s0, s1, h, xi⟩; omega)) (Ev_const rfl)
  have hj1 : Ev (fun k => ddilaw44_FailoverMerges.j1 k l false a0 a1 a2 c st s0 s1 h xi) true := by
    refine Ev_shift 1 (fun k => by rw [ddilaw44_FailoverMerges.j1, if_neg Bool.false_ne_true]) ?_
    split
    · exact hj2 true (by simp)
    · split
      · exact hj2 true (by simp)
      · split
        · exact hj2 true (by simp)
        · refine Ev.bind (rcheck_ev l (by omega) hok) ?_
          exact hj2 _ (by simp)
  refine Ev_shift 1 (fun k => by rw [ddilaw44_FailoverMerges.j0, if_neg Bool.false_ne_true]) ?_
  split
  · refine Ev.bind (serves_ev pb pn pu pm c hc s1) ?_
    refine Ev.bind (rserves_ev pb pn pu pm c hc s1) ?_
    simp only [bne_self_eq_false]
    exact hj1
  · exact hj1
end Go.Proofs.YtpcjablkjaiapaaDoor.Ma
