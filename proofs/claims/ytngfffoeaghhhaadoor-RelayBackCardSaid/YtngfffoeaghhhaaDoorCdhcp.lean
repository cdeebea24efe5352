/- A message that may be sent: the program's Valid (no condition but the sizes). -/
import Derived.Test.YtngfffoeaghhhaaDoorQAd
import Derived.Test.YtngfffoeaghhhaaDoorCpool
namespace Go.Proofs.YtngfffoeaghhhaaDoor.Cm
open Go.RowKit Go.Proofs.YtngfffoeaghhhaaDoorW.PrintWords Go.Proofs.YtngfffoeaghhhaaDoorW.PrintLast Go.Proofs.YtngfffoeaghhhaaDoorW.PrintMore Go.Proofs.YtngfffoeaghhhaaDoor.XP Go.Proofs.YtngfffoeaghhhaaDoor.QA
set_option linter.unusedVariables false
set_option linter.unusedSimpArgs false
def opV (n : Int) : Int := if n = 1 ∨ n = 3 ∨ n = 4 ∨ n = 7 ∨ n = 8 then 1 else (if n = 2 ∨ n = 5 ∨ n = 6 then 2 else 0)
theorem op_ev (n : Int) : Ev (fun k => dhcp_operation.f k n) (opV n) := by
  have h1 : ∀ b : Bool, Ev (fun k => dhcp_operation.j1 k b) (if b = true then 2 else 0) := by
    intro b
    refine Ev_shift 1 (fun k => by rw [dhcp_operation.j1]) ?_
    cases b <;> exact Ev_const rfl
  have h0 : ∀ b : Bool, Ev (fun k => dhcp_operation.j0 k n b) (if b = true then 1 else (if n = 2 ∨ n = 5 ∨ n = 6 then 2 else 0)) := by
    intro b
    refine Ev_shift 1 (fun k => by rw [dhcp_operation.j0]) ?_
    cases b with
    | true => exact Ev_const rfl
    | false =>
      simp only [Bool.false_eq_true, if_false]
      by_cases c2 : n = 2
      · subst c2
        simpa using h1 true
      · simp only [if_neg c2]
        by_cases c5 : n = 5
        · subst c5
          simpa using h1 true
        · simp only [if_neg c5]
          by_cases c6 : n = 6
          · subst c6
            simpa using h1 true
          · have := h1 (n == 6)
            rw [show (n == 6) = false from by simpa using c6] at this ⊢
            simpa [c2, c5, c6] using this
  unfold dhcp_operation.f opV
  by_cases c1 : n = 1
  · subst c1
    simpa using h0 true
  · simp only [if_neg c1]
    by_cases c3 : n = 3
    · subst c3
      simpa using h0 true
    · simp only [if_neg c3]
      by_cases c4 : n = 4
      · subst c4
        simpa using h0 true
      · simp only [if_neg c4]
        by_cases c7 : n = 7
        · subst c7
          simpa using h0 true
        · simp only [if_neg c7]
          by_cases c8 : n = 8
          · subst c8
            simpa using h0 true
          · have := h0 (n == 8)
            rw [show (n == 8) = false from by simpa using c8] at this ⊢
            simpa [c1, c3, c4, c7, c8] using this
theorem dclient_from (s : ByteArray) (hs : s.size ≤ 140737488351232) : ∀ (r : List UInt8) (i : Nat), s.data.toList.drop i = r → Ev (fun k => dhcp_client.l0 k s (s.size : Int) (i : Int)) (r.all visB)
  | [], i, h => by
    have := size_end s i h
    exact Ev_shift 1 (f := fun _ => some true) (fun k => by rw [dhcp_client.l0, if_neg (by omega)]) (Ev_const rfl)
  | c :: r, i, h => by
    obtain ⟨hi, hb, hr⟩ := bt_at_drop s i c r h
    have ih := dclient_from s hs r (i + 1) hr
    have hj : ∀ b : Bool, b = !visB c → Ev (fun k => dhcp_client.j2 k s (s.size : Int) (i : Int) b) (List.all (c :: r) visB) := by
      intro b hbc
      rw [List.all_cons]
      cases hv : visB c with
      | false =>
        rw [hv] at hbc
        subst hbc
        exact Ev_shift 1 (f := fun _ => some false) (fun k => by rw [dhcp_client.j2, if_pos (by decide)]) (Ev_const rfl)
      | true =>
        rw [hv] at hbc
        subst hbc
        rw [Bool.true_and]
        refine Ev_shift 1 (fun k => ?_) ih
        rw [dhcp_client.j2, if_neg (by decide), next i s.size hi (by omega)]
    refine Ev_shift 1 (fun k => by rw [dhcp_client.l0, if_pos (by omega), if_pos (by omega), if_pos (by omega), hb]) ?_
    by_cases h1 : (c.toNat : Int) < 33
    · simp only [if_pos h1]
      refine hj true ?_
      unfold visB
      rw [decide_eq_false (show ¬ 33 ≤ c.toNat by omega)]
      rfl
    · simp only [if_neg h1]
      refine hj _ ?_
      unfold visB
      rw [decide_eq_true (show 33 ≤ c.toNat by omega)]
      by_cases h2 : c.toNat ≤ 126
      · rw [decide_eq_true h2, decide_eq_false (by omega)]; rfl
      · rw [decide_eq_false h2, decide_eq_true (by omega)]; rfl
theorem dclient_v (s : ByteArray) (hs : s.size ≤ 140737488351232) : Ev (fun k => dhcp_client.f k s) (clB s) := by
  have hsz := size_data s
  have hj : ∀ b : Bool, b = !(decide (1 ≤ s.size) && decide (s.size ≤ 32)) → Ev (fun k => dhcp_client.j0 k s b) (clB s) := by
    intro b hb
    unfold clB
    cases hc : (decide (1 ≤ s.size) && decide (s.size ≤ 32)) with
    | false =>
      rw [hc] at hb
      subst hb
      exact Ev_shift 1 (f := fun _ => some false) (fun k => by rw [dhcp_client.j0, if_pos (by decide)]) (Ev_const rfl)
    | true =>
      rw [hc] at hb
      subst hb
      rw [Bool.true_and]
      refine Ev_shift 1 (fun k => by rw [dhcp_client.j0, if_neg (by decide)]) ?_
      exact dclient_from s hs s.data.toList 0 rfl
  unfold dhcp_client.f
  by_cases h1 : s.toList = ([] : List UInt8)
  · simp only [if_pos h1]
    rw [toL] at h1
    rw [h1, List.length_nil] at hsz
    exact hj true (by rw [decide_eq_false (show ¬ 1 ≤ s.size by omega)]; rfl)
  · simp only [if_neg h1]
    rw [toL] at h1
    have : 0 < s.data.toList.length := List.length_pos_iff.2 h1
    refine hj _ ?_
    rw [decide_eq_true (show 1 ≤ s.size by omega)]
    by_cases h2 : s.size ≤ 32
    · rw [decide_eq_true h2, decide_eq_false (by omega)]; rfl
    · rw [decide_eq_false h2, decide_eq_true (by omega)]; rfl
def ip4B (a : S24) : Bool := !a.f0 && adB a
theorem ip4_v (a : S24) : dhcp_ipv4.f a.f0 a.f1 a.f2 = some (ip4B a) := by
  unfold dhcp_ipv4.f ip4B
  rw [ad_v]
  cases a.f0 <;> rfl
def dv1 (p : S27) : Bool := !decide (opV p.f0 = 0) && ((decide (0 ≤ p.f1) && decide (p.f1 < 4294967296)) && ((decide (0 ≤ p.f2) && decide (p.f2 < 65536)) && clB p.f3))
def dv2 (p : S27) : Bool := ip4B p.f4 && (ip4B p.f5 && (ip4B p.f6 && (p.f7 || !(p.f6.f0 || (!(p.f6.f1 == 0) || (!(p.f6.f2 == 0)))))))
def dvB (p : S27) : Bool := dv1 p && (dv2 p && validO p.f8)
theorem dvalid_v (p : S27) (hs : p.f3.size ≤ 140737488351232) (hl : p.f8.length ≤ 140737488351232) (ok : ∀ x ∈ p.f8, x.f1.size ≤ 140737488351232) : Ev (fun k => dhcp_Valid.f k p.f0 p.f1 p.f2 p.f3 p.f4.f0 p.f4.f1 p.f4.f2 p.f5.f0 p.f5.f1 p.f5.f2 p.f6.f0 p.f6.f1 p.f6.f2 p.f7 p.f8) (dvB p) := by
  have h1 : ∀ b : Bool, b = !dv2 p → Ev (fun k => dhcp_Valid.j1 k b p.f0 p.f1 p.f2 p.f3 p.f4.f0 p.f4.f1 p.f4.f2 p.f5.f0 p.f5.f1 p.f5.f2 p.f6.f0 p.f6.f1 p.f6.f2 p.f7 p.f8) (dv2 p && validO p.f8) := by
    intro b hb
    cases h2 : dv2 p with
    | false =>
      rw [h2] at hb
      subst hb
      exact Ev_shift 1 (f := fun _ => some false) (fun k => by rw [dhcp_Valid.j1, if_pos (by decide)]) (Ev_const rfl)
    | true =>
      rw [h2] at hb
      subst hb
      refine Ev_shift 1 (fun k => by rw [dhcp_Valid.j1, if_neg (by decide)]) ?_
      exact Ev.bind (valid_ev p.f8 hl ok) (Ev_const rfl)
  have h0 : ∀ b : Bool, b = !dv1 p → Ev (fun k => dhcp_Valid.j0 k b p.f0 p.f1 p.f2 p.f3 p.f4.f0 p.f4.f1 p.f4.f2 p.f5.f0 p.f5.f1 p.f5.f2 p.f6.f0 p.f6.f1 p.f6.f2 p.f7 p.f8) (dvB p) := by
    intro b hb
    unfold dvB
    cases h2 : dv1 p with
    | false =>
      rw [h2] at hb
      subst hb
      exact Ev_shift 1 (f := fun _ => some false) (fun k => by rw [dhcp_Valid.j0, if_pos (by decide)]) (Ev_const rfl)
    | true =>
      rw [h2] at hb
      subst hb
      rw [Bool.true_and]
      refine Ev_shift 1 (fun k => by rw [dhcp_Valid.j0, if_neg (by decide), ip4_v, ip4_v, ip4_v]) ?_
      simp only [Option.bind_some]
      cases e4 : ip4B p.f4 with
      | false =>
        simp only [Bool.false_eq_true, if_false]
        exact h1 true (by simp [dv2, e4])
      | true =>
        cases e5 : ip4B p.f5 with
        | false =>
          simp only [Bool.false_eq_true, if_false, if_true]
          exact h1 true (by simp [dv2, e5])
        | true =>
          cases e6 : ip4B p.f6 with
          | false =>
            simp only [Bool.false_eq_true, if_false, if_true]
            exact h1 true (by simp [dv2, e6])
          | true =>
            simp only [if_true]
            cases e7 : p.f7 with
            | true =>
              simp only [if_true]
              have := h1 false (by simp [dv2, e4, e5, e6, e7])
              rw [e7] at this
              exact this
            | false =>
              simp only [Bool.false_eq_true, if_false]
              have := h1 (p.f6.f0 || (!(p.f6.f1 == 0) || (!(p.f6.f2 == 0)))) (by simp [dv2, e4, e5, e6, e7])
              rw [e7] at this
              exact this
  unfold dhcp_Valid.f
  refine Ev.bind (op_ev p.f0) ?_
  by_cases c0 : opV p.f0 = 0
  · simp only [if_pos c0]
    exact h0 true (by simp [dv1, c0])
  · simp only [if_neg c0]
    by_cases c1 : p.f1 < 0
    · simp only [if_pos c1]
      exact h0 true (by simp [dv1]; omega)
    · simp only [if_neg c1]
      by_cases c2 : p.f1 ≥ 4294967296
      · simp only [if_pos c2]
        exact h0 true (by simp [dv1]; omega)
      · simp only [if_neg c2]
        by_cases c3 : p.f2 < 0
        · simp only [if_pos c3]
          exact h0 true (by simp [dv1]; omega)
        · simp only [if_neg c3]
          by_cases c4 : p.f2 ≥ 65536
          · simp only [if_pos c4]
            exact h0 true (by simp [dv1]; omega)
          · simp only [if_neg c4]
            refine Ev.bind (dclient_v p.f3 hs) ?_
            refine h0 _ ?_
            unfold dv1
            rw [decide_eq_false c0, decide_eq_true (show 0 ≤ p.f1 by omega), decide_eq_true (show p.f1 < 4294967296 by omega), decide_eq_true (show 0 ≤ p.f2 by omega), decide_eq_true (show p.f2 < 65536 by omega)]
            rfl
end Go.Proofs.YtngfffoeaghhhaaDoor.Cm
