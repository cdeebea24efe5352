/- RelayBack: what was inserted is stripped, and found again. -/
import Derived.Test.YtngfffoeaghhhaaDoorQAd
import Derived.Test.YtngfffoeaghhhaaDoorMa
import Derived.Test.YtngfffoeaghhhaaDoorCdhcp
namespace Go.Proofs.YtngfffoeaghhhaaDoor.Ma
open Go.RowKit Go.Proofs.YtngfffoeaghhhaaDoorW.PrintWords Go.Proofs.YtngfffoeaghhhaaDoorW.PrintLast Go.Proofs.YtngfffoeaghhhaaDoorW.PrintMore Go.Proofs.YtngfffoeaghhhaaDoor.XP Go.Proofs.YtngfffoeaghhhaaDoor.QA Go.Proofs.YtngfffoeaghhhaaDoor.Cm
set_option linter.unusedVariables false
set_option linter.unusedSimpArgs false
theorem strip2 (p : S27) : stripP (stripP p) = stripP p := by
  unfold stripP stripO
  simp only [List.filter_filter, Bool.and_self]
theorem find_any (c : Int) : ∀ l : List S59, (findV c l).2 = l.any (fun x => decide (x.f0 = c))
  | [] => rfl
  | x :: r => by
    rw [findV, List.any_cons]
    by_cases h : x.f0 = c
    · rw [if_pos h, decide_eq_true h]; rfl
    · rw [if_neg h, decide_eq_false h, Bool.false_or]; exact find_any c r
theorem vO_filter (f : S59 → Bool) : ∀ (l pre : List S59), vO pre l = true → vO (pre.filter f) (l.filter f) = true
  | [], pre, _ => rfl
  | x :: r, pre, h => by
    rw [vO, Bool.and_eq_true, Bool.and_eq_true] at h
    have ih := vO_filter f r (pre ++ [x]) h.2.2
    rw [List.filter_append] at ih
    cases hf : f x with
    | true =>
      rw [List.filter_cons_of_pos hf] at ih ⊢
      rw [vO, h.2.1]
      have h1 : (findV x.f0 (pre.filter f)).2 = false := by
        have h2 : (findV x.f0 pre).2 = false := by simpa using h.1
        rw [find_any, List.any_eq_false] at h2 ⊢
        intro y hy
        exact h2 y (List.mem_filter.1 hy).1
      rw [h1]
      simpa using ih
    | false =>
      rw [List.filter_cons_of_neg (by simp [hf])] at ih ⊢
      simpa using ih
theorem sum_filter (f : S59 → Bool) : ∀ l : List S59, sumO (l.filter f) ≤ sumO l
  | [] => Nat.le_refl _
  | x :: r => by
    have ih := sum_filter f r
    cases hf : f x with
    | true => rw [List.filter_cons_of_pos hf, sumO, sumO]; omega
    | false => rw [List.filter_cons_of_neg (by simp [hf]), sumO]; omega
theorem valid_strip (l : List S59) (h : validO l = true) : validO (stripO l) = true := by
  rw [validO, Bool.and_eq_true, Bool.and_eq_true] at h ⊢
  have h1 := of_decide_eq_true h.1
  have h2 := of_decide_eq_true h.2.1
  have h3 := List.length_filter_le (fun x => !isI x) l
  have h4 := sum_filter (fun x => !isI x) l
  refine ⟨decide_eq_true ?_, decide_eq_true ?_, vO_filter _ l [] h.2.2⟩
  · unfold stripO; omega
  · unfold stripO; omega
theorem dv_strip (p : S27) (h : dvB p = true) : dvB (stripP p) = true := by
  rw [dvB, Bool.and_eq_true, Bool.and_eq_true] at h ⊢
  refine ⟨h.1, ?_, valid_strip _ h.2.2⟩
  have h2 := h.2.1
  rw [dv2, Bool.and_eq_true, Bool.and_eq_true] at h2 ⊢
  exact ⟨h2.1, h2.2.1, by rfl⟩
theorem strip_repl (v : ByteArray) : ∀ l : List S59, stripO (repl 82 v l) = stripO l
  | [] => rfl
  | x :: r => by
    rw [repl]
    by_cases h : x.f0 = 82
    · rw [if_pos h]
      unfold stripO
      rw [List.filter_cons_of_neg (by simp [isI, h]), List.filter_cons_of_neg (by simp [isI, h])]
    · rw [if_neg h]
      have ih := strip_repl v r
      unfold stripO at ih ⊢
      rw [List.filter_cons_of_pos (by simp [isI, h]), List.filter_cons_of_pos (by simp [isI, h]), ih]
theorem find_repl (v : ByteArray) : ∀ l : List S59, findV 82 (repl 82 v l) = (v, true)
  | [] => by rw [repl, findV, if_pos rfl]
  | x :: r => by
    rw [repl]
    by_cases h : x.f0 = 82
    · rw [if_pos h, findV, if_pos h]
    · rw [if_neg h, findV, if_neg h]
      exact find_repl v r
theorem put82 (v : ByteArray) (l : List S59) : putV 82 v l = repl 82 v l := by
  unfold putV
  rw [if_pos (by decide)]
theorem nums2 (n : Nat) (h : n ≤ 255) : (strOfNums ([1, (n : Int) % 256] : List Int)).data.toList = [1, UInt8.ofNat n] := by
  rw [strOfNums_data]
  simp only [List.map_cons, List.map_nil]
  rw [show ((n : Int) % 256).toNat = n by omega]
  rfl
theorem circ_info (c : ByteArray) (h : c.size ≤ 255) : circV (infoB c, true) = (c, true) := by
  have hd : (infoB c).data.toList = [1, UInt8.ofNat c.size] ++ c.data.toList := by
    rw [infoB, data_app, nums2 c.size h]
  have hs := info_size c
  have b0 : bt (infoB c) 0 = 1 := by
    have := bt_get (infoB c) 0 (by rw [hd]; simp)
    simpa [hd] using this
  have b1 : bt (infoB c) 1 = (c.size : Int) := by
    have := bt_get (infoB c) 1 (by rw [hd]; simp)
    have e : ((infoB c).data.toList[1]'(by rw [hd]; simp)).toNat = c.size := by
      simp only [hd]
      show (UInt8.ofNat c.size).toNat = c.size
      rw [UInt8.toNat_ofNat']
      omega
    rw [e] at this
    exact this
  unfold circV
  have hc : circB (infoB c, true) = true := by
    unfold circB
    simp only [b0, b1, hs, Bool.true_and]
    rw [decide_eq_true (show 2 ≤ 2 + c.size by omega), wrap_id (by omega) (by omega), wrap_id (by omega) (by omega)]
    simp
    omega
  rw [if_pos hc]
  refine Prod.ext ?_ rfl
  refine data_inj ?_
  show ((infoB c).extract 2 (infoB c).size).data.toList = _
  rw [data_ext, hd, hs]
  simp
  rw [List.take_of_length_le]
  rw [← size_data]
  omega
theorem good_of {a : S24} (h : goodA a = true) : ip4B a = true := by
  unfold goodA at h
  unfold ip4B adB
  rw [Bool.and_eq_true] at h ⊢
  exact ⟨h.1, by rw [h.2]; simp⟩
theorem dv_ins (p : S27) (a : S24) (l : List S59) (ha : goodA a = true) (hl : validO l = true) (h : dvB p = true) : dvB ⟨p.f0, p.f1, p.f2, p.f3, p.f4, p.f5, a, true, l⟩ = true := by
  rw [dvB, Bool.and_eq_true, Bool.and_eq_true] at h ⊢
  refine ⟨h.1, ?_, hl⟩
  have h2 := h.2.1
  rw [dv2, Bool.and_eq_true, Bool.and_eq_true] at h2 ⊢
  exact ⟨h2.1, h2.2.1, by rw [good_of ha]; rfl⟩
theorem awk : Ev (fun k => (ddilaw39_awake.f k).bind fun t => some t) true := Ev.bind wake_ev (Ev_const rfl)
theorem back_j0 (Q : S27) (a : S24) (c : ByteArray) (hc : c.size ≤ 400) (hl : Q.f8.length ≤ 40) (hs : Q.f3.size ≤ 140737488351232) (ok : ∀ x ∈ Q.f8, x.f1.size ≤ 1100) : Ev (fun k => ddilaw39_RelayBack.j0 k c (insV Q a c).2 false Q.f0 Q.f1 Q.f2 Q.f3 Q.f4.f0 Q.f4.f1 Q.f4.f2 Q.f5.f0 Q.f5.f1 Q.f5.f2 Q.f6.f0 Q.f6.f1 Q.f6.f2 Q.f7 Q.f8 a.f0 a.f1 a.f2 (insV Q a c).1.f0 (insV Q a c).1.f1 (insV Q a c).1.f2 (insV Q a c).1.f3 (insV Q a c).1.f4.f0 (insV Q a c).1.f4.f1 (insV Q a c).1.f4.f2 (insV Q a c).1.f5.f0 (insV Q a c).1.f5.f1 (insV Q a c).1.f5.f2 (insV Q a c).1.f6.f0 (insV Q a c).1.f6.f1 (insV Q a c).1.f6.f2 (insV Q a c).1.f7 (insV Q a c).1.f8 (stripP Q).f0 (stripP Q).f1 (stripP Q).f2 (stripP Q).f3 (stripP Q).f4.f0 (stripP Q).f4.f1 (stripP Q).f4.f2 (stripP Q).f5.f0 (stripP Q).f5.f1 (stripP Q).f5.f2 (stripP Q).f6.f0 (stripP Q).f6.f1 (stripP Q).f6.f2 (stripP Q).f7 (stripP Q).f8) true := by
  refine Ev_shift 1 (fun k => by rw [ddilaw39_RelayBack.j0, if_neg (by decide)]) ?_
  have hil := insV_len Q a c
  have hsl := strip_len Q
  by_cases he : (insV Q a c).2 = 0
  · simp only [if_pos he]
    have hq : ∃ l, (insV Q a c).1 = ⟨Q.f0, Q.f1, Q.f2, Q.f3, Q.f4, Q.f5, a, true, l⟩ ∧ l = repl 82 (infoB c) Q.f8 ∧ goodA a = true ∧ c.size ≤ 255 ∧ validO l = true := by
      unfold insV at he ⊢
      by_cases hg : goodA a = true
      · rw [if_pos hg] at he ⊢
        by_cases h7 : Q.f7 = true
        · rw [if_pos h7] at he; exact absurd he (by simp)
        · rw [if_neg h7] at he ⊢
          by_cases h5 : (c.size : Int) > 255
          · rw [if_pos h5] at he; exact absurd he (by simp)
          · rw [if_neg h5] at he ⊢
            by_cases hv : validO (putV 82 (infoB c) Q.f8) = true
            · rw [if_pos hv]
              exact ⟨_, rfl, put82 _ _, hg, by omega, hv⟩
            · rw [if_neg hv] at he; exact absurd he (by simp)
      · rw [if_neg hg] at he; exact absurd he (by simp)
    obtain ⟨l, hq, hlr, hg, h255, hv⟩ := hq
    have hsz : ∀ x ∈ l, x.f1.size ≤ 1100 := by
      have := putV_sizes c hc Q.f8 ok
      rw [put82, ← hlr] at this
      exact this
    rw [hq] at hil ⊢
    obtain ⟨q, hqe⟩ : ∃ q : S27, q = ⟨Q.f0, Q.f1, Q.f2, Q.f3, Q.f4, Q.f5, a, true, l⟩ := ⟨_, rfl⟩
    have q8 : q.f8 = l := by rw [hqe]
    have q3 : q.f3 = Q.f3 := by rw [hqe]
    have q6 : q.f6 = a := by rw [hqe]
    have q7 : q.f7 = true := by rw [hqe]
    rw [← hqe] at hil ⊢
    rw [← q8] at hsz hlr hv
    have hst : stripP q = stripP Q := by
      unfold stripP
      rw [hlr, strip_repl, hqe]
    have hci : circV (findV 82 q.f8) = (c, true) := by rw [hlr, find_repl, circ_info c h255]
    refine Ev.bind (circ_ev q (by omega)) ?_
    refine Ev.bind (ins_ev q a c hc (by omega) hsz) ?_
    have hin : insV q a c = (zeroP, 21) := by
      unfold insV
      rw [if_pos hg, if_pos q7]
    rw [hin, hci]
    simp only [if_true, q7, q6]
    have e0 : (a.f0 == a.f0 && (a.f1 == a.f1 && (a.f2 == a.f2))) = true := by simp
    simp only [e0, if_true]
    show Ev (fun n => if (21 : Int) = 21 then _ else _) _
    simp only [if_true]
    have hss := strip_ev q (by omega)
    rw [q7, q6] at hss
    refine Ev.bind hss ?_
    rw [hst]
    refine Ev.bind (same_ev (stripP Q) (by omega)) ?_
    simp only [if_true]
    refine Ev.bind (dvalid_v Q hs (by omega) (fun x hx => by have := ok x hx; omega)) ?_
    cases hd : dvB Q with
    | false =>
      simp only [Bool.false_eq_true, if_false]
      exact awk
    | true =>
      simp only [if_true]
      have hdq := dvalid_v q (by rw [q3]; exact hs) (by omega) (fun x hx => by have := hsz x hx; omega)
      rw [q7, q6] at hdq
      have hd2 : dvB q = true := by
        rw [hqe]
        rw [q8] at hv
        exact dv_ins Q a l hg hv hd
      rw [hd2] at hdq
      refine Ev.bind hdq ?_
      simp only [if_true]
      exact awk
  · simp only [if_neg he]
    cases h0 : a.f0 with
    | true =>
      simp only [if_true]
      exact awk
    | false =>
      simp only [Bool.false_eq_true, if_false]
      by_cases h1 : a.f1 = 0
      · simp only [if_pos h1]
        by_cases h2 : a.f2 ≥ 4294967296
        · simp only [if_pos h2]
          exact awk
        · simp only [if_neg h2]
          have hg : goodA a = true := by
            unfold goodA
            rw [h0, decide_eq_true h1, decide_eq_true (show a.f2 ≤ 4294967295 by omega)]
            rfl
          cases h7 : Q.f7 with
          | true =>
            simp only [if_true]
            exact awk
          | false =>
            simp only [Bool.false_eq_true, if_false]
            by_cases h5 : (c.size : Int) > 255
            · simp only [if_pos h5]
              exact awk
            · simp only [if_neg h5]
              have hz : (strOfNums ([1, (c.size : Int) % 256] : List Int)).size + c.size ≤ 9223372036854775807 := by
                rw [strOfNums_size, List.length_cons, List.length_cons, List.length_nil]
                omega
              simp only [Option.bind_some, if_pos hz]
              refine Ev.bind (put_ev Q.f8 (by omega) 82 (infoB c)) ?_
              have hlen := putV_len 82 (infoB c) Q.f8
              have hsz := putV_sizes c hc Q.f8 ok
              refine Ev.bind (valid_ev (putV 82 (infoB c) Q.f8) (by omega) (fun x hx => by have := hsz x hx; omega)) ?_
              have hv : validO (putV 82 (infoB c) Q.f8) = false := by
                cases hv : validO (putV 82 (infoB c) Q.f8) with
                | false => rfl
                | true =>
                  exfalso
                  apply he
                  unfold insV
                  rw [if_pos hg, if_neg (by rw [h7]; decide), if_neg h5, if_pos hv]
              rw [hv]
              simp only [Bool.false_eq_true, if_false]
              exact awk
      · simp only [if_neg h1]
        exact awk
theorem relayBack : ddilaw39_RelayBack.Pure := by
  intro a0_0 a0_1 a0_2 a0_3 a0_4 a0_5 a0_6 a0_7 a0_8 a0_9 a0_10 a0_11 a0_12 a0_13 l0_14 a1_0 a1_1 a1_2 a2 hp ha hs
  obtain ⟨P, hP⟩ : ∃ P : S27, P = ⟨a0_0, a0_1, a0_2, a0_3, ⟨a0_4, a0_5, a0_6⟩, ⟨a0_7, a0_8, a0_9⟩, ⟨a0_10, a0_11, a0_12⟩, a0_13, l0_14⟩ := ⟨_, rfl⟩
  have hl : P.f8.length ≤ 140737488351232 := by
    have := hp.2.2.2.2.2.2.2.2.1
    rw [hP]
    simp only at this ⊢
    omega
  have h1' : 0 ≤ mn (a2.size : Int) 400 := (mnl a2.size 400).1
  have h2' : mn (a2.size : Int) 400 ≤ (a2.size : Int) := (mnl a2.size 400).2.1
  have h3' : (mn (a2.size : Int) 400).toNat = min a2.size 400 := (mnl a2.size 400).2.2
  have hcs := cut_size 400 a2
  obtain ⟨c, hc⟩ : ∃ c, c = a2.extract 0 (min a2.size 400) := ⟨_, rfl⟩
  rw [← hc] at hcs
  obtain ⟨hlen, hsz⟩ := shortO_ok P.f8
  refine Ev.rounds ?_
  have e1 := short_ev P hl
  obtain ⟨Q, hQ⟩ : ∃ Q, Q = shortP P := ⟨_, rfl⟩
  have hQ8 : Q.f8 = shortO P.f8 := by rw [hQ]; rfl
  have hQ3 : Q.f3.size ≤ 100 := by rw [hQ]; exact cut_size 100 P.f3
  rw [← hQ8] at hlen hsz
  rw [← hQ] at e1
  obtain ⟨A, hA⟩ : ∃ A : S24, A = ⟨a1_0, a1_1, a1_2⟩ := ⟨_, rfl⟩
  have hj := back_j0 Q A c hcs hlen (by omega) hsz
  unfold ddilaw39_RelayBack.f
  simp only [if_pos h1', if_pos h2', h3', ← hc]
  rw [hP] at e1
  have hi := ins_ev Q A c hcs (by omega) hsz
  rw [hA] at hi hj
  refine Ev.bind e1 ?_
  refine Ev.bind hi ?_
  refine Ev.bind (strip_ev Q (by omega)) ?_
  have hsl := strip_len Q
  show Ev (fun n => if false = true then _ else (if (false || (!((0 : Int) == 0) || (!((0 : Int) == 0)))) = true then _ else _)) _
  simp only [Bool.false_eq_true, if_false, beq_self_eq_true, Bool.not_true, Bool.or_self]
  have hfin : ∀ t : Bool, t = true → Ev (fun k => ddilaw39_RelayBack.j0 k c (insV Q ⟨a1_0, a1_1, a1_2⟩ c).2 (!t) Q.f0 Q.f1 Q.f2 Q.f3 Q.f4.f0 Q.f4.f1 Q.f4.f2 Q.f5.f0 Q.f5.f1 Q.f5.f2 Q.f6.f0 Q.f6.f1 Q.f6.f2 Q.f7 Q.f8 a1_0 a1_1 a1_2 (insV Q ⟨a1_0, a1_1, a1_2⟩ c).1.f0 (insV Q ⟨a1_0, a1_1, a1_2⟩ c).1.f1 (insV Q ⟨a1_0, a1_1, a1_2⟩ c).1.f2 (insV Q ⟨a1_0, a1_1, a1_2⟩ c).1.f3 (insV Q ⟨a1_0, a1_1, a1_2⟩ c).1.f4.f0 (insV Q ⟨a1_0, a1_1, a1_2⟩ c).1.f4.f1 (insV Q ⟨a1_0, a1_1, a1_2⟩ c).1.f4.f2 (insV Q ⟨a1_0, a1_1, a1_2⟩ c).1.f5.f0 (insV Q ⟨a1_0, a1_1, a1_2⟩ c).1.f5.f1 (insV Q ⟨a1_0, a1_1, a1_2⟩ c).1.f5.f2 (insV Q ⟨a1_0, a1_1, a1_2⟩ c).1.f6.f0 (insV Q ⟨a1_0, a1_1, a1_2⟩ c).1.f6.f1 (insV Q ⟨a1_0, a1_1, a1_2⟩ c).1.f6.f2 (insV Q ⟨a1_0, a1_1, a1_2⟩ c).1.f7 (insV Q ⟨a1_0, a1_1, a1_2⟩ c).1.f8 (stripP Q).f0 (stripP Q).f1 (stripP Q).f2 (stripP Q).f3 (stripP Q).f4.f0 (stripP Q).f4.f1 (stripP Q).f4.f2 (stripP Q).f5.f0 (stripP Q).f5.f1 (stripP Q).f5.f2 (stripP Q).f6.f0 (stripP Q).f6.f1 (stripP Q).f6.f2 (stripP Q).f7 (stripP Q).f8) true := by
    intro t ht
    subst ht
    exact hj
  have hss := strip_ev (stripP Q) (by omega)
  rw [strip2] at hss
  refine Ev.bind (dvalid_v Q (by omega) (by omega) (fun x hx => by have := hsz x hx; omega)) ?_
  cases hd : dvB Q with
  | false =>
    simp only [Bool.false_eq_true, if_false]
    refine Ev.bind hss ?_
    refine Ev.bind (same_ev (stripP Q) (by omega)) ?_
    exact hfin true rfl
  | true =>
    simp only [if_true]
    have hd2 := dvalid_v (stripP Q) (show Q.f3.size ≤ _ by omega) (by omega) (fun x hx => by have := hsz x (List.mem_filter.1 hx).1; omega)
    rw [dv_strip Q hd] at hd2
    refine Ev.bind hd2 ?_
    simp only [if_true]
    refine Ev.bind hss ?_
    refine Ev.bind (same_ev (stripP Q) (by omega)) ?_
    exact hfin true rfl
end Go.Proofs.YtngfffoeaghhhaaDoor.Ma
