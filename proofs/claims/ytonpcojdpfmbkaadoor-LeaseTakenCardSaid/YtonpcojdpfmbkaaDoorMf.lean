/- LeaseTaken: the taken addresses are those that Free denies, and Offer's status is the document's. -/
import Derived.Test.YtonpcojdpfmbkaaDoorQAd2
import Derived.Test.YtonpcojdpfmbkaaDoorQAd1
import Derived.Test.YtonpcojdpfmbkaaDoorMe
import Derived.Test.YtonpcojdpfmbkaaDoorMc
namespace Go.Proofs.YtonpcojdpfmbkaaDoor.Ma
open Go.RowKit Go.Proofs.YtonpcojdpfmbkaaDoorW.PrintWords Go.Proofs.YtonpcojdpfmbkaaDoorW.PrintLast Go.Proofs.YtonpcojdpfmbkaaDoorW.PrintMore Go.Proofs.YtonpcojdpfmbkaaDoor.XP Go.Proofs.YtonpcojdpfmbkaaDoor.QA Go.Proofs.YtonpcojdpfmbkaaDoor.Cm
set_option linter.unusedVariables false
set_option linter.unusedSimpArgs false
theorem get_mem (l : List S41) (hs : Srt l) (x : S41) (h : x ∈ l) : get x.f0 l = some x := by
  induction l with
  | nil => exact absurd h List.not_mem_nil
  | cons y r ih =>
    obtain ⟨h1, h2⟩ := List.pairwise_cons.1 hs
    unfold get
    rw [List.find?_cons]
    rcases List.mem_cons.1 h with rfl | hx
    · rw [ea_self]
    · have hne : ea y.f0 x.f0 = false := by
        rw [ea_ne]
        intro e
        have := h1 x hx
        rw [e, cmp_self] at this
        omega
      rw [hne]
      exact ih h2 hx
theorem any_get (l : List S41) (hs : Srt l) (a : S29) (c : ByteArray) (t : Int) : (l.any fun x => !freeB x c t && ea x.f0 a) = !frB (get a l) c t := by
  induction l with
  | nil => rfl
  | cons y r ih =>
    obtain ⟨h1, h2⟩ := List.pairwise_cons.1 hs
    rw [List.any_cons]
    unfold get
    rw [List.find?_cons]
    cases he : ea y.f0 a with
    | false =>
      have := ih h2
      unfold get at this
      simp only [Bool.and_false, Bool.false_or, this]
    | true =>
      have hr : (r.any fun x => !freeB x c t && ea x.f0 a) = false := by
        rw [List.any_eq_false]
        intro x hx
        have hne : ea x.f0 a = false := by
          rw [ea_ne]
          intro e
          have h3 := h1 x hx
          rw [e, (ea_iff _ _).1 he, cmp_self] at h3
          omega
        rw [hne, Bool.and_false]
        exact Bool.false_ne_true
      rw [hr]
      simp [frB]
theorem setT_status (l : List S41) (hl : l.length ≤ 512) (x : S41) (t : Int) : (setT l x t).2 = 0 ∨ ((setT l x t).2 = 9 ∧ l.length = 512) := by
  unfold setT
  split
  · exact Or.inl rfl
  · split
    · split
      · exact Or.inr ⟨rfl, by omega⟩
      · exact Or.inl rfl
    · exact Or.inl rfl
theorem lt3_ev (l : List S41) (fl b : Bool) (st : Int) (h1 : b = true → st = 1) (h2 : b = false → fl = true → st = 23) (h3 : b = false → fl = false → st = 0 ∨ (st = 9 ∧ l.length = 512)) : Ev (fun k => ddilaw38_LeaseTaken.j3 k l fl st b) true := by
  cases b with
  | true =>
    refine Ev_shift 1 (fun k => by rw [ddilaw38_LeaseTaken.j3, if_pos rfl, if_pos (h1 rfl)]) ?_
    exact Ev.bind awake_ev (Ev_const rfl)
  | false =>
    cases fl with
    | true =>
      refine Ev_shift 1 (fun k => by rw [ddilaw38_LeaseTaken.j3, if_neg Bool.false_ne_true, if_pos rfl, if_pos (h2 rfl rfl)]) ?_
      exact Ev.bind awake_ev (Ev_const rfl)
    | false =>
      rcases h3 rfl rfl with h | ⟨h, hn⟩
      · refine Ev_shift 1 (fun k => by rw [ddilaw38_LeaseTaken.j3, if_neg Bool.false_ne_true, if_neg Bool.false_ne_true, if_pos h]) ?_
        exact Ev.bind awake_ev (Ev_const rfl)
      · refine Ev_shift 1 (fun k => by rw [ddilaw38_LeaseTaken.j3, if_neg Bool.false_ne_true, if_neg Bool.false_ne_true, if_neg (by rw [h]; decide), if_pos h, if_pos (by omega)]) ?_
        exact Ev.bind awake_ev (Ev_const rfl)
theorem lt2_ev (l : List S41) (hl : l.length ≤ 512) (a : S29) (c h : ByteArray) (hc : c.size ≤ 140737488351232) (z t d : Int) : Ev (fun k => ddilaw38_LeaseTaken.j2 k l (!frB (get a l) c t) (offT l a c t d).2 false a.f0 a.f1 a.f2 c h z t d) true := by
  refine Ev_shift 1 (fun k => by rw [ddilaw38_LeaseTaken.j2, if_neg Bool.false_ne_true, ad_v, Option.bind_some]) ?_
  cases had : adB a with
  | false =>
    have ho : (offT l a c t d).2 = 3 := by unfold offT; rw [had]; rfl
    simp only [Bool.false_eq_true, if_false, if_pos ho]
    exact Ev.bind awake_ev (Ev_const rfl)
  | true =>
    simp only [if_true]
    have hbad : (cliB c && (timeB t && decide (1 ≤ d))) = false → (offT l a c t d).2 = 1 := by
      intro hb
      unfold offT
      rw [had, hb]
      rfl
    have hgood : (cliB c && (timeB t && decide (1 ≤ d))) = true → frB (get a l) c t = false → (offT l a c t d).2 = 23 := by
      intro hb hf
      unfold offT
      rw [had, hb, hf]
      rfl
    have hset : (cliB c && (timeB t && decide (1 ≤ d))) = true → frB (get a l) c t = true → (offT l a c t d).2 = 0 ∨ ((offT l a c t d).2 = 9 ∧ l.length = 512) := by
      intro hb hf
      unfold offT
      rw [had, hb, hf]
      simp only [if_true]
      split
      · exact Or.inl rfl
      · exact setT_status l hl _ t
    have go : ∀ b : Bool, b = !(cliB c && (timeB t && decide (1 ≤ d))) → Ev (fun k => ddilaw38_LeaseTaken.j3 k l (!frB (get a l) c t) (offT l a c t d).2 b) true := by
      rintro b rfl
      exact lt3_ev l _ _ _ (fun h => hbad (by cases hx : (cliB c && (timeB t && decide (1 ≤ d))) <;> rw [hx] at h <;> first | rfl | cases h)) (fun h hf => hgood (by cases hx : (cliB c && (timeB t && decide (1 ≤ d))) <;> rw [hx] at h <;> first | rfl | cases h) (by simpa using hf)) (fun h hf => hset (by cases hx : (cliB c && (timeB t && decide (1 ≤ d))) <;> rw [hx] at h <;> first | rfl | cases h) (by simpa using hf))
    by_cases h1 : d < 1
    · simp only [if_pos h1]
      exact go true (by rw [decide_eq_false (show ¬ 1 ≤ d by omega), Bool.and_false, Bool.and_false]; rfl)
    · simp only [if_neg h1]
      by_cases h2 : t < 0
      · simp only [if_pos h2]
        exact go true (by unfold timeB; rw [decide_eq_false (show ¬ 0 ≤ t by omega), Bool.false_and, Bool.false_and, Bool.and_false]; rfl)
      · simp only [if_neg h2]
        by_cases h3 : t > 4294967295
        · simp only [if_pos h3]
          exact go true (by unfold timeB; rw [decide_eq_false (show ¬ t ≤ 4294967295 by omega), Bool.and_false, Bool.false_and, Bool.and_false]; rfl)
        · simp only [if_neg h3]
          refine Ev.bind (rcli_ev c hc) ?_
          exact go _ (by unfold timeB; rw [decide_eq_true (show 1 ≤ d by omega), decide_eq_true (show 0 ≤ t by omega), decide_eq_true (show t ≤ 4294967295 by omega), Bool.and_true, Bool.and_true, Bool.and_true])
theorem rd29 (q : List S29) (i : Nat) (y : S29) (r : List S29) (h : q.drop i = y :: r) : i < q.length ∧ rd_T29 q (i : Int) = y ∧ q.drop (i + 1) = r := by
  obtain ⟨hi, hx, hr⟩ := drop_at h
  refine ⟨hi, ?_, hr⟩
  simp [rd_T29, List.getD_eq_getElem?_getD, List.getElem?_eq_getElem hi, hx]
theorem lt_from (l : List S41) (hl : l.length ≤ 512) (hs : Srt l) (a : S29) (c h : ByteArray) (hc : c.size ≤ 140737488351232) (z t d : Int) : ∀ (r : List S41) (i j : Nat) (fl : Bool), l.drop i = r → (takT l c t).drop j = takT r c t → j ≤ (takT l c t).length → (fl || r.any fun x => !freeB x c t && ea x.f0 a) = !frB (get a l) c t →
    Ev (fun k => ddilaw38_LeaseTaken.l0 k l (takT l c t) (j : Int) fl (i : Int) a.f0 a.f1 a.f2 c h z t d) true
  | [], i, j, fl, hd, hj, hjl, hf => by
    have hi := drop_end hd
    have hj2 : (takT l c t).length ≤ j := drop_end hj
    have hfl : fl = !frB (get a l) c t := by simpa using hf
    have ej : (j : Int) = ((takT l c t).length : Int) := by omega
    refine Ev_shift 1 (fun k => by rw [ddilaw38_LeaseTaken.l0, if_neg (by omega)]) ?_
    refine Ev.bind (offer_ev l hl hs a c hc t d) ?_
    simp only [if_pos ej]
    refine Ev.bind (free_ev l (by omega) hs a c t) ?_
    have e2 : (fl == frB (get a l) c t) = false := by
      rw [hfl]
      cases frB (get a l) c t <;> rfl
    simp only [e2]
    rw [hfl]
    exact lt2_ev l hl a c h hc z t d
  | x :: r, i, j, fl, hd, hj, hjl, hf => by
    obtain ⟨hi, hx, hr⟩ := rd41 l i x r hd
    have hxl : x ∈ l := List.mem_of_mem_drop (i := i) (by rw [hd]; exact List.mem_cons_self ..)
    refine Ev_shift 1 (fun k => by rw [ddilaw38_LeaseTaken.l0, if_pos (by omega), if_pos (by omega), hx]) ?_
    refine Ev.bind (free_ev l (by omega) hs x.f0 c t) ?_
    rw [get_mem l hs x hxl]
    show Ev (fun k => if freeB x c t = true then _ else _) true
    rw [List.any_cons] at hf
    cases hb : freeB x c t with
    | true =>
      have hT : takT (x :: r) c t = takT r c t := by
        unfold takT
        rw [List.filter_cons_of_neg (by unfold tkB; rw [hb]; decide)]
      rw [hT] at hj
      rw [hb] at hf
      have ih := lt_from l hl hs a c h hc z t d r (i + 1) j fl hr hj hjl (by simpa using hf)
      rw [← next i l.length hi (by omega)] at ih
      simp only [if_true]
      exact ih
    | false =>
      have hT : takT (x :: r) c t = x.f0 :: takT r c t := by
        unfold takT
        rw [List.filter_cons_of_pos (by unfold tkB; rw [hb]; rfl), List.map_cons]
      rw [hT] at hj
      obtain ⟨hjlt, hjx, hjr⟩ := rd29 _ j _ _ hj
      rw [hb] at hf
      have n1 : ¬ (j : Int) ≥ ((takT l c t).length : Int) := by omega
      have n2 : (0 : Int) ≤ (j : Int) := by omega
      have n3 : (j : Int) < ((takT l c t).length : Int) := by omega
      have i1 : (0 : Int) ≤ (i : Int) := by omega
      have i2 : (i : Int) < (l.length : Int) := by omega
      simp only [Bool.false_eq_true, if_false, if_neg n1, if_pos n2, if_pos n3, hjx, beq_self_eq_true, Bool.not_true, Bool.or_false]
      have hTl := takT_len l c t
      have ih : ∀ f2 : Bool, f2 = (fl || ea x.f0 a) → Ev (fun k => ddilaw38_LeaseTaken.l0 k l (takT l c t) ((j + 1 : Nat) : Int) f2 ((i + 1 : Nat) : Int) a.f0 a.f1 a.f2 c h z t d) true := by
        rintro f2 rfl
        refine lt_from l hl hs a c h hc z t d r (i + 1) (j + 1) _ hr hjr (by omega) ?_
        rw [← hf]
        simp [Bool.or_assoc]
      cases fl with
      | true => exact Ev_shift 1 (fun k => by rw [ddilaw38_LeaseTaken.j1, if_neg Bool.false_ne_true, if_pos rfl, wnext j (by omega), next i l.length hi (by omega)]) (ih true rfl)
      | false => exact Ev_shift 1 (fun k => by rw [ddilaw38_LeaseTaken.j1, if_neg Bool.false_ne_true, if_neg Bool.false_ne_true, if_pos i1, if_pos i2, wnext j (by omega), next i l.length hi (by omega), hx]; rfl) (ih (ea x.f0 a) rfl)
theorem leaseTaken : ddilaw38_LeaseTaken.Pure := by
  intro l a0 a1 a2 c h z t d ⟨hl, _, ok⟩ oka
  refine Ev.rounds (?_ : Ev (fun k => ddilaw38_LeaseTaken.f k l a0 a1 a2 c h z t d) true)
  unfold ddilaw38_LeaseTaken.f
  refine Ev.bind (check_ev l (by omega) ok) ?_
  by_cases h0 : chkT l = 0
  · obtain ⟨hn, hs⟩ := chkT_zero l h0
    simp only [if_pos h0]
    refine Ev.bind (taken_ev l hn c t) ?_
    exact lt_from l hn hs ⟨a0, a1, a2⟩ c h oka.2.1 z t d l 0 0 false rfl rfl (Nat.zero_le _) (by rw [Bool.false_or]; exact any_get l hs _ c t)
  · simp only [if_neg h0]
    exact Ev.bind awake_ev (Ev_const rfl)
end Go.Proofs.YtonpcojdpfmbkaaDoor.Ma
