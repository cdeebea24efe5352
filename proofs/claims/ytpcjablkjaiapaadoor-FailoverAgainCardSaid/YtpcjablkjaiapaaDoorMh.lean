/- FailoverAgain: what Merge accepts is the entry of the address, is not accepted again, and leaves all other entries. -/
import Derived.Test.YtpcjablkjaiapaaDoorQAd1
import Derived.Test.YtpcjablkjaiapaaDoorMg
namespace Go.Proofs.YtpcjablkjaiapaaDoor.Ma
open Go.RowKit Go.Proofs.YtpcjablkjaiapaaDoorW.PrintWords Go.Proofs.YtpcjablkjaiapaaDoorW.PrintLast Go.Proofs.YtpcjablkjaiapaaDoorW.PrintMore Go.Proofs.YtpcjablkjaiapaaDoor.XP Go.Proofs.YtpcjablkjaiapaaDoor.QA Go.Proofs.YtpcjablkjaiapaaDoor.Cm
set_option linter.unusedVariables false
set_option linter.unusedSimpArgs false
theorem up_f (x y : S27) : (upX x y).f0 = x.f0 ∧ (upX x y).f1 = x.f1 ∧ (upX x y).f2 = x.f2 ∧ (upX x y).f3 = x.f3 ∧ (upX x y).f4 = x.f4 ∧ (upX x y).f5 = x.f5 := by
  unfold upX
  split <;> exact ⟨rfl, rfl, rfl, rfl, rfl, rfl⟩
theorem mx_le (a b : Int) : a ≤ mx a b := by
  unfold mx
  split <;> omega
theorem up_ok {x y : S27} (hx : one x = 0) (hy : one y = 0) (kx : okS27 x) : one (upX x y) = 0 ∧ okS27 (upX x y) ∧ x.f6 ≤ (upX x y).f6 := by
  unfold upX
  split
  · obtain ⟨⟨p1, p2⟩, p3, p4, p5, p6, p7, p8⟩ := arg_parts hx
    obtain ⟨_, _, q4, _⟩ := arg_parts hy
    have h6 := (mx_time p4 q4).1
    have ho : one ⟨x.f0, x.f1, x.f2, x.f3, x.f4, x.f5, mx x.f6 y.f6⟩ = 0 := one_of (one_ad x hx) p1 p2 p3 h6 p5 p6 p7 p8
    exact ⟨ho, ok_of kx.1 kx.2.1 kx.2.2.2.2.2.1 ho, mx_le _ _⟩
  · exact ⟨hx, kx, Int.le_refl _⟩
/-- What Merge leaves, where it accepts. -/
structure MrgOk (l : List S27) (x : S27) (m : List S27) : Prop where
  tab : Tab m
  new : ∃ z ∈ m, z.f0 = x.f0 ∧ z.f1 = x.f1 ∧ z.f2 = x.f2 ∧ z.f3 = x.f3 ∧ z.f4 = x.f4 ∧ z.f5 = x.f5 ∧ x.f6 ≤ z.f6
  keep : ∀ e ∈ l, e.f0 ≠ x.f0 → e ∈ m
  only : ∀ e ∈ m, e.f0 ≠ x.f0 → e ∈ l
  one : one x = 0
theorem mrg_ok (l : List S27) (hT : Tab l) (x : S27) (kx : okS27 x) (h : (mrgT l x).2 = true) : MrgOk l x (mrgT l x).1 := by
  have hlen := mrg_len l x
  unfold mrgT at h hlen ⊢
  by_cases h1 : one x = 0
  · rw [if_pos h1] at h hlen ⊢
    cases ho : get x.f0 l with
    | some y =>
      rw [ho] at h hlen
      obtain ⟨hp, hy, hf⟩ := get_at l hT.srt x.f0 y ho
      simp only [] at h hlen ⊢
      cases hn : nwB x y with
      | false =>
        rw [hn] at h
        cases h
      | true =>
        obtain ⟨f0, f1, f2, f3, f4, f5⟩ := up_f x y
        have hym : y ∈ l := by rw [← hy]; exact List.getElem_mem hp
        obtain ⟨u1, u2, u3⟩ := up_ok h1 (hT.one y hym) kx
        simp only [if_true]
        have hmem : ∀ e ∈ l.set (pos x.f0 l) (upX x y), e ∈ l ∨ e = upX x y := fun e he => List.mem_or_eq_of_mem_set he
        refine ⟨⟨by rw [List.length_set]; exact hT.len, srt_same (set_map l _ hp _ (by rw [hy, hf, f0])) hT.srt, fun e he => ?_, fun e he => ?_⟩, ⟨upX x y, List.mem_iff_getElem.2 ⟨pos x.f0 l, by rw [List.length_set]; exact hp, List.getElem_set_self ..⟩, f0, f1, f2, f3, f4, f5, u3⟩, fun e he hne => set_keep l _ hp _ e he (fun h3 => hne (by rw [h3, hy, hf])), fun e he hne => ?_, h1⟩
        · rcases hmem e he with h | rfl
          · exact hT.one e h
          · exact u1
        · rcases hmem e he with h | rfl
          · exact hT.ok e h
          · exact u2
        · rcases hmem e he with h | rfl
          · exact h
          · exact absurd f0 hne
    | none =>
      rw [ho] at h hlen
      simp only [] at h hlen ⊢
      by_cases h5 : l.length ≥ 512
      · rw [if_pos h5] at h
        cases h
      · rw [if_neg h5] at hlen ⊢
        have hne := get_none_ne l x.f0 (by rw [ho]; rfl)
        simp only [ins_insR] at hlen ⊢
        refine ⟨⟨by omega, insR_srt x l hT.srt hne, fun e he => ?_, fun e he => ?_⟩, ⟨x, (insR_mem x l x).2 (.inl rfl), rfl, rfl, rfl, rfl, rfl, rfl, Int.le_refl _⟩, fun e he _ => (insR_mem x l e).2 (.inr he), fun e he hq => ?_, h1⟩
        · rcases (insR_mem x l e).1 he with rfl | h
          · exact h1
          · exact hT.one e h
        · rcases (insR_mem x l e).1 he with rfl | h
          · exact kx
          · exact hT.ok e h
        · rcases (insR_mem x l e).1 he with rfl | h
          · exact absurd rfl hq
          · exact h
  · rw [if_neg h1] at h
    cases h
theorem get_same {l m : List S27} (hl : Srt l) (hm : Srt m) (a : S25) (h1 : ∀ e ∈ l, e.f0 = a → e ∈ m) (h2 : ∀ e ∈ m, e.f0 = a → e ∈ l) : get a l = get a m := by
  cases h : get a l with
  | some e =>
    obtain ⟨he, hf⟩ := get_some_mem h
    have := get_mem m hm e (h1 e he hf)
    rw [hf] at this
    exact this.symm
  | none =>
    cases h' : get a m with
    | none => rfl
    | some e =>
      obtain ⟨he, hf⟩ := get_some_mem h'
      have := get_mem l hl e (h2 e he hf)
      rw [hf, h] at this
      cases this
theorem again4 (m : List S27) (hT : Tab m) (x z : S27) (kx : okS27 x) (h1 : one x = 0) (hz : z ∈ m) (f : z.f0 = x.f0 ∧ z.f1 = x.f1 ∧ z.f2 = x.f2 ∧ z.f3 = x.f3 ∧ z.f4 = x.f4 ∧ z.f5 = x.f5 ∧ x.f6 ≤ z.f6) : Ev (fun k => ddilaw44_FailoverAgain.j4 k m x.f0.f0 x.f0.f1 x.f0.f2 x.f1 x.f2 x.f3 x.f4 x.f5 x.f6) true := by
  obtain ⟨f0, f1, f2, f3, f4, f5, f6⟩ := f
  have hg := get_mem m hT.srt z hz
  rw [f0] at hg
  have e : mrgT m x = (m, false) := by
    unfold mrgT
    rw [if_pos h1, hg]
    simp only []
    have : nwB x z = false := by
      unfold nwB
      rw [if_pos f3.symm, if_pos (by rw [f1]), if_pos f4.symm, f2]
      simp
    rw [this]
    rfl
  have := merge_ev m hT.len hT.srt x kx
  rw [e] at this
  refine Ev_shift 1 (fun k => by rw [ddilaw44_FailoverAgain.j4]) ?_
  refine Ev.bind this ?_
  simp only [Bool.false_eq_true, if_false]
  exact Ev.bind (tables_ev m (by have := hT.len; omega)) (Ev_const rfl)
theorem again2 (l m : List S27) (hl : Tab l) (x z : S27) (kx : okS27 x) (a : S25) (hM : MrgOk l x m) (hz : z ∈ m) (f : z.f0 = x.f0 ∧ z.f1 = x.f1 ∧ z.f2 = x.f2 ∧ z.f3 = x.f3 ∧ z.f4 = x.f4 ∧ z.f5 = x.f5 ∧ x.f6 ≤ z.f6) (w : Int) : Ev (fun k => ddilaw44_FailoverAgain.j2 k l m false x.f0.f0 x.f0.f1 x.f0.f2 x.f1 x.f2 x.f3 x.f4 x.f5 x.f6 a.f0 a.f1 a.f2 z.f0.f0 z.f0.f1 z.f0.f2 z.f1 z.f2 z.f3 z.f4 z.f5 w) true := by
  have h4 := again4 m hM.tab x z kx hM.one hz f
  obtain ⟨f0, f1, f2, f3, f4, f5, f6⟩ := f
  refine Ev_shift 1 (fun k => by rw [ddilaw44_FailoverAgain.j2, if_neg Bool.false_ne_true, f0, f1, f2, f3, f4, f5]) ?_
  simp only [beq_self_eq_true, Bool.not_true, Bool.or_false, Bool.false_eq_true, if_false]
  have hne : (!(a.f0 == x.f0.f0) || (!(a.f1 == x.f0.f1) || (!(a.f2 == x.f0.f2)))) = !ea a x.f0 := by
    unfold ea
    simp [Bool.not_and]
  rw [hne]
  cases he : ea a x.f0 with
  | true => exact h4
  | false =>
    have hna := (ea_ne _ _).1 he
    simp only [Bool.not_false, if_true]
    refine Ev.bind (find_ev l (by have := hl.len; omega) hl.srt a) ?_
    refine Ev.bind (find_ev m (by have := hM.tab.len; omega) hM.tab.srt a) ?_
    rw [← get_same hl.srt hM.tab.srt a (fun e h1 h2 => hM.keep e h1 (by rw [h2]; exact hna)) (fun e h1 h2 => hM.only e h1 (by rw [h2]; exact hna))]
    simp only [beq_self_eq_true, Bool.not_true, Bool.or_false, Bool.false_eq_true, if_false, bne_self_eq_false]
    exact Ev_shift 1 (fun k => by rw [ddilaw44_FailoverAgain.j3, if_neg Bool.false_ne_true]) h4
theorem failoverAgain : ddilaw44_FailoverAgain.Pure := by
  intro l a0 a1 a2 c st s0 s1 h xi b0 b1 b2 ⟨hl, _, hok⟩ hx _
  refine Ev.rounds (?_ : Ev (fun k => ddilaw44_FailoverAgain.f k l a0 a1 a2 c st s0 s1 h xi b0 b1 b2) true)
  unfold ddilaw44_FailoverAgain.f
  refine Ev.bind first_ev ?_
  simp only [List.length_singleton, Int.natCast_one, if_true, Bool.not_true]
  have hj1 : ∀ b : Bool, (b = false → chkT l = 0) → Ev (fun k => ddilaw44_FailoverAgain.j1 k l b a0 a1 a2 c st s0 s1 h xi b0 b1 b2) true := by
    intro b hb
    cases b with
    | true => exact Ev_shift 1 (f := fun _ => some true) (fun k => by rw [ddilaw44_FailoverAgain.j1, if_pos rfl]) (Ev_const rfl)
    | false =>
      have hT := chk_tab (hb rfl) hok
      refine Ev_shift 1 (fun k => by rw [ddilaw44_FailoverAgain.j1, if_neg Bool.false_ne_true]) ?_
      refine Ev.bind (merge_ev l hT.len hT.srt ⟨⟨a0, a1, a2⟩, c, st, s0, s1, h, xi⟩ hx) ?_
      cases hm : (mrgT l ⟨⟨a0, a1, a2⟩, c, st, s0, s1, h, xi⟩).2 with
      | false =>
        have e : (mrgT l ⟨⟨a0, a1, a2⟩, c, st, s0, s1, h, xi⟩).1 = l := by
          unfold mrgT at hm ⊢
          split at hm
          · rename_i h1
            rw [if_pos h1]
            split at hm
            · rename_i y hy
              split at hm
              · cases hm
              · rename_i h2
                simp only [if_neg h2]
            · rename_i hy
              split at hm
              · rename_i h2
                simp only [if_pos h2]
              · cases hm
          · rename_i h1
            rw [if_neg h1]
        simp only [Bool.false_eq_true, if_false]
        rw [e]
        exact Ev.bind (tables_ev l (by have := hT.len; omega)) (Ev_const rfl)
      | true =>
        have hM := mrg_ok l hT _ hx hm
        obtain ⟨z, hz, f⟩ := hM.new
        have hg := get_mem _ hM.tab.srt z hz
        rw [f.1] at hg
        simp only [if_true]
        refine Ev.bind (find_ev _ (by have := hM.tab.len; omega) hM.tab.srt ⟨a0, a1, a2⟩) ?_
        rw [hg]
        simp only [tup, if_true]
        refine Ev.bind (check_ev _ (by have := hM.tab.len; omega) hM.tab.ok) ?_
        rw [tab_chk hM.tab]
        simp only [if_true]
        have f6 : xi ≤ z.f6 := f.2.2.2.2.2.2
        have hk : ∀ b : Bool, b = false → Ev (fun n => ddilaw44_FailoverAgain.j2 n l (mrgT l ⟨⟨a0, a1, a2⟩, c, st, s0, s1, h, xi⟩).1 b a0 a1 a2 c st s0 s1 h xi b0 b1 b2 z.f0.f0 z.f0.f1 z.f0.f2 z.f1 z.f2 z.f3 z.f4 z.f5 z.f6) true := by
          rintro _ rfl
          exact again2 l _ hT ⟨⟨a0, a1, a2⟩, c, st, s0, s1, h, xi⟩ z hx ⟨b0, b1, b2⟩ hM hz f z.f6
        exact hk _ (decide_eq_false_iff_not.2 (by omega))
  refine Ev_shift 1 (fun k => by rw [ddilaw44_FailoverAgain.j0, if_neg Bool.false_ne_true]) ?_
  split
  · exact hj1 true (by simp)
  · split
    · exact hj1 true (by simp)
    · split
      · exact hj1 true (by simp)
      · refine Ev.bind (check_ev l (by omega) hok) ?_
        exact hj1 _ (by simp)
end Go.Proofs.YtpcjablkjaiapaaDoor.Ma
