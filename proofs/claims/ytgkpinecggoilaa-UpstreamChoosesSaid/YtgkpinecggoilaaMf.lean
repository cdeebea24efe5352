/- UpstreamStores: the pure statement, of any list and any act. -/
import Derived.Test.YtgkpinecggoilaaQAd1
import Derived.Test.YtgkpinecggoilaaMe
namespace Go.Proofs.Ytgkpinecggoilaa.Ma
open Go.RowKit Go.Proofs.YtgkpinecggoilaaW.PrintWords Go.Proofs.YtgkpinecggoilaaW.PrintLast Go.Proofs.YtgkpinecggoilaaW.PrintMore Go.Proofs.Ytgkpinecggoilaa.XP Go.Proofs.Ytgkpinecggoilaa.Cm Go.Proofs.Ytgkpinecggoilaa.QA
set_option linter.unusedVariables false
set_option linter.unusedSimpArgs false
theorem awake_ev : Ev (fun k => ddilaw32_awake.f k) true := ⟨60, fun k hk => at_rounds ddilaw32_awake.mono hk (by decide +kernel)⟩
theorem stored_len (l : List S34) (p : S34) : (stored l p).length ≤ l.length + 1 := by
  have h1 : ∀ (q : S34 → Bool) (r : List S34), (rep q p r).length = r.length := by
    intro q r
    induction r with
    | nil => rfl
    | cons x r ih => simp only [rep]; split <;> simp [ih]
  have h2 : ∀ (q : S34 → Bool) (r : List S34), (ins q p r).length = r.length + 1 := by
    intro q r
    induction r with
    | nil => rfl
    | cons x r ih => simp only [ins]; split <;> simp [ih]
  have h3 : ∀ (g : Int) (r : List S34) (i : Nat), (sk g r i).length ≤ r.length := by
    intro g r
    induction r with
    | nil => intro i; simp [sk]
    | cons x r ih => intro i; have := ih (i + 1); simp only [sk]; split <;> simp <;> omega
  unfold stored
  split
  · rw [h1]; omega
  · rw [h2]
    split
    · have := h3 ((am l l 0 0 : Nat) : Int) l 0; omega
    · omega
theorem upstreamStores : ddilaw32_UpstreamStores.Pure := by
  intro l0 a0 a1 a2 bad_ rtt now _ _
  refine Ev.rounds (?_ : Ev (fun k => ddilaw32_UpstreamStores.f k l0 a0 a1 a2 bad_ rtt now) true)
  obtain ⟨n, hn, hnl, hn3⟩ : ∃ n : Nat, mn (l0.length : Int) 300 = (n : Int) ∧ n ≤ l0.length ∧ n ≤ 300 := by
    unfold mn
    split
    · exact ⟨300, rfl, by omega, by omega⟩
    · exact ⟨l0.length, rfl, by omega, by omega⟩
  unfold ddilaw32_UpstreamStores.f
  simp only [hn, if_pos (show (0 : Int) ≤ (n : Int) by omega), if_pos (show (n : Int) ≤ (l0.length : Int) by omega), Option.bind_some, Int.toNat_natCast]
  have hl : (l0.take n).length ≤ 300 := by rw [List.length_take]; omega
  generalize l0.take n = l at hl
  refine Ev.bind (back_ev l (by omega)) ?_
  refine Ev.bind (ugood_ev l (by omega) ⟨a0, a1, a2⟩ rtt) (Ev.bind (rgood_ev l (by omega) ⟨a0, a1, a2⟩ rtt) ?_)
  have hg : (good l ⟨a0, a1, a2⟩ rtt).length ≤ l.length + 1 := stored_len _ _
  refine Ev.bind (same_ev _ (by omega)) ?_
  simp only [if_true]
  refine Ev.bind (ubad_ev l (by omega) ⟨a0, a1, a2⟩ now) (Ev.bind (rbad_ev l (by omega) ⟨a0, a1, a2⟩ now) ?_)
  have hb : (bad l ⟨a0, a1, a2⟩ now).length ≤ l.length + 1 := stored_len _ _
  refine Ev.bind (same_ev _ (by omega)) ?_
  refine Ev_shift 1 (fun k => by rw [ddilaw32_UpstreamStores.j0, if_neg (by decide)]) ?_
  refine Ev.bind (ufind_ev l (by omega) ⟨a0, a1, a2⟩) (Ev.bind (rfind_ev l (by omega) ⟨a0, a1, a2⟩) ?_)
  simp only [beq_self_eq_true, Bool.and_self, if_true]
  exact Ev.bind awake_ev (Ev_const rfl)
end Go.Proofs.Ytgkpinecggoilaa.Ma
