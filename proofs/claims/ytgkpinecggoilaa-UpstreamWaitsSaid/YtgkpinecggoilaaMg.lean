/- UpstreamWaits: how long one waits for a server, the program's and the reference's (chapter 32). -/
import Derived.Test.YtgkpinecggoilaaQAd3
import Derived.Test.YtgkpinecggoilaaMf
namespace Go.Proofs.Ytgkpinecggoilaa.Ma
open Go.RowKit Go.Proofs.YtgkpinecggoilaaW.PrintWords Go.Proofs.YtgkpinecggoilaaW.PrintLast Go.Proofs.YtgkpinecggoilaaW.PrintMore Go.Proofs.Ytgkpinecggoilaa.XP Go.Proofs.Ytgkpinecggoilaa.Cm Go.Proofs.Ytgkpinecggoilaa.QA
theorem mul_pow_le (r : Int) (h1 : 1 ≤ r) (h2 : r ≤ 30) (n : Nat) (h : n ≤ 6) : 2 ≤ 2 * r * 2 ^ n ∧ 2 * r * 2 ^ n ≤ 3840 := by
  have : n = 0 ∨ n = 1 ∨ n = 2 ∨ n = 3 ∨ n = 4 ∨ n = 5 ∨ n = 6 := by omega
  rcases this with rfl | rfl | rfl | rfl | rfl | rfl | rfl <;> constructor <;> simp <;> omega
theorem rt_loop (q : S34) (r : Int) (h1 : 1 ≤ r) (h2 : r ≤ 30) : ∀ (n i : Nat) (x : Int), ((i + n : Nat) : Int) = mn (mx q.f2 0) 6 → x = 2 * r * 2 ^ i →
    Ev (fun k => ddiref32_Timeout.l0 k x (i : Int) q.f0.f0 q.f0.f1 q.f0.f2 q.f1 q.f2 q.f3) (mn (2 * r * 2 ^ (i + n)) 60) := by
  obtain ⟨c0, c6⟩ := mnmx q.f2 6 (by omega)
  intro n
  induction n with
  | zero =>
    intro i x hi hx
    refine Ev_shift 1 (f := fun _ => some (mn x 60)) (fun k => ?_) (Ev_const (by rw [hx]; rfl))
    rw [ddiref32_Timeout.l0, ddiref32_cut.f, Option.bind_some, if_neg (by omega)]
  | succ n ih =>
    intro i x hi hx
    have hb := mul_pow_le r h1 h2 i (by omega)
    have e : wrap64 (2 * x) = 2 * r * 2 ^ (i + 1) := by
      rw [hx, wrap_id (by omega) (by omega), Int.pow_succ, Int.mul_comm 2 (2 * r * 2 ^ i), Int.mul_assoc]
    have := ih (i + 1) _ (by omega) e
    rw [show i + 1 + n = i + (n + 1) by omega] at this
    refine Ev_shift 1 (fun k => ?_) this
    rw [ddiref32_Timeout.l0, ddiref32_cut.f, Option.bind_some, if_pos (by omega), wrap_id (x := (i : Int) + 1) (by omega) (by omega)]
    rfl
theorem wait_val (q : S34) : ∃ v : Int, 2 ≤ v ∧ v ≤ 60 ∧ upstream_Timeout.f q.f0.f0 q.f0.f1 q.f0.f2 q.f1 q.f2 q.f3 = some v ∧ Ev (fun k => ddiref32_Timeout.f k q.f0.f0 q.f0.f1 q.f0.f2 q.f1 q.f2 q.f3) v := by
  obtain ⟨c0, c6⟩ := mnmx q.f2 6 (by omega)
  have r1 : 1 ≤ mn (mx q.f1 1) 30 ∧ mn (mx q.f1 1) 30 ≤ 30 := by
    unfold mn mx
    repeat' split
    all_goals omega
  have hb := mul_pow_le _ r1.1 r1.2 (mn (mx q.f2 0) 6).toNat (by omega)
  have e2 : wrap64 (2 * mn (mx q.f1 1) 30) = 2 * mn (mx q.f1 1) 30 := wrap_id (by omega) (by omega)
  refine ⟨mn (2 * mn (mx q.f1 1) 30 * 2 ^ (mn (mx q.f2 0) 6).toNat) 60, ?_, ?_, ?_, ?_⟩
  · rw [mn_eq]; split <;> omega
  · rw [mn_eq]; split <;> omega
  · rw [upstream_Timeout.f, upstream_cut.f, Option.bind_some, upstream_cut.f, Option.bind_some, if_pos c0, e2]
    have : shl .i64 (2 * mn (mx q.f1 1) 30) (mn (mx q.f2 0) 6) = 2 * mn (mx q.f1 1) 30 * 2 ^ (mn (mx q.f2 0) 6).toNat := by
      rw [shl, Nat.min_eq_left (show (mn (mx q.f2 0) 6).toNat ≤ IntKind.i64.bits by show _ ≤ 64; omega), i64_w, wrap_id (by omega) (by omega)]
    rw [this]
  · unfold ddiref32_Timeout.f
    simp only [ddiref32_cut.f, Option.bind_some, e2]
    have := rt_loop q _ r1.1 r1.2 (mn (mx q.f2 0) 6).toNat 0 (2 * mn (mx q.f1 1) 30) (by omega) (by simp)
    rw [Nat.zero_add] at this
    exact this
theorem upstreamWaits : ddilaw32_UpstreamWaits.Pure := by
  intro a0 a1 a2 b c d _
  refine Ev.rounds (?_ : Ev (fun k => ddilaw32_UpstreamWaits.f k a0 a1 a2 b c d) true)
  obtain ⟨v, v2, v60, hu, hr⟩ := wait_val ⟨⟨a0, a1, a2⟩, b, c, d⟩
  unfold ddilaw32_UpstreamWaits.f
  simp only [show upstream_Timeout.f a0 a1 a2 b c d = some v from hu, Option.bind_some]
  refine Ev.bind hr ?_
  simp only [if_true, if_pos (show v ≥ 2 from v2), if_pos v60]
  exact Ev.bind awake_ev (Ev_const rfl)
end Go.Proofs.Ytgkpinecggoilaa.Ma
