/- UpstreamFails: failures in a row of one server (chapter 32). -/
import Derived.Test.YtgkpinecggoilaaQAd
import Derived.Test.YtgkpinecggoilaaMf
namespace Go.Proofs.Ytgkpinecggoilaa.Ma
open Go.RowKit Go.Proofs.YtgkpinecggoilaaW.PrintWords Go.Proofs.YtgkpinecggoilaaW.PrintLast Go.Proofs.YtgkpinecggoilaaW.PrintMore Go.Proofs.Ytgkpinecggoilaa.XP Go.Proofs.Ytgkpinecggoilaa.Cm Go.Proofs.Ytgkpinecggoilaa.QA
theorem qa_self (a : S25) (r f u : Int) : qa a ⟨a, r, f, u⟩ = true := by simp [qa]
theorem found_nil (a : S25) : found [] a = ⟨a, 2, 0, 0⟩ := rfl
theorem found_one (a : S25) (r f u : Int) : found [⟨a, r, f, u⟩] a = ⟨a, r, f, u⟩ := by simp [found, qa_self]
theorem stored_nil (p : S34) : stored [] p = [p] := by simp [stored, fi, ins]
theorem stored_one (a : S25) (r f u : Int) (r' f' u' : Int) : stored [⟨a, r, f, u⟩] ⟨a, r', f', u'⟩ = [⟨a, r', f', u'⟩] := by simp [stored, fi, qa_self, rep]
/-- Behind n failures in a row at one time: how long, and the list. -/
def wt : Nat → Int
  | 0 => 5
  | n + 1 => mn (2 * wt n) 320
def fl (a : S25) (t : Int) : Nat → List S34
  | 0 => []
  | n + 1 => [⟨a, 2, mn (n + 1) 6, t + wt (n + 1)⟩]
theorem wt_pow : ∀ n : Nat, wt (n + 1) = 10 * 2 ^ (min n 5)
  | 0 => by decide
  | n + 1 => by
    rw [wt, wt_pow n]
    rcases Nat.lt_or_ge n 5 with h | h
    · rw [Nat.min_eq_left (by omega), Nat.min_eq_left (by omega)]
      have : n = 0 ∨ n = 1 ∨ n = 2 ∨ n = 3 ∨ n = 4 := by omega
      rcases this with rfl | rfl | rfl | rfl | rfl <;> decide
    · rw [Nat.min_eq_right (by omega), Nat.min_eq_right (by omega)]
      decide
theorem wt_le (n : Nat) : 5 ≤ wt n ∧ wt n ≤ 320 := by
  cases n with
  | zero => decide
  | succ n =>
    rw [wt_pow]
    have : min n 5 = 0 ∨ min n 5 = 1 ∨ min n 5 = 2 ∨ min n 5 = 3 ∨ min n 5 = 4 ∨ min n 5 = 5 := by omega
    rcases this with h | h | h | h | h | h <;> rw [h] <;> decide
theorem bad_fl (a : S25) (t : Int) (h0 : 0 ≤ t) (h1 : t ≤ 2147483647) : ∀ n : Nat, bad (fl a t n) a t = fl a t (n + 1)
  | 0 => by
    have h : mn (mn (mx t 0) 4294967295 + 10 * 2 ^ (mn (mx (0 : Int) 0) 5).toNat) 4294967295 = t + wt 1 := by
      have e : (10 : Int) * 2 ^ (mn (mx (0 : Int) 0) 5).toNat = 10 := by decide
      have e' : wt 1 = 10 := by decide
      rw [e, e']
      unfold mn mx
      repeat' split
      all_goals omega
    simp only [fl, bad, bf, found_nil, stored_nil, h]
    rfl
  | n + 1 => by
    have hw := wt_le (n + 1 + 1)
    have hf : mn (mx (mn ((n : Int) + 1) 6) 0) 5 = ((min (n + 1) 5 : Nat) : Int) := by
      unfold mn mx
      repeat' split
      all_goals omega
    have h : mn (mn (mx t 0) 4294967295 + 10 * 2 ^ (mn (mx (mn ((n : Int) + 1) 6) 0) 5).toNat) 4294967295 = t + wt (n + 1 + 1) := by
      rw [hf, Int.toNat_natCast, ← wt_pow (n + 1)]
      unfold mn mx
      repeat' split
      all_goals omega
    have h2 : mn (mx (mn ((n : Int) + 1) 6) 0) 5 + 1 = mn (((n + 1 : Nat) : Int) + 1) 6 := by
      rw [hf]
      unfold mn
      split <;> omega
    simp only [fl, bad, bf, found_one, h, stored_one, h2]
theorem fails_loop (a : S25) (t m : Int) (h0 : 0 ≤ t) (h1 : t ≤ 2147483647) (hm : 0 ≤ Int.tmod m 12 ∧ Int.tmod m 12 ≤ 11) : ∀ (n i : Nat), (i : Int) + n = Int.tmod m 12 + 1 →
    Ev (fun k => ddilaw32_UpstreamFails.l0 k m ((fl a t i).map c2) (wt i) t (i : Int) a.f0 a.f1 a.f2) true := by
  have hw : wrap64 (Int.tmod m 12) = Int.tmod m 12 := wrap_id (by omega) (by omega)
  have hfl : ∀ i, (fl a t i).length ≤ 1 := fun i => by cases i <;> simp [fl]
  intro n
  induction n with
  | zero =>
    intro i hi
    obtain ⟨j, rfl⟩ : ∃ j, i = j + 1 := ⟨i - 1, by omega⟩
    refine Ev_shift 1 (fun k => by rw [ddilaw32_UpstreamFails.l0, hw, if_neg (by omega)]) ?_
    refine Ev.bind (ugood_ev _ (by have := hfl (j + 1); omega) a 2) ?_
    have hg : good (fl a t (j + 1)) a 2 = [⟨a, 2, 0, 0⟩] := by
      have e1 : fi (qa a) (fl a t (j + 1)) 0 = some 0 := by simp [fl, fi, qa_self]
      have e2 : gr (fl a t (j + 1)) a 2 = 2 := by
        rw [gr, e1, Option.isSome_some, if_pos rfl]
        simp only [fl, found_one]
        decide +kernel
      rw [good, e2]
      simp only [fl, stored_one]
    rw [hg]
    simp only [List.map_cons, List.map_nil, List.length_cons, List.length_nil, c2]
    simp only [rd_T35, Int.toNat_zero, List.getD_cons_zero, beq_self_eq_true, Bool.and_self, if_true]
    have hp : Ev (fun k => ddilaw32_peers.f k [(⟨a, 2, 0, 0⟩ : S35)]) [(⟨a, 2, 0, 0⟩ : S34)] := by
      refine Ev_shift 3 (f := fun _ => some [(⟨a, 2, 0, 0⟩ : S34)]) (fun k => ?_) (Ev_const rfl)
      unfold ddilaw32_peers.f
      simp [ddilaw32_peers.l0, rd_T35, wrap64]
    refine Ev.bind hp ?_
    exact Ev.bind awake_ev (Ev_const rfl)
  | succ n ih =>
    intro i hi
    have hwl := wt_le i
    have hwn := wt_le (i + 1)
    have e1 : mn (wrap64 (2 * wt i)) 320 = wt (i + 1) := by rw [wrap_id (by omega) (by omega), wt]
    have e2 : wrap64 ((i : Int) + 1) = ((i + 1 : Nat) : Int) := by rw [wrap_id (by omega) (by omega)]; rfl
    have e3 : wrap64 (t + wt (i + 1)) = t + wt (i + 1) := wrap_id (by omega) (by omega)
    refine Ev_shift 1 (fun k => by rw [ddilaw32_UpstreamFails.l0, hw, if_pos (by omega)]) ?_
    refine Ev.bind (ubad_ev _ (by have := hfl i; omega) a t) ?_
    rw [bad_fl a t h0 h1 i]
    refine Ev.bind (ufind_ev _ (by have := hfl (i + 1); omega) a) ?_
    have hf : found (fl a t (i + 1)) a = ⟨a, 2, mn ((i : Int) + 1) 6, t + wt (i + 1)⟩ := by rw [fl, found_one]
    have hl1 : (((fl a t (i + 1)).map c2).length : Int) = 1 := by simp [fl]
    rw [hf]
    simp only [hl1, if_true, tup, e1, e2, e3, show ((i + 1 : Nat) : Int) = (i : Int) + 1 by omega]
    refine Ev_shift 1 (fun k => ?_) (ih (i + 1) (by omega))
    rw [ddilaw32_UpstreamFails.j1, if_neg (by decide)]
    have : wrap64 ((i : Int) + 1) = ((i + 1 : Nat) : Int) := e2
    rw [this]
theorem upstreamFails : ddilaw32_UpstreamFails.Pure := by
  intro a0 a1 a2 m t _ hm ht
  refine Ev.rounds (?_ : Ev (fun k => ddilaw32_UpstreamFails.f k a0 a1 a2 m t) true)
  have h1 := wf_u8 hm
  have h2 := wf_u32 ht
  have hw : wrap64 (Int.tdiv (wrap64 t) 2) = t / 2 := by
    rw [wrap_id (x := t) (by omega) (by omega), Int.tdiv_eq_ediv_of_nonneg h2.1, wrap_id (by omega) (by omega)]
  have hm12 : Int.tmod m 12 = m % 12 := Int.tmod_eq_emod_of_nonneg h1.1
  have := fails_loop ⟨a0, a1, a2⟩ (t / 2) m (by omega) (by omega) (by omega) (Int.tmod m 12 + 1).toNat 0 (by omega)
  unfold ddilaw32_UpstreamFails.f
  rw [hw]
  exact this
end Go.Proofs.Ytgkpinecggoilaa.Ma
