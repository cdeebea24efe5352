/- Good and Bad: the program's and the reference's do the same (chapter 32). -/
import Derived.Test.YtgkpinecggoilaaQAd1
import Derived.Test.YtgkpinecggoilaaMd
namespace Go.Proofs.Ytgkpinecggoilaa.Ma
open Go.RowKit Go.Proofs.YtgkpinecggoilaaW.PrintWords Go.Proofs.YtgkpinecggoilaaW.PrintLast Go.Proofs.YtgkpinecggoilaaW.PrintMore Go.Proofs.Ytgkpinecggoilaa.XP Go.Proofs.Ytgkpinecggoilaa.Cm Go.Proofs.Ytgkpinecggoilaa.QA
set_option linter.unusedVariables false
set_option linter.unusedSimpArgs false
/-- The new round-trip time. -/
def gr (l : List S34) (a : S25) (rtt : Int) : Int := if (fi (qa a) l 0).isSome = true then mx (wrap64 (Int.tdiv (wrap64 ((wrap64 (3 * mn (mx (found l a).f1 1) 30)) + mn (mx rtt 1) 30)) 4)) 1 else mn (mx rtt 1) 30
def good (l : List S34) (a : S25) (rtt : Int) : List S34 := stored l ⟨a, gr l a rtt, 0, 0⟩
theorem ugood_ev (l : List S34) (hl : l.length < 1000000) (a : S25) (rtt : Int) : Ev (fun k => upstream_Good.f k (l.map c2) a.f0 a.f1 a.f2 rtt) ((good l a rtt).map c2) := by
  have hlm : (l.map c2).length = l.length := List.length_map _
  have hs : ∀ m : Int, Ev (fun k => upstream_Good.j0 k (l.map c2) m a.f0 a.f1 a.f2) ((stored l ⟨a, m, 0, 0⟩).map c2) := fun m =>
    Ev_shift 1 (f := fun k => (upstream_store.f k (l.map c2) a.f0 a.f1 a.f2 m 0 0).bind fun t => some t) (fun k => by rw [upstream_Good.j0]) (Ev.bind (ustore_ev l hl ⟨a, m, 0, 0⟩) (Ev_const rfl))
  unfold upstream_Good.f
  simp only [upstream_cut.f, Option.bind_some]
  have hf := index_ev l (by omega) a
  unfold good gr
  cases h : fi (qa a) l 0 with
  | none =>
    rw [h] at hf
    refine Ev.bind (a := (-1 : Int)) hf ?_
    simp only [if_neg (show ¬ ((-1 : Int) ≥ 0) by omega), Option.isSome_none, if_neg (show ¬ (false = true) by decide)]
    exact hs _
  | some j =>
    obtain ⟨_, h2, h3⟩ := fi_some _ _ _ _ h
    have hj : j < l.length := by simpa using h2
    have hfd : found l a = l[j] := by rw [found, h3]; rfl
    rw [h] at hf
    refine Ev.bind (a := (j : Int)) hf ?_
    simp only [if_pos (show (j : Int) ≥ 0 by omega), if_pos (show (j : Int) < ((l.map c2).length : Int) by omega), rd35 l j hj, Option.isSome_some, if_true, hfd]
    exact hs _
theorem rgood_ev (l : List S34) (hl : l.length < 1000000) (a : S25) (rtt : Int) : Ev (fun k => ddiref32_Good.f k l a.f0 a.f1 a.f2 rtt) (good l a rtt) := by
  have hs : ∀ m : Int, Ev (fun k => ddiref32_Good.j0 k l m a.f0 a.f1 a.f2) (stored l ⟨a, m, 0, 0⟩) := fun m =>
    Ev_shift 1 (f := fun k => (ddiref32_store.f k l a.f0 a.f1 a.f2 m 0 0).bind fun t => some t) (fun k => by rw [ddiref32_Good.j0]) (Ev.bind (rstore_ev l hl ⟨a, m, 0, 0⟩) (Ev_const rfl))
  unfold ddiref32_Good.f
  simp only [ddiref32_cut.f, Option.bind_some]
  refine Ev.bind (known_ev l (by omega) a) ?_
  unfold good gr
  cases h : (fi (qa a) l 0).isSome with
  | false =>
    simp only [if_neg (show ¬ (false = true) by decide)]
    exact hs _
  | true =>
    simp only [if_true]
    refine Ev.bind (rfind_ev l (by omega) a) ?_
    exact hs _
/-- How many failures in a row, and until when. -/
def bf (l : List S34) (a : S25) : Int := mn (mx (found l a).f2 0) 5
def bad (l : List S34) (a : S25) (now : Int) : List S34 := stored l ⟨(found l a).f0, (found l a).f1, bf l a + 1, mn (mn (mx now 0) 4294967295 + 10 * 2 ^ (bf l a).toNat) 4294967295⟩
theorem mnmx (x h : Int) (h0 : 0 ≤ h) : 0 ≤ mn (mx x 0) h ∧ mn (mx x 0) h ≤ h := by
  unfold mn mx
  repeat' split
  all_goals omega
theorem shl10 (b : Int) (h0 : 0 ≤ b) (h5 : b ≤ 5) : shl .i64 10 b = 10 * 2 ^ b.toNat := by
  have : b = 0 ∨ b = 1 ∨ b = 2 ∨ b = 3 ∨ b = 4 ∨ b = 5 := by omega
  rcases this with rfl | rfl | rfl | rfl | rfl | rfl <;> decide
theorem ubad_ev (l : List S34) (hl : l.length < 1000000) (a : S25) (now : Int) : Ev (fun k => upstream_Bad.f k (l.map c2) a.f0 a.f1 a.f2 now) ((bad l a now).map c2) := by
  unfold upstream_Bad.f
  refine Ev.bind (ufind_ev l (by omega) a) ?_
  simp only [upstream_cut.f, Option.bind_some]
  obtain ⟨b0, b5⟩ := mnmx (found l a).f2 5 (by omega)
  obtain ⟨t0, t1⟩ := mnmx now 4294967295 (by omega)
  have e1 : wrap64 (bf l a + 1) = bf l a + 1 := wrap_id (by unfold bf; omega) (by unfold bf; omega)
  have e2 : wrap64 (bf l a + 1 - 1) = bf l a := by rw [Int.add_sub_cancel]; exact wrap_id (by unfold bf; omega) (by unfold bf; omega)
  have e3 := shl10 (bf l a) b0 b5
  have hp : (2 : Int) ^ (bf l a).toNat ≤ 32 := by
    have : bf l a = 0 ∨ bf l a = 1 ∨ bf l a = 2 ∨ bf l a = 3 ∨ bf l a = 4 ∨ bf l a = 5 := by unfold bf; omega
    rcases this with h | h | h | h | h | h <;> rw [h] <;> decide
  have hp0 : (0 : Int) ≤ 2 ^ (bf l a).toNat := Int.pow_nonneg (by decide)
  have e4 : wrap64 (mn (mx now 0) 4294967295 + 10 * 2 ^ (bf l a).toNat) = mn (mx now 0) 4294967295 + 10 * 2 ^ (bf l a).toNat := wrap_id (by omega) (by omega)
  have hb : mn (mx (tup (found l a)).2.2.2.2.1 0) 5 = bf l a := rfl
  simp only [hb, e1, e2, e3, e4, if_pos (show 0 ≤ bf l a from b0)]
  exact Ev.bind (ustore_ev l hl ⟨(found l a).f0, (found l a).f1, bf l a + 1, _⟩) (Ev_const rfl)
theorem rbad_loop (l : List S34) (hl : l.length < 1000000) (now : Int) (q : S34) (u : Int) : ∀ (n : Nat) (i : Nat) (x : Int), 1 ≤ i → i + n = q.f2.toNat → 0 ≤ q.f2 → q.f2 ≤ 6 → x = 10 * 2 ^ (i - 1) →
    Ev (fun k => ddiref32_Bad.l0 k l now x (i : Int) q.f0.f0 q.f0.f1 q.f0.f2 q.f1 q.f2 u) (stored l ⟨q.f0, q.f1, q.f2, mn (mn (mx now 0) 4294967295 + 10 * 2 ^ (q.f2.toNat - 1)) 4294967295⟩) := by
  obtain ⟨t0, t1⟩ := mnmx now 4294967295 (by omega)
  have small : ∀ j : Nat, j ≤ 5 → (2 : Int) ^ j ≤ 32 ∧ 0 ≤ (2 : Int) ^ j := fun j hj => by
    have : j = 0 ∨ j = 1 ∨ j = 2 ∨ j = 3 ∨ j = 4 ∨ j = 5 := by omega
    rcases this with rfl | rfl | rfl | rfl | rfl | rfl <;> decide
  intro n
  induction n with
  | zero =>
    intro i x hi hn h0 h6 hx
    have hs := small (i - 1) (by omega)
    refine Ev_shift 1 (f := fun k => (ddiref32_store.f k l q.f0.f0 q.f0.f1 q.f0.f2 q.f1 q.f2 (mn (mn (mx now 0) 4294967295 + x) 4294967295)).bind fun t => some t) (fun k => ?_) ?_
    · rw [ddiref32_Bad.l0, if_neg (by omega), ddiref32_cut.f, Option.bind_some, wrap_id (by omega) (by omega)]
    · rw [hx, show i - 1 = q.f2.toNat - 1 by omega]
      exact Ev.bind (rstore_ev l hl ⟨q.f0, q.f1, q.f2, mn (mn (mx now 0) 4294967295 + 10 * 2 ^ (q.f2.toNat - 1)) 4294967295⟩) (Ev_const rfl)
  | succ n ih =>
    intro i x hi hn h0 h6 hx
    have hs := small (i - 1) (by omega)
    have hx2 : wrap64 (2 * x) = 10 * 2 ^ (i + 1 - 1) := by
      rw [wrap_id (by omega) (by omega), hx, show i + 1 - 1 = (i - 1) + 1 by omega, Int.pow_succ]
      omega
    refine Ev_shift 1 (f := fun k => ddiref32_Bad.l0 k l now (wrap64 (2 * x)) ((i + 1 : Nat) : Int) q.f0.f0 q.f0.f1 q.f0.f2 q.f1 q.f2 u) (fun k => ?_) (ih (i + 1) _ (by omega) (by omega) h0 h6 hx2)
    rw [ddiref32_Bad.l0, if_pos (by omega), wrap_id (by omega) (by omega), wrap_id (by omega) (by omega)]
    rfl
theorem rbad_ev (l : List S34) (hl : l.length < 1000000) (a : S25) (now : Int) : Ev (fun k => ddiref32_Bad.f k l a.f0 a.f1 a.f2 now) (bad l a now) := by
  unfold ddiref32_Bad.f
  refine Ev.bind (rfind_ev l (by omega) a) ?_
  simp only [ddiref32_cut.f, Option.bind_some]
  obtain ⟨b0, b5⟩ := mnmx (found l a).f2 5 (by omega)
  obtain ⟨c0, c6⟩ := mnmx (found l a).f2 6 (by omega)
  have e1 : mn (mx (wrap64 (mn (mx (tup (found l a)).2.2.2.2.1 0) 6 + 1)) 1) 6 = bf l a + 1 := by
    show mn (mx (wrap64 (mn (mx (found l a).f2 0) 6 + 1)) 1) 6 = mn (mx (found l a).f2 0) 5 + 1
    rw [wrap_id (by omega) (by omega)]
    unfold mn mx
    repeat' split
    all_goals omega
  rw [e1]
  have hbf : bf l a = mn (mx (found l a).f2 0) 5 := rfl
  have := rbad_loop l hl now ⟨(found l a).f0, (found l a).f1, bf l a + 1, 0⟩ (found l a).f3 (bf l a).toNat 1 10 (by omega) (by show 1 + (bf l a).toNat = (bf l a + 1).toNat; omega) (by show 0 ≤ bf l a + 1; omega) (by show bf l a + 1 ≤ 6; omega) (by decide)
  rw [show (⟨(found l a).f0, (found l a).f1, bf l a + 1, 0⟩ : S34).f2.toNat - 1 = (bf l a).toNat from by show (bf l a + 1).toNat - 1 = _; omega] at this
  exact this
end Go.Proofs.Ytgkpinecggoilaa.Ma
