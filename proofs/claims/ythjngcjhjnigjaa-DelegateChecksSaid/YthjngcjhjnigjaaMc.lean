/- DelegateChecks: the check, how many prefixes are free, what is left at a time, whose an address is. -/
import Derived.Test.YthjngcjhjnigjaaQAd1
import Derived.Test.YthjngcjhjnigjaaMb
namespace Go.Proofs.Ythjngcjhjnigjaa.Ma
open Go.RowKit Go.Proofs.YthjngcjhjnigjaaW.PrintWords Go.Proofs.YthjngcjhjnigjaaW.PrintLast Go.Proofs.YthjngcjhjnigjaaW.PrintMore Go.Proofs.Ythjngcjhjnigjaa.XP Go.Proofs.Ythjngcjhjnigjaa.QA Go.Proofs.Ythjngcjhjnigjaa.Cm
set_option linter.unusedVariables false
set_option linter.unusedSimpArgs false
theorem awake_ev : Ev (fun k => ddilaw43_awake.f k) true := ⟨60, fun k hk => at_rounds ddilaw43_awake.mono hk (by decide +kernel)⟩
theorem chkT_pool (p : S28) (l : List S61) (h : chkT p l = 0) : poolB p = true := by
  unfold chkT at h
  split at h
  · assumption
  · cases h
theorem pool_bits (p : S28) (h : poolB p = true) : p.f0.f1 ≤ p.f1 ∧ p.f1 - p.f0.f1 ≤ 32 ∧ 0 ≤ p.f0.f1 ∧ p.f0.f1 ≤ 128 := by
  unfold poolB at h
  simp only [Bool.and_eq_true, decide_eq_true_eq] at h
  obtain ⟨hv, h1, h2, h3⟩ := h
  obtain ⟨_, h4, h5⟩ := pv_in hv
  have := lenV_le p.f0.f0.f0
  omega
def pow2 (n : Nat) : Int := ((2 ^ n : Nat) : Int)
theorem pow2_le (n : Nat) (h : n ≤ 32) : 1 ≤ pow2 n ∧ pow2 n ≤ 4294967296 := by
  have : ∀ m : Fin 33, 1 ≤ pow2 m.val ∧ pow2 m.val ≤ 4294967296 := by decide
  exact this ⟨n, by omega⟩
theorem size_from (p : S28) (hb : p.f1 ≤ 1000) (h0 : 0 ≤ p.f0.f1) (hle : p.f0.f1 ≤ p.f1) (h32 : p.f1 - p.f0.f1 ≤ 32) : ∀ (d : Nat) (i : Int), (p.f1 - i).toNat ≤ d → p.f0.f1 ≤ i → i ≤ p.f1 → Ev (fun k => ddiref43_size.l0 k (pow2 (i - p.f0.f1).toNat) i p.f0.f0.f0 p.f0.f0.f1 p.f0.f0.f2 p.f0.f1 p.f1) (pow2 (p.f1 - p.f0.f1).toNat)
  | d, i, hd, h1, h2 => by
    by_cases h : i < p.f1
    · cases d with
      | zero => exact absurd hd (by omega)
      | succ d =>
        have ih := size_from p hb h0 hle h32 d (i + 1) (by omega) (by omega) (by omega)
        have hp := pow2_le (i - p.f0.f1).toNat (by omega)
        have hp2 := pow2_le (i + 1 - p.f0.f1).toNat (by omega)
        have e : (i + 1 - p.f0.f1).toNat = (i - p.f0.f1).toNat + 1 := by omega
        have e2 : pow2 (i + 1 - p.f0.f1).toNat = 2 * pow2 (i - p.f0.f1).toNat := by
          rw [e]
          unfold pow2
          rw [Nat.pow_succ]
          omega
        refine Ev_shift 1 (fun k => ?_) ih
        rw [ddiref43_size.l0, if_pos h, wrap_id (x := i + 1) (by omega) (by omega), e2, IntKind.wrap_u64]
        congr 1
        rw [← e2]
        omega
    · have : i = p.f1 := by omega
      subst this
      exact Ev_shift 1 (f := fun _ => some (pow2 (p.f1 - p.f0.f1).toNat)) (fun k => by rw [ddiref43_size.l0, if_neg (by omega)]) (Ev_const rfl)
theorem size_ev (p : S28) (h : poolB p = true) : Ev (fun k => ddiref43_size.f k p.f0.f0.f0 p.f0.f0.f1 p.f0.f0.f2 p.f0.f1 p.f1) (pow2 (p.f1 - p.f0.f1).toNat) := by
  obtain ⟨h1, h2, h3, h4⟩ := pool_bits p h
  unfold ddiref43_size.f
  have := size_from p (by omega) h3 h1 h2 (p.f1 - p.f0.f1).toNat p.f0.f1 (by omega) (by omega) h1
  rw [show (p.f0.f1 - p.f0.f1).toNat = 0 by omega] at this
  exact this
theorem shl_v (n : Int) (h0 : 0 ≤ n) (h1 : n ≤ 32) : shl .u64 1 n = pow2 n.toNat := by
  have : ∀ m : Fin 33, shl .u64 1 ((m.val : Nat) : Int) = pow2 m.val := by decide +kernel
  have := this ⟨n.toNat, by omega⟩
  simp only [] at this
  rw [← this]
  congr 1
  omega
def freeT (p : S28) (l : List S61) (t : Int) : Int := if chkT p l = 0 then IntKind.u64.wrap (pow2 (p.f1 - p.f0.f1).toNat - IntKind.u64.wrap ((expT l t).length : Int)) else 0
theorem free_ev (p : S28) (hp : (Lit.int .i64 p.f1).wf = true) (l : List S61) (hl : l.length ≤ 1000000000) (ok : ∀ g ∈ l, g.f1.size ≤ 140737488351232) (t : Int) : Ev (fun k => delegate_Free.f k p.f0.f0.f0 p.f0.f0.f1 p.f0.f0.f2 p.f0.f1 p.f1 l t) (freeT p l t) := by
  unfold delegate_Free.f freeT
  refine Ev.bind (check_ev p hp l (by omega) ok) ?_
  by_cases hc : chkT p l = 0
  · obtain ⟨h1, h2, h3, h4⟩ := pool_bits p (chkT_pool p l hc)
    have hw : IntKind.u64.wrap (wrap64 (p.f1 - p.f0.f1)) = p.f1 - p.f0.f1 := by
      rw [wrap_id (by omega) (by omega), IntKind.wrap_u64]
      omega
    simp only [if_pos hc, hw, if_pos (show 0 ≤ p.f1 - p.f0.f1 by omega), shl_v (p.f1 - p.f0.f1) (by omega) h2]
    exact Ev.bind (exp_ev l hl t) (Ev_const rfl)
  · simp only [if_neg hc]
    exact Ev_const rfl
theorem rfree_ev (p : S28) (hp : (Lit.int .i64 p.f1).wf = true) (l : List S61) (hl : l.length ≤ 1000000000) (ok : ∀ g ∈ l, g.f1.size ≤ 140737488351232) (okA : ∀ g ∈ l, uA g.f0.f0) (t : Int) : Ev (fun k => ddiref43_Free.f k p.f0.f0.f0 p.f0.f0.f1 p.f0.f0.f2 p.f0.f1 p.f1 (l.map cv) t) (freeT p l t) := by
  unfold ddiref43_Free.f freeT
  refine Ev.bind (rcheck_ev p hp l (by omega) ok okA) ?_
  by_cases hc : chkT p l = 0
  · simp only [if_pos hc]
    refine Ev.bind (size_ev p (chkT_pool p l hc)) ?_
    refine Ev.bind (rexp_ev l hl t) (Ev_const ?_)
    rw [len_cv]
  · simp only [if_neg hc]
    exact Ev_const rfl
theorem own_ok (l : List S70) (ok : ∀ y ∈ l, okS70 y) : (∀ g ∈ ownT l, g.f1.size ≤ 100) ∧ ∀ g ∈ ownT l, uA g.f0.f0 := by
  constructor
  · intro g hg
    unfold ownT at hg
    obtain ⟨y, _, rfl⟩ := List.mem_map.1 hg
    exact cut_size y
  · intro g hg
    unfold ownT at hg
    obtain ⟨y, hy, rfl⟩ := List.mem_map.1 hg
    exact uA_of (ok y (List.mem_of_mem_take hy)).1.1
theorem delegateChecks : ddilaw43_DelegateChecks.Pure := by
  intro p0 p1 p2 p3 p4 l c a0 a1 a2 a3 n life hp ⟨hl, _, ok⟩ hx
  obtain ⟨hs, hA⟩ := own_ok l ok
  have hlen := ownT_len l
  have ok2 : ∀ g ∈ ownT l, g.f1.size ≤ 140737488351232 := fun g hg => Nat.le_trans (hs g hg) (by omega)
  have hu : uA (⟨a0, a1, a2⟩ : S24) := uA_of hx.2.1.1
  refine Ev.rounds (?_ : Ev (fun k => ddilaw43_DelegateChecks.f k p0 p1 p2 p3 p4 l c a0 a1 a2 a3 n life) true)
  unfold ddilaw43_DelegateChecks.f
  refine Ev.bind (few_ev l (by omega)) ?_
  refine Ev.bind (own_ev ((ownT l).map cv) (by rw [List.length_map]; omega)) ?_
  rw [ownT_own]
  refine Ev.bind (rout_ev (ownT l) (by omega) ⟨a0, a1, a2⟩ n) ?_
  refine Ev.bind (rrout_ev (ownT l) (by omega) ⟨a0, a1, a2⟩ hu n) ?_
  refine Ev.bind (check_ev ⟨⟨⟨p0, p1, p2⟩, p3⟩, p4⟩ hp.2 (ownT l) (by omega) ok2) ?_
  refine Ev.bind (rcheck_ev ⟨⟨⟨p0, p1, p2⟩, p3⟩, p4⟩ hp.2 (ownT l) (by omega) ok2 hA) ?_
  simp only [if_true]
  refine Ev.bind (free_ev ⟨⟨⟨p0, p1, p2⟩, p3⟩, p4⟩ hp.2 (ownT l) (by omega) ok2 n) ?_
  refine Ev.bind (rfree_ev ⟨⟨⟨p0, p1, p2⟩, p3⟩, p4⟩ hp.2 (ownT l) (by omega) ok2 hA n) ?_
  simp only [if_true]
  refine Ev.bind (exp_ev (ownT l) (by omega) n) ?_
  refine Ev.bind (rexp_ev (ownT l) (by omega) n) ?_
  refine Ev.bind (same_ev (expT (ownT l) n) (by have := List.length_filter_le (liveB n) (ownT l); unfold expT; omega)) ?_
  simp only [if_true, beq_self_eq_true]
  exact Ev.bind awake_ev (Ev_const rfl)
end Go.Proofs.Ythjngcjhjnigjaa.Ma
