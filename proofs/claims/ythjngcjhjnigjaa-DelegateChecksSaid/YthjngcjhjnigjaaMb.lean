/- The check of a pool and its grants, the program's and the reference's (no condition but the sizes). -/
import Derived.Test.YthjngcjhjnigjaaQAd1
import Derived.Test.YthjngcjhjnigjaaMa
import Derived.Test.YthjngcjhjnigjaaCby
namespace Go.Proofs.Ythjngcjhjnigjaa.Ma
open Go.RowKit Go.Proofs.YthjngcjhjnigjaaW.PrintWords Go.Proofs.YthjngcjhjnigjaaW.PrintLast Go.Proofs.YthjngcjhjnigjaaW.PrintMore Go.Proofs.Ythjngcjhjnigjaa.XP Go.Proofs.Ythjngcjhjnigjaa.QA Go.Proofs.Ythjngcjhjnigjaa.Cm
set_option linter.unusedVariables false
set_option linter.unusedSimpArgs false
def vis (c : UInt8) : Bool := decide (33 ≤ c.toNat) && decide (c.toNat ≤ 126)
theorem vis_at (c : UInt8) {β : Type} (g : Bool → β) : (if (c.toNat : Int) < 33 then g true else g (decide ((c.toNat : Int) > 126))) = g (!vis c) := by
  unfold vis
  split
  · rw [decide_eq_false (show ¬ 33 ≤ c.toNat by omega)]; rfl
  · rw [decide_eq_true (show 33 ≤ c.toNat by omega), Bool.true_and]
    congr 1
    rw [Bool.eq_iff_iff]
    simp
    omega
theorem named_from (s : ByteArray) (hs : s.size ≤ 140737488351232) : ∀ (r : List UInt8) (i : Nat), s.data.toList.drop i = r → Ev (fun k => delegate_named.l0 k s (s.size : Int) (i : Int)) (r.all vis)
  | [], i, h => by
    have := size_end s i h
    exact Ev_shift 1 (f := fun _ => some true) (fun k => by rw [delegate_named.l0, if_neg (by omega)]) (Ev_const rfl)
  | c :: r, i, h => by
    obtain ⟨hi, hb, hr⟩ := bt_at_drop s i c r h
    have ih := named_from s hs r (i + 1) hr
    refine Ev_shift 1 (f := fun k => delegate_named.j2 k s (s.size : Int) (i : Int) (!vis c)) (fun k => ?_) ?_
    · rw [delegate_named.l0, if_pos (by omega), if_pos (by omega), if_pos (by omega), hb]
      exact vis_at c (fun b => delegate_named.j2 k s (s.size : Int) (i : Int) b)
    · rw [List.all_cons]
      cases vis c with
      | false => exact Ev_shift 1 (f := fun _ => some false) (fun k => by rw [delegate_named.j2]; rfl) (Ev_const rfl)
      | true =>
        rw [Bool.true_and]
        exact Ev_shift 1 (fun k => by rw [delegate_named.j2, next i s.size hi (by omega)]; rfl) ih
theorem rnamed_from (s : ByteArray) (hs : s.size ≤ 140737488351232) : ∀ (r : List UInt8) (i : Nat), s.data.toList.drop i = r → Ev (fun k => ddiref43_isClient.l0 k s (i : Int)) (r.all vis)
  | [], i, h => by
    have := size_end s i h
    exact Ev_shift 1 (f := fun _ => some true) (fun k => by rw [ddiref43_isClient.l0, if_neg (by omega)]) (Ev_const rfl)
  | c :: r, i, h => by
    obtain ⟨hi, hb, hr⟩ := bt_at_drop s i c r h
    have ih := rnamed_from s hs r (i + 1) hr
    refine Ev_shift 1 (f := fun k => ddiref43_isClient.j2 k s (i : Int) (!vis c)) (fun k => ?_) ?_
    · rw [ddiref43_isClient.l0, if_pos (by omega), if_pos (by omega), hb]
      exact vis_at c (fun b => ddiref43_isClient.j2 k s (i : Int) b)
    · rw [List.all_cons]
      cases vis c with
      | false => exact Ev_shift 1 (f := fun _ => some false) (fun k => by rw [ddiref43_isClient.j2]; rfl) (Ev_const rfl)
      | true =>
        rw [Bool.true_and]
        exact Ev_shift 1 (fun k => by rw [ddiref43_isClient.j2, next i s.size hi (by omega)]; rfl) ih
def cliB (s : ByteArray) : Bool := decide (1 ≤ s.size) && (decide (s.size ≤ 32) && s.data.toList.all vis)
theorem toList_nil (s : ByteArray) : s.toList = [] ↔ s.size = 0 := by
  rw [toL, size_data]
  exact List.length_eq_zero_iff.symm
theorem named_ev (s : ByteArray) (hs : s.size ≤ 140737488351232) : Ev (fun k => delegate_named.f k s) (cliB s) := by
  unfold delegate_named.f cliB
  have hj : ∀ b : Bool, Ev (fun k => delegate_named.j0 k s b) (if b = true then false else s.data.toList.all vis) := fun b => by
    cases b with
    | true => exact Ev_shift 1 (f := fun _ => some false) (fun k => by rw [delegate_named.j0, if_pos rfl]) (Ev_const rfl)
    | false => exact Ev_shift 1 (fun k => by rw [delegate_named.j0, if_neg Bool.false_ne_true]; rfl) (named_from s hs _ 0 rfl)
  by_cases h : s.toList = []
  · simp only [if_pos h]
    have := (toList_nil s).1 h
    rw [decide_eq_false (show ¬ 1 ≤ s.size by omega), Bool.false_and]
    exact hj true
  · simp only [if_neg h]
    have h0 : ¬ s.size = 0 := fun h2 => h ((toList_nil s).2 h2)
    rw [decide_eq_true (show 1 ≤ s.size by omega), Bool.true_and]
    have := hj (decide ((s.size : Int) > 32))
    by_cases h3 : s.size ≤ 32
    · rw [decide_eq_false (show ¬ (s.size : Int) > 32 by omega)] at this ⊢
      rw [decide_eq_true h3, Bool.true_and]
      exact this
    · rw [decide_eq_true (show (s.size : Int) > 32 by omega)] at this ⊢
      rw [decide_eq_false h3, Bool.false_and]
      exact this
theorem rnamed_ev (s : ByteArray) (hs : s.size ≤ 140737488351232) : Ev (fun k => ddiref43_isClient.f k s) (cliB s) := by
  unfold ddiref43_isClient.f cliB
  have hj : ∀ b : Bool, Ev (fun k => ddiref43_isClient.j0 k s b) (if b = true then false else s.data.toList.all vis) := fun b => by
    cases b with
    | true => exact Ev_shift 1 (f := fun _ => some false) (fun k => by rw [ddiref43_isClient.j0, if_pos rfl]) (Ev_const rfl)
    | false => exact Ev_shift 1 (fun k => by rw [ddiref43_isClient.j0, if_neg Bool.false_ne_true]; rfl) (rnamed_from s hs _ 0 rfl)
  by_cases h : (s.size : Int) < 1
  · simp only [if_pos h]
    rw [decide_eq_false (show ¬ 1 ≤ s.size by omega), Bool.false_and]
    exact hj true
  · simp only [if_neg h]
    rw [decide_eq_true (show 1 ≤ s.size by omega), Bool.true_and]
    have := hj (decide ((s.size : Int) > 32))
    by_cases h3 : s.size ≤ 32
    · rw [decide_eq_false (show ¬ (s.size : Int) > 32 by omega)] at this ⊢
      rw [decide_eq_true h3, Bool.true_and]
      exact this
    · rw [decide_eq_true (show (s.size : Int) > 32 by omega)] at this ⊢
      rw [decide_eq_false h3, Bool.false_and]
      exact this
def poolB (p : S28) : Bool := pvB p.f0 && (decide (p.f1 ≥ p.f0.f1) && (decide (p.f1 ≤ lenV p.f0.f0.f0) && decide (p.f1 - p.f0.f1 ≤ 32)))
theorem right_ev (p : S28) (hp : (Lit.int .i64 p.f1).wf = true) : Ev (fun k => delegate_right.f k p.f0.f0.f0 p.f0.f0.f1 p.f0.f0.f2 p.f0.f1 p.f1) (poolB p) := by
  have hw := wf_i64 hp
  have hj : ∀ m : Int, m = lenV p.f0.f0.f0 → Ev (fun k => delegate_right.j0 k m p.f0.f0.f0 p.f0.f0.f1 p.f0.f0.f2 p.f0.f1 p.f1) (poolB p) := fun m hm => by
    subst hm
    refine Ev_shift 1 (fun k => by rw [delegate_right.j0]) ?_
    refine Ev.bind (valid_pfx p.f0) ?_
    unfold poolB
    cases hv : pvB p.f0 with
    | false => exact Ev_const rfl
    | true =>
      obtain ⟨_, h0, h1⟩ := pv_in hv
      have hl := lenV_le p.f0.f0.f0
      have hwr : wrap64 (p.f0.f1 + 32) = p.f0.f1 + 32 := wrap_id (by omega) (by omega)
      simp only [if_true, Bool.true_and, hwr]
      by_cases g1 : p.f1 ≥ p.f0.f1
      · simp only [if_pos g1, decide_eq_true g1, Bool.true_and]
        by_cases g2 : p.f1 ≤ lenV p.f0.f0.f0
        · simp only [if_pos g2, decide_eq_true g2, Bool.true_and]
          refine Ev_const ?_
          congr 1
          rw [Bool.eq_iff_iff, decide_eq_true_eq, decide_eq_true_eq]
          omega
        · simp only [if_neg g2, decide_eq_false g2, Bool.false_and]
          exact Ev_const rfl
      · simp only [if_neg g1, decide_eq_false g1, Bool.false_and]
        exact Ev_const rfl
  unfold delegate_right.f
  cases hb : p.f0.f0.f0 with
  | true =>
    simp only [if_true]
    have := hj 128 (by rw [hb]; rfl)
    rw [hb] at this
    exact this
  | false =>
    simp only [Bool.false_eq_true, if_false]
    have := hj 32 (by rw [hb]; rfl)
    rw [hb] at this
    exact this
theorem rright_ev (p : S28) (hp : (Lit.int .i64 p.f1).wf = true) : Ev (fun k => ddiref43_isPool.f k p.f0.f0.f0 p.f0.f0.f1 p.f0.f0.f2 p.f0.f1 p.f1) (poolB p) := by
  have hw := wf_i64 hp
  unfold ddiref43_isPool.f
  refine Ev.bind (rvalid_pfx p.f0) ?_
  unfold poolB
  cases hv : pvB p.f0 with
  | false => exact Ev_const rfl
  | true =>
    obtain ⟨_, h0, h1⟩ := pv_in hv
    have hl := lenV_le p.f0.f0.f0
    have key : ∀ m : Int, m = lenV p.f0.f0.f0 → (if p.f1 ≥ p.f0.f1 then (if p.f1 ≤ m then some (decide (wrap64 (p.f1 - p.f0.f1) ≤ 32)) else some false) else some false) = some (true && (decide (p.f1 ≥ p.f0.f1) && (decide (p.f1 ≤ lenV p.f0.f0.f0) && decide (p.f1 - p.f0.f1 ≤ 32)))) := fun m hm => by
      subst hm
      by_cases g1 : p.f1 ≥ p.f0.f1
      · by_cases g2 : p.f1 ≤ lenV p.f0.f0.f0
        · rw [if_pos g1, if_pos g2, wrap_id (by omega) (by omega), decide_eq_true g1, decide_eq_true g2]; rfl
        · rw [if_pos g1, if_neg g2, decide_eq_true g1, decide_eq_false g2]; rfl
      · rw [if_neg g1, decide_eq_false g1]; rfl
    simp only [if_true]
    cases hb : p.f0.f0.f0 with
    | true =>
      have := key 128 (by rw [hb]; rfl)
      rw [hb] at this
      simp only [if_true]
      exact Ev_const this
    | false =>
      have := key 32 (by rw [hb]; rfl)
      rw [hb] at this
      simp only [Bool.false_eq_true, if_false]
      exact Ev_const this
def ofB (p : S28) (x : S26) : Bool := decide (x.f1 = p.f1) && pwB x p.f0
theorem belongs_ev (p : S28) (x : S26) : Ev (fun k => delegate_belongs.f k p.f0.f0.f0 p.f0.f0.f1 p.f0.f0.f2 p.f0.f1 p.f1 x.f0.f0 x.f0.f1 x.f0.f2 x.f1) (ofB p x) := by
  unfold delegate_belongs.f ofB
  by_cases h : x.f1 = p.f1
  · simp only [if_pos h, decide_eq_true h, Bool.true_and]
    exact Ev.bind (within_pfx x p.f0) (Ev_const rfl)
  · simp only [if_neg h, decide_eq_false h, Bool.false_and]
    exact Ev_const rfl
theorem rof_ev (p : S28) (x : S26) (ok : uA x.f0) : Ev (fun k => ddiref43_of.f k p.f0.f0.f0 p.f0.f0.f1 p.f0.f0.f2 p.f0.f1 p.f1 x.f0.f0 x.f0.f1 x.f0.f2 x.f1) (ofB p x) := by
  unfold ddiref43_of.f ofB
  refine Ev.bind (rvalid_pfx x) ?_
  cases hv : pvB x with
  | false =>
    have : pwB x p.f0 = false := by unfold pwB; rw [hv]; rfl
    rw [this, Bool.and_false]
    exact Ev_const rfl
  | true =>
    simp only [if_true]
    by_cases h : x.f1 = p.f1
    · simp only [if_pos h, decide_eq_true h, Bool.true_and]
      exact Ev.bind (rwithin_pfx x p.f0 ok) (Ev_const rfl)
    · simp only [if_neg h, decide_eq_false h, Bool.false_and]
      exact Ev_const rfl
def pcmp (x y : S26) : Int := if cmp x.f0 y.f0 = 0 then (if x.f1 < y.f1 then -1 else (if x.f1 > y.f1 then 1 else 0)) else cmp x.f0 y.f0
theorem pcmp_ev (x y : S26) : Ev (fun k => prefix_Compare.f k x.f0.f0 x.f0.f1 x.f0.f2 x.f1 y.f0.f0 y.f0.f1 y.f0.f2 y.f1) (pcmp x y) := by
  unfold prefix_Compare.f pcmp
  refine Ev.bind (ucmp x.f0 y.f0) (Ev_const ?_)
  repeat' split
  all_goals rfl
theorem rpcmp (x y : S26) : ddiref03_Compare.f x.f0.f0 x.f0.f1 x.f0.f2 x.f1 y.f0.f0 y.f0.f1 y.f0.f2 y.f1 = some (pcmp x y) := by
  unfold ddiref03_Compare.f pcmp
  rw [rcmp, Option.bind_some]
  repeat' split
  all_goals rfl
def mineB (c : ByteArray) (h : S61) : Bool := h.f1.toList == c.toList
theorem has_from (q : List S61) (hq : q.length ≤ 140737488351232) (g : S61) : ∀ (r : List S61) (i : Nat), q.drop i = r → ∃ v : Int, Ev (fun k => slices_IndexFunc_37.l0 k q (q.length : Int) (i : Int) g.f0.f0.f0 g.f0.f0.f1 g.f0.f0.f2 g.f0.f1 g.f1 g.f2) v ∧ decide (v ≥ 0) = r.any (mineB g.f1)
  | [], i, h => by
    have := drop_end h
    exact ⟨-1, Ev_shift 1 (f := fun _ => some (-1)) (fun k => by rw [slices_IndexFunc_37.l0, if_neg (by omega)]) (Ev_const rfl), rfl⟩
  | x :: r, i, h => by
    obtain ⟨hi, hx, hr⟩ := rd61 q i x r h
    cases hb : mineB g.f1 x with
    | true =>
      refine ⟨(i : Int), Ev_shift 1 (f := fun _ => some (i : Int)) (fun k => ?_) (Ev_const rfl), by rw [List.any_cons, hb, decide_eq_true (show (i : Int) ≥ 0 by omega)]; rfl⟩
      rw [slices_IndexFunc_37.l0, if_pos (by omega), if_pos (by omega), if_pos (by omega), hx, delegate_Check_1.f, Option.bind_some, if_pos (show (x.f1.toList == g.f1.toList) = true from hb)]
    | false =>
      obtain ⟨v, h1, h2⟩ := has_from q hq g r (i + 1) hr
      refine ⟨v, Ev_shift 1 (fun k => ?_) h1, by rw [List.any_cons, hb, Bool.false_or]; exact h2⟩
      rw [slices_IndexFunc_37.l0, if_pos (by omega), if_pos (by omega), if_pos (by omega), hx, delegate_Check_1.f, Option.bind_some, if_neg (show ¬ (x.f1.toList == g.f1.toList) = true by show ¬ mineB g.f1 x = true; rw [hb]; decide), next i q.length hi (by omega)]
theorem has_ev (q : List S61) (hq : q.length ≤ 140737488351232) (g : S61) : Ev (fun k => slices_ContainsFunc_37.f k q g.f0.f0.f0 g.f0.f0.f1 g.f0.f0.f2 g.f0.f1 g.f1 g.f2) (q.any (mineB g.f1)) := by
  unfold slices_ContainsFunc_37.f slices_IndexFunc_37.f
  obtain ⟨v, h1, h2⟩ := has_from q hq g q 0 rfl
  exact Ev.bind h1 (Ev_const (by rw [h2]))
def timeB (t : Int) : Bool := decide (0 ≤ t) && decide (t ≤ 4294967295)
def upB : Option S26 → S26 → Bool
  | none, _ => true
  | some p, a => decide (pcmp p a < 0)
def chk (p : S28) (q : Option S26) (had : List S61) : List S61 → Int
  | [] => 0
  | g :: r => if ofB p g.f0 = true then (if upB q g.f0 = true then (if (cliB g.f1 && timeB g.f2) = true then (if had.any (mineB g.f1) = true then 12 else chk p (some g.f0) (had ++ [g]) r) else 1) else 7) else 3
theorem chk_from (p : S28) (l : List S61) (hl : l.length ≤ 140737488351232) (ok : ∀ g ∈ l, g.f1.size ≤ 140737488351232) : ∀ (r : List S61) (i : Nat) (q : Option S26), l.drop i = r → (i = 0 → q = none) → (∀ j : Nat, i = j + 1 → q = some (rd_T61 l (j : Int)).f0) → Ev (fun k => delegate_Check.l0 k l l (l.length : Int) (i : Int) p.f0.f0.f0 p.f0.f0.f1 p.f0.f0.f2 p.f0.f1 p.f1) (chk p q (l.take i) r)
  | [], i, q, h, _, _ => by
    have := drop_end h
    exact Ev_shift 1 (f := fun _ => some 0) (fun k => by rw [delegate_Check.l0, if_neg (by omega)]) (Ev_const rfl)
  | g :: r, i, q, h, hq0, hq1 => by
    obtain ⟨hi, hx, hr⟩ := rd61 l i g r h
    have hgi : l[i] = g := (drop_at h).2.1
    have hgl : g ∈ l := List.mem_of_mem_drop (i := i) (by rw [h]; exact List.mem_cons_self ..)
    have ih := chk_from p l hl ok r (i + 1) (some g.f0) hr (fun e => by omega) (fun j e => by
      have : j = i := by omega
      rw [this, hx])
    rw [List.take_succ_eq_append_getElem hi, hgi, ← next i l.length hi (by omega)] at ih
    have h2 : ∀ b : Bool, Ev (fun k => delegate_Check.j2 k l (i : Int) l (l.length : Int) (i : Int) b p.f0.f0.f0 p.f0.f0.f1 p.f0.f0.f2 p.f0.f1 p.f1 g.f0.f0.f0 g.f0.f0.f1 g.f0.f0.f2 g.f0.f1 g.f1 g.f2) (if b = true then 1 else (if (l.take i).any (mineB g.f1) = true then 12 else chk p (some g.f0) (l.take i ++ [g]) r)) := fun b => by
      cases b with
      | true => exact Ev_shift 1 (f := fun _ => some 1) (fun k => by rw [delegate_Check.j2, if_pos rfl]) (Ev_const rfl)
      | false =>
        refine Ev_shift 1 (fun k => by rw [delegate_Check.j2, if_neg Bool.false_ne_true, if_pos (by omega), if_pos (by omega), Int.toNat_natCast]) ?_
        refine Ev.bind (has_ev (l.take i) (by rw [List.length_take]; omega) g) ?_
        cases (l.take i).any (mineB g.f1) with
        | true => exact Ev_const rfl
        | false => exact ih
    have h1 : ∀ b : Bool, b = !upB q g.f0 → Ev (fun k => delegate_Check.j1 k l (i : Int) l (l.length : Int) (i : Int) b p.f0.f0.f0 p.f0.f0.f1 p.f0.f0.f2 p.f0.f1 p.f1 g.f0.f0.f0 g.f0.f0.f1 g.f0.f0.f2 g.f0.f1 g.f1 g.f2) (if upB q g.f0 = true then (if (cliB g.f1 && timeB g.f2) = true then (if (l.take i).any (mineB g.f1) = true then 12 else chk p (some g.f0) (l.take i ++ [g]) r) else 1) else 7) := by
      rintro b rfl
      cases upB q g.f0 with
      | false => exact Ev_shift 1 (f := fun _ => some 7) (fun k => by rw [delegate_Check.j1, Bool.not_false, if_pos rfl]) (Ev_const rfl)
      | true =>
        refine Ev_shift 1 (fun k => by rw [delegate_Check.j1, Bool.not_true, if_neg Bool.false_ne_true]) ?_
        refine Ev.bind (named_ev g.f1 (ok g hgl)) ?_
        simp only [if_true]
        cases cliB g.f1 with
        | false => exact h2 true
        | true =>
          simp only [if_true, Bool.true_and]
          unfold timeB
          by_cases g0 : g.f2 < 0
          · simp only [if_pos g0, decide_eq_false (show ¬ 0 ≤ g.f2 by omega), Bool.false_and]
            exact h2 true
          · simp only [if_neg g0, decide_eq_true (show 0 ≤ g.f2 by omega), Bool.true_and]
            by_cases g1 : g.f2 ≤ 4294967295
            · have := h2 (decide (g.f2 > 4294967295))
              simp only [decide_eq_false (show ¬ g.f2 > 4294967295 by omega), decide_eq_true g1, if_true] at this ⊢
              exact this
            · have := h2 (decide (g.f2 > 4294967295))
              simp only [decide_eq_true (show g.f2 > 4294967295 by omega), decide_eq_false g1, if_true] at this ⊢
              exact this
    unfold chk
    have hcx : ∀ b : Bool, Ev (fun k => delegate_belongs.f k p.f0.f0.f0 p.f0.f0.f1 p.f0.f0.f2 p.f0.f1 p.f1 g.f0.f0.f0 g.f0.f0.f1 g.f0.f0.f2 g.f0.f1) (ofB p g.f0) := fun _ => belongs_ev p g.f0
    cases i with
    | zero =>
      have h3 := h1 false (by rw [hq0 rfl]; rfl)
      refine Ev_shift 1 (fun k => by rw [delegate_Check.l0, if_pos (by omega), if_pos (by omega), if_pos (by omega), hx]) ?_
      refine Ev.bind (belongs_ev p g.f0) ?_
      cases ofB p g.f0 with
      | false => exact Ev_const rfl
      | true =>
        simp only [if_true, if_neg (show ¬ ((0 : Nat) : Int) > 0 by omega)]
        exact h3
    | succ j =>
      have hpj := hq1 j rfl
      have hj : (wrap64 (((j + 1 : Nat) : Int) - 1)) = (j : Int) := by rw [wrap_id (by omega) (by omega)]; omega
      have e0 : (0 : Int) ≤ (j : Int) := by omega
      have e1 : (j : Int) < (l.length : Int) := by omega
      have e2 : ((j + 1 : Nat) : Int) > 0 := by omega
      refine Ev_shift 1 (fun k => by rw [delegate_Check.l0, if_pos (by omega), if_pos (by omega), if_pos (by omega), hx]) ?_
      refine Ev.bind (belongs_ev p g.f0) ?_
      cases ofB p g.f0 with
      | false => exact Ev_const rfl
      | true =>
        simp only [if_true, if_pos e2, hj, if_pos e0, if_pos e1]
        refine Ev.bind (pcmp_ev (rd_T61 l (j : Int)).f0 g.f0) ?_
        refine h1 _ ?_
        rw [hpj]
        unfold upB
        rw [Bool.eq_iff_iff]
        simp
theorem rl1_from (p : S28) (l : List S61) (hl : l.length ≤ 140737488351232) (i : Nat) (hi : i < l.length) (g : S61) (R : Int) (hR : Ev (fun k => ddiref43_Check.l0 k (l.map cv) (wrap64 ((i : Int) + 1)) p.f0.f0.f0 p.f0.f0.f1 p.f0.f0.f2 p.f0.f1 p.f1) R) : ∀ (d j : Nat), i - j ≤ d → j ≤ i → Ev (fun k => ddiref43_Check.l1 k (l.map cv) (i : Int) (j : Int) p.f0.f0.f0 p.f0.f0.f1 p.f0.f0.f2 p.f0.f1 p.f1 g.f0.f0.f0 g.f0.f0.f1 g.f0.f0.f2 g.f0.f1 g.f1 g.f2) (if ((l.take i).drop j).any (mineB g.f1) = true then 12 else R)
  | d, j, hd, hj => by
    by_cases h : j < i
    · have hjl : j < (l.take i).length := by rw [List.length_take]; omega
      have e : (l.take i).drop j = (l.take i)[j] :: (l.take i).drop (j + 1) := List.drop_eq_getElem_cons hjl
      have e2 : (l.take i)[j] = l[j] := List.getElem_take
      cases d with
      | zero => exact absurd hd (by omega)
      | succ d =>
        have ih := rl1_from p l hl i hi g R hR d (j + 1) (by omega) (by omega)
        rw [e, e2, List.any_cons]
        by_cases hc : l[j].f1.toList = g.f1.toList
        · have hb : mineB g.f1 l[j] = true := by unfold mineB; rw [hc]; exact beq_self_eq_true _
          rw [hb, Bool.true_or, if_pos rfl]
          exact Ev_shift 1 (f := fun _ => some 12) (fun k => by rw [ddiref43_Check.l1, if_pos (by omega), if_pos (by omega), len_cv, if_pos (by omega), rdAt70 l j (by omega), if_pos (show (cv l[j]).f1.toList = g.f1.toList from hc)]) (Ev_const rfl)
        · have hb : mineB g.f1 l[j] = false := beq_eq_false_iff_ne.2 hc
          rw [hb, Bool.false_or]
          exact Ev_shift 1 (fun k => by rw [ddiref43_Check.l1, if_pos (by omega), if_pos (by omega), len_cv, if_pos (by omega), rdAt70 l j (by omega), if_neg (show ¬ (cv l[j]).f1.toList = g.f1.toList from hc), next j l.length (by omega) (by omega)]) ih
    · rw [List.drop_eq_nil_of_le (by rw [List.length_take]; omega)]
      exact Ev_shift 1 (fun k => by rw [ddiref43_Check.l1, if_neg (by omega)]) hR
theorem rchk_from (p : S28) (l : List S61) (hl : l.length ≤ 140737488351232) (ok : ∀ g ∈ l, g.f1.size ≤ 140737488351232) (okA : ∀ g ∈ l, uA g.f0.f0) : ∀ (r : List S61) (i : Nat) (q : Option S26), l.drop i = r → (i = 0 → q = none) → (∀ j : Nat, i = j + 1 → q = some (rd_T61 l (j : Int)).f0) → Ev (fun k => ddiref43_Check.l0 k (l.map cv) (i : Int) p.f0.f0.f0 p.f0.f0.f1 p.f0.f0.f2 p.f0.f1 p.f1) (chk p q (l.take i) r)
  | [], i, q, h, _, _ => by
    have := drop_end h
    exact Ev_shift 1 (f := fun _ => some 0) (fun k => by rw [ddiref43_Check.l0, len_cv, if_neg (by omega)]) (Ev_const rfl)
  | g :: r, i, q, h, hq0, hq1 => by
    obtain ⟨hi, hx0, hr⟩ := rd61 l i g r h
    have hx := rd70 l i g r h
    have hgi : l[i] = g := (drop_at h).2.1
    have hgl : g ∈ l := List.mem_of_mem_drop (i := i) (by rw [h]; exact List.mem_cons_self ..)
    have ih := rchk_from p l hl ok okA r (i + 1) (some g.f0) hr (fun e => by omega) (fun j e => by
      have : j = i := by omega
      rw [this, hx0])
    rw [List.take_succ_eq_append_getElem hi, hgi, ← next i l.length hi (by omega)] at ih
    have h2 : ∀ b : Bool, Ev (fun k => ddiref43_Check.j2 k (l.map cv) (i : Int) b p.f0.f0.f0 p.f0.f0.f1 p.f0.f0.f2 p.f0.f1 p.f1 g.f0.f0.f0 g.f0.f0.f1 g.f0.f0.f2 g.f0.f1 g.f1 g.f2) (if b = true then 1 else (if (l.take i).any (mineB g.f1) = true then 12 else chk p (some g.f0) (l.take i ++ [g]) r)) := fun b => by
      cases b with
      | true => exact Ev_shift 1 (f := fun _ => some 1) (fun k => by rw [ddiref43_Check.j2, if_pos rfl]) (Ev_const rfl)
      | false =>
        refine Ev_shift 1 (fun k => by rw [ddiref43_Check.j2, if_neg Bool.false_ne_true]) ?_
        exact rl1_from p l hl i hi g _ ih i 0 (by omega) (by omega)
    have h1 : ∀ b : Bool, b = !upB q g.f0 → Ev (fun k => ddiref43_Check.j1 k (l.map cv) (i : Int) b p.f0.f0.f0 p.f0.f0.f1 p.f0.f0.f2 p.f0.f1 p.f1 g.f0.f0.f0 g.f0.f0.f1 g.f0.f0.f2 g.f0.f1 g.f1 g.f2) (if upB q g.f0 = true then (if (cliB g.f1 && timeB g.f2) = true then (if (l.take i).any (mineB g.f1) = true then 12 else chk p (some g.f0) (l.take i ++ [g]) r) else 1) else 7) := by
      rintro b rfl
      cases upB q g.f0 with
      | false => exact Ev_shift 1 (f := fun _ => some 7) (fun k => by rw [ddiref43_Check.j1, Bool.not_false, if_pos rfl]) (Ev_const rfl)
      | true =>
        refine Ev_shift 1 (fun k => by rw [ddiref43_Check.j1, Bool.not_true, if_neg Bool.false_ne_true]) ?_
        refine Ev.bind (rnamed_ev g.f1 (ok g hgl)) ?_
        simp only [if_true]
        cases cliB g.f1 with
        | false => exact h2 true
        | true =>
          simp only [if_true, Bool.true_and]
          unfold timeB
          by_cases g0 : g.f2 < 0
          · simp only [if_pos g0, decide_eq_false (show ¬ 0 ≤ g.f2 by omega), Bool.false_and]
            exact h2 true
          · simp only [if_neg g0, decide_eq_true (show 0 ≤ g.f2 by omega), Bool.true_and]
            by_cases g1 : g.f2 ≤ 4294967295
            · have := h2 (decide (g.f2 > 4294967295))
              simp only [decide_eq_false (show ¬ g.f2 > 4294967295 by omega), decide_eq_true g1, if_true] at this ⊢
              exact this
            · have := h2 (decide (g.f2 > 4294967295))
              simp only [decide_eq_true (show g.f2 > 4294967295 by omega), decide_eq_false g1, if_true] at this ⊢
              exact this
    unfold chk
    cases i with
    | zero =>
      have h3 := h1 false (by rw [hq0 rfl]; rfl)
      refine Ev_shift 1 (fun k => by rw [ddiref43_Check.l0, len_cv, if_pos (by omega), if_pos (by omega), hx]) ?_
      refine Ev.bind (rof_ev p g.f0 (okA g hgl)) ?_
      cases ofB p g.f0 with
      | false => exact Ev_const rfl
      | true =>
        simp only [if_true, if_neg (show ¬ ((0 : Nat) : Int) > 0 by omega)]
        exact h3
    | succ j =>
      have hpj := hq1 j rfl
      have hj : (wrap64 (((j + 1 : Nat) : Int) - 1)) = (j : Int) := by rw [wrap_id (by omega) (by omega)]; omega
      have e0 : (0 : Int) ≤ (j : Int) := by omega
      have e1 : (j : Int) < (l.length : Int) := by omega
      have e2 : ((j + 1 : Nat) : Int) > 0 := by omega
      have hjl : j < l.length := by omega
      refine Ev_shift 1 (fun k => by rw [ddiref43_Check.l0, len_cv, if_pos (by omega), if_pos (by omega), hx]) ?_
      refine Ev.bind (rof_ev p g.f0 (okA g hgl)) ?_
      cases ofB p g.f0 with
      | false => exact Ev_const rfl
      | true =>
        simp only [if_true, if_pos e2, hj, if_pos e0, if_pos e1, rdAt70 l j hjl]
        have hc : ddiref03_Compare.f (cv l[j]).f0.f0.f0 (cv l[j]).f0.f0.f1 (cv l[j]).f0.f0.f2 (cv l[j]).f0.f1 (cv g).f0.f0.f0 (cv g).f0.f0.f1 (cv g).f0.f0.f2 (cv g).f0.f1 = some (pcmp l[j].f0 g.f0) := rpcmp l[j].f0 g.f0
        rw [hc]
        simp only [Option.bind_some]
        refine h1 _ ?_
        rw [hpj, rdAt l j hjl]
        unfold upB
        rw [Bool.eq_iff_iff]
        simp
/-- The check of a pool and its grants. -/
def chkT (p : S28) (l : List S61) : Int := if poolB p = true then (if l.length > 512 then 9 else chk p none [] l) else 3
theorem check_ev (p : S28) (hp : (Lit.int .i64 p.f1).wf = true) (l : List S61) (hl : l.length ≤ 140737488351232) (ok : ∀ g ∈ l, g.f1.size ≤ 140737488351232) : Ev (fun k => delegate_Check.f k p.f0.f0.f0 p.f0.f0.f1 p.f0.f0.f2 p.f0.f1 p.f1 l) (chkT p l) := by
  unfold delegate_Check.f chkT
  refine Ev.bind (right_ev p hp) ?_
  cases poolB p with
  | false => exact Ev_const rfl
  | true =>
    simp only [if_true]
    by_cases h : l.length > 512
    · simp only [if_pos h, if_pos (show (l.length : Int) > 512 by omega)]
      exact Ev_const rfl
    · simp only [if_neg h, if_neg (show ¬ (l.length : Int) > 512 by omega)]
      exact chk_from p l hl ok l 0 none rfl (fun _ => rfl) (fun j e => by omega)
theorem rcheck_ev (p : S28) (hp : (Lit.int .i64 p.f1).wf = true) (l : List S61) (hl : l.length ≤ 140737488351232) (ok : ∀ g ∈ l, g.f1.size ≤ 140737488351232) (okA : ∀ g ∈ l, uA g.f0.f0) : Ev (fun k => ddiref43_Check.f k p.f0.f0.f0 p.f0.f0.f1 p.f0.f0.f2 p.f0.f1 p.f1 (l.map cv)) (chkT p l) := by
  unfold ddiref43_Check.f chkT
  refine Ev.bind (rright_ev p hp) ?_
  cases poolB p with
  | false => exact Ev_const rfl
  | true =>
    simp only [if_true, len_cv]
    by_cases h : l.length > 512
    · simp only [if_pos h, if_pos (show (l.length : Int) > 512 by omega)]
      exact Ev_const rfl
    · simp only [if_neg h, if_neg (show ¬ (l.length : Int) > 512 by omega)]
      exact rchk_from p l hl ok okA l 0 none rfl (fun _ => rfl) (fun j e => by omega)
end Go.Proofs.Ythjngcjhjnigjaa.Ma
