/- What is compared with itself is the same; a probe put into a table in order, taken out of it, and a table parted by time: the program's and the reference's. -/
import Derived.Test.YtioopjondjfchaaQAd1
import Derived.Test.YtioopjondjfchaaQAd
import Derived.Test.YtioopjondjfchaaQAd3
import Derived.Test.YtioopjondjfchaaQAd2
import Derived.Test.YtioopjondjfchaaMb
namespace Go.Proofs.Ytioopjondjfchaa.Ma
open Go.RowKit Go.Proofs.YtioopjondjfchaaW.PrintWords Go.Proofs.YtioopjondjfchaaW.PrintLast Go.Proofs.YtioopjondjfchaaW.PrintMore Go.Proofs.Ytioopjondjfchaa.XP Go.Proofs.Ytioopjondjfchaa.QA Go.Proofs.Ytioopjondjfchaa.Cm
set_option linter.unusedVariables false
set_option linter.unusedSimpArgs false
/-- Of a size that a machine has. -/
def fit (x : S33) : Prop := x.f2.f8.length ≤ 140737488351232
theorem pk_from (a : S31) (hl : a.f8.length ≤ 140737488351232) : ∀ (d i : Nat), a.f8.length - i ≤ d → i ≤ a.f8.length → Ev (fun k => ddilaw40_packets.l0 k (i : Int) a.f0 a.f1 a.f2 a.f3 a.f4.f0 a.f4.f1 a.f4.f2 a.f5.f0 a.f5.f1 a.f5.f2 a.f6.f0 a.f6.f1 a.f6.f2 a.f7 a.f8 a.f0 a.f1 a.f2 a.f3 a.f4.f0 a.f4.f1 a.f4.f2 a.f5.f0 a.f5.f1 a.f5.f2 a.f6.f0 a.f6.f1 a.f6.f2 a.f7 a.f8) true
  | d, i, hd, hi => by
    by_cases h : i < a.f8.length
    · cases d with
      | zero => exact absurd hd (by omega)
      | succ d =>
        have ih := pk_from a hl d (i + 1) (by omega) h
        refine Ev_shift 1 (fun k => ?_) ih
        rw [ddilaw40_packets.l0, if_pos (by omega), if_pos (by omega), if_pos (by omega), if_neg (by simp), next i a.f8.length h (by omega)]
    · exact Ev_shift 1 (f := fun _ => some true) (fun k => by rw [ddilaw40_packets.l0, if_neg (by omega)]) (Ev_const rfl)
theorem pk_ev (a : S31) (hl : a.f8.length ≤ 140737488351232) : Ev (fun k => ddilaw40_packets.f k a.f0 a.f1 a.f2 a.f3 a.f4.f0 a.f4.f1 a.f4.f2 a.f5.f0 a.f5.f1 a.f5.f2 a.f6.f0 a.f6.f1 a.f6.f2 a.f7 a.f8 a.f0 a.f1 a.f2 a.f3 a.f4.f0 a.f4.f1 a.f4.f2 a.f5.f0 a.f5.f1 a.f5.f2 a.f6.f0 a.f6.f1 a.f6.f2 a.f7 a.f8) true := by
  unfold ddilaw40_packets.f
  simp only [if_true, beq_self_eq_true, Bool.not_true, Bool.or_self, Bool.false_eq_true, if_false, bne_self_eq_false]
  exact Ev_shift 1 (fun k => by rw [ddilaw40_packets.j0, if_neg Bool.false_ne_true]; rfl) (pk_from a hl a.f8.length 0 (by omega) (by omega))
theorem same_ev (x : S33) (hl : fit x) : Ev (fun k => ddilaw40_same.f k x.f0.f0 x.f0.f1 x.f0.f2 x.f1 x.f2.f0 x.f2.f1 x.f2.f2 x.f2.f3 x.f2.f4.f0 x.f2.f4.f1 x.f2.f4.f2 x.f2.f5.f0 x.f2.f5.f1 x.f2.f5.f2 x.f2.f6.f0 x.f2.f6.f1 x.f2.f6.f2 x.f2.f7 x.f2.f8 x.f3 x.f0.f0 x.f0.f1 x.f0.f2 x.f1 x.f2.f0 x.f2.f1 x.f2.f2 x.f2.f3 x.f2.f4.f0 x.f2.f4.f1 x.f2.f4.f2 x.f2.f5.f0 x.f2.f5.f1 x.f2.f5.f2 x.f2.f6.f0 x.f2.f6.f1 x.f2.f6.f2 x.f2.f7 x.f2.f8 x.f3) true := by
  unfold ddilaw40_same.f
  simp only [if_true, beq_self_eq_true, Bool.and_self]
  exact Ev.bind (pk_ev x.f2 hl) (Ev_const rfl)
theorem tab_from (l : List S33) (hl : l.length ≤ 140737488351232) (ok : ∀ x ∈ l, fit x) : ∀ (r : List S33) (i : Nat), l.drop i = r → Ev (fun k => ddilaw40_tables.l0 k l (l.map cv) (i : Int)) true
  | [], i, h => by
    have := drop_end h
    exact Ev_shift 1 (f := fun _ => some true) (fun k => by rw [ddilaw40_tables.l0, if_neg (by omega)]) (Ev_const rfl)
  | x :: r, i, h => by
    obtain ⟨hi, hx, hr⟩ := rd33 l i x r h
    obtain ⟨_, hx5, _⟩ := rd54 l i x r h
    have hxl : x ∈ l := List.mem_of_mem_drop (i := i) (by rw [h]; exact List.mem_cons_self ..)
    have ih := tab_from l hl ok r (i + 1) hr
    have hlm : ((l.map cv).length : Int) = (l.length : Int) := by rw [List.length_map]
    refine Ev_shift 1 (fun k => by rw [ddilaw40_tables.l0, hlm, if_pos (by omega), if_pos (by omega), if_pos (by omega), hx, hx5, next i l.length hi (by omega)]) ?_
    refine Ev.bind (a := true) (same_ev x (ok x hxl)) ?_
    simp only [if_true]
    exact ih
theorem tab_ev (l : List S33) (hl : l.length ≤ 140737488351232) (ok : ∀ x ∈ l, fit x) : Ev (fun k => ddilaw40_tables.f k l (l.map cv)) true := by
  unfold ddilaw40_tables.f
  have hlm : ((l.map cv).length : Int) = (l.length : Int) := by rw [List.length_map]
  simp only [hlm, if_true]
  exact tab_from l hl ok l 0 rfl
/-! ### Start -/
def ins (x : S33) : List S33 → List S33
  | [] => [x]
  | y :: r => if cmp y.f0 x.f0 < 0 then y :: ins x r else x :: y :: r
theorem ins_eq (x : S33) : ∀ l : List S33, ins x l = l.take (pos x.f0 l) ++ [x] ++ l.drop (pos x.f0 l)
  | [] => rfl
  | y :: r => by
    unfold ins pos
    split
    · rw [ins_eq x r]; rfl
    · rfl
theorem ins_len (x : S33) (l : List S33) : (ins x l).length = l.length + 1 := by
  have := pos_le x.f0 l
  rw [ins_eq, List.length_append, List.length_append, List.length_take, List.length_drop]
  simp
  omega
theorem mem_ins (x y : S33) : ∀ l : List S33, y ∈ ins x l → y = x ∨ y ∈ l
  | [], h => .inl (by simpa [ins] using h)
  | z :: r, h => by
    unfold ins at h
    split at h
    · rcases List.mem_cons.1 h with rfl | h
      · exact .inr (List.mem_cons_self ..)
      · rcases mem_ins x y r h with h | h
        · exact .inl h
        · exact .inr (List.mem_cons_of_mem _ h)
    · rcases List.mem_cons.1 h with rfl | h
      · exact .inl rfl
      · exact .inr h
theorem srt_ins (x : S33) : ∀ l : List S33, Srt l → get x.f0 l = none → Srt (ins x l)
  | [], _, _ => by unfold ins; exact List.pairwise_singleton _ _
  | y :: r, hs, hg => by
    obtain ⟨h1, h2⟩ := List.pairwise_cons.1 hs
    have hy : ea y.f0 x.f0 = false := by
      unfold get at hg
      have := List.find?_eq_none.1 hg y (List.mem_cons_self ..)
      simpa using this
    have hgr : get x.f0 r = none := by
      unfold get at hg ⊢
      rw [List.find?_cons, hy] at hg
      exact hg
    unfold ins
    split
    · rename_i hc
      refine List.pairwise_cons.2 ⟨fun z hz => ?_, srt_ins x r h2 hgr⟩
      rcases mem_ins x z r hz with rfl | hz
      · exact hc
      · exact h1 z hz
    · rename_i hc
      have hxy : cmp x.f0 y.f0 < 0 := by
        have h0 : ¬ cmp y.f0 x.f0 = 0 := fun h => (ea_ne _ _).1 hy ((cmp_zero _ _).1 h)
        have := cmp_flip y.f0 x.f0
        omega
      refine List.pairwise_cons.2 ⟨fun z hz => ?_, hs⟩
      rcases List.mem_cons.1 hz with rfl | hz
      · exact hxy
      · exact cmp_trans hxy (h1 z hz)
def unt (n w : Int) : Int := if w > wrap64 (4294967295 - n) then 4294967295 else wrap64 (n + w)
def mk (a : S28) (p : S31) (n w : Int) : S33 := ⟨a, p.f3, p, unt n w⟩
def staT (l : List S33) (a : S28) (p : S31) (n w : Int) : List S33 × Int :=
  if adB a = true then (if (get a l).isSome = true then ([], 23) else (if (decide (n < 0) || (decide (n > 4294967295) || decide (w < 0))) = true then ([], 1) else (if 512 ≤ l.length then ([], 9) else (ins (mk a p n w) l, 0)))) else ([], 3)
theorem sta0_ev (l : List S33) (hl : l.length ≤ 512) (a : S28) (p : S31) (hp : p.f8.length * 24 ≤ 140737488351232) (n w : Int) (b : Bool) : Ev (fun k => probe_Start.j0 k l n w (pos a l : Int) b a.f0 a.f1 a.f2 p.f0 p.f1 p.f2 p.f3 p.f4.f0 p.f4.f1 p.f4.f2 p.f5.f0 p.f5.f1 p.f5.f2 p.f6.f0 p.f6.f1 p.f6.f2 p.f7 p.f8) (if b = true then ([], 1) else (if 512 ≤ l.length then ([], 9) else (ins (mk a p n w) l, 0))) := by
  cases b with
  | true => exact Ev_shift 1 (f := fun _ => some ([], 1)) (fun k => by rw [probe_Start.j0, if_pos rfl]) (Ev_const rfl)
  | false =>
    simp only [Bool.false_eq_true, if_false]
    have hpl := pos_le a l
    by_cases h : 512 ≤ l.length
    · rw [if_pos h]
      exact Ev_shift 1 (f := fun _ => some ([], 9)) (fun k => by rw [probe_Start.j0, if_neg Bool.false_ne_true, if_pos (by omega)]) (Ev_const rfl)
    · rw [if_neg h]
      refine Ev_shift 1 (f := fun _ => some (ins (mk a p n w) l, 0)) (fun k => ?_) (Ev_const rfl)
      have hu : probe_until.f n w = some (unt n w) := by
        unfold probe_until.f unt
        split <;> rfl
      rw [probe_Start.j0, if_neg Bool.false_ne_true, if_neg (by omega), slices_Clone_27.f, if_pos (by omega), Option.bind_some, slices_Clone_29.f, if_pos (by omega), Option.bind_some, hu, Option.bind_some, slices_Insert.f, if_pos (by omega), if_pos (by omega), if_pos (by simp; omega), Int.toNat_natCast, Option.bind_some, ins_eq]
      rfl
theorem start_ev (l : List S33) (hl : l.length ≤ 512) (hs : Srt l) (a : S28) (p : S31) (hp : p.f8.length * 24 ≤ 140737488351232) (n w : Int) : Ev (fun k => probe_Start.f k l a.f0 a.f1 a.f2 p.f0 p.f1 p.f2 p.f3 p.f4.f0 p.f4.f1 p.f4.f2 p.f5.f0 p.f5.f1 p.f5.f2 p.f6.f0 p.f6.f1 p.f6.f2 p.f7 p.f8 n w) (staT l a p n w) := by
  unfold probe_Start.f staT
  refine Ev.bind (place_ev l (by omega) hs a) ?_
  simp only [ad_v, Option.bind_some]
  cases adB a with
  | false => exact Ev_const rfl
  | true =>
    simp only [if_true]
    cases (get a l).isSome with
    | true => exact Ev_const rfl
    | false =>
      simp only [Bool.false_eq_true, if_false]
      have h0 := sta0_ev l hl a p hp n w
      by_cases h1 : n < 0
      · simp only [if_pos h1, decide_eq_true h1, Bool.true_or, if_true]
        exact h0 true
      · simp only [if_neg h1, decide_eq_false h1, Bool.false_or]
        by_cases h2 : n > 4294967295
        · simp only [if_pos h2, decide_eq_true h2, Bool.true_or, if_true]
          exact h0 true
        · simp only [if_neg h2, decide_eq_false h2, Bool.false_or]
          exact h0 (decide (w < 0))
theorem rdone_from (l : List S33) (hl : l.length ≤ 512) (a : S28) (x : S33) : ∀ (r : List S33) (i : Nat) (out : List S33), l.drop i = r → out.length ≤ i + 1 → Ev (fun k => ddiref40_Start.l0 k (l.map cv) (out.map cv) true (i : Int) a.f0 a.f1 a.f2 x.f0.f0 x.f0.f1 x.f0.f2 x.f1 x.f2.f0 x.f2.f1 x.f2.f2 x.f2.f3 x.f2.f4.f0 x.f2.f4.f1 x.f2.f4.f2 x.f2.f5.f0 x.f2.f5.f1 x.f2.f5.f2 x.f2.f6.f0 x.f2.f6.f1 x.f2.f6.f2 x.f2.f7 x.f2.f8 x.f3) ((out ++ r).map cv, 0)
  | [], i, out, h, ho => by
    have := drop_end h
    refine Ev_shift 1 (f := fun _ => some ((out ++ []).map cv, 0)) (fun k => ?_) (Ev_const rfl)
    rw [ddiref40_Start.l0, if_neg (by rw [List.length_map]; omega), if_pos rfl, List.append_nil]
  | y :: r, i, out, h, ho => by
    obtain ⟨hi, hx, hr⟩ := rd54 l i y r h
    have hlm : ((l.map cv).length : Int) = (l.length : Int) := by rw [List.length_map]
    have hi' : i < l.length := by rw [List.length_map] at hi; exact hi
    have ih := rdone_from l hl a x r (i + 1) (out ++ [y]) hr (by rw [List.length_append]; simp; omega)
    rw [show out ++ y :: r = (out ++ [y]) ++ r by simp]
    refine Ev_shift 2 (fun k => ?_) ih
    rw [ddiref40_Start.l0, hlm, if_pos (by omega), if_pos rfl, ddiref40_Start.j3, if_neg Bool.false_ne_true, hlm, if_pos (by omega), if_pos (by omega), if_pos (by rw [List.length_map]; omega), hx, next i l.length hi' (by omega), List.map_append]
    rfl
theorem rins_from (l : List S33) (hl : l.length ≤ 512) (x : S33) (hg : get x.f0 l = none) : ∀ (r : List S33) (i : Nat), l.drop i = r → Ev (fun k => ddiref40_Start.l0 k (l.map cv) ((l.take i).map cv) false (i : Int) x.f0.f0 x.f0.f1 x.f0.f2 x.f0.f0 x.f0.f1 x.f0.f2 x.f1 x.f2.f0 x.f2.f1 x.f2.f2 x.f2.f3 x.f2.f4.f0 x.f2.f4.f1 x.f2.f4.f2 x.f2.f5.f0 x.f2.f5.f1 x.f2.f5.f2 x.f2.f6.f0 x.f2.f6.f1 x.f2.f6.f2 x.f2.f7 x.f2.f8 x.f3) ((l.take i ++ ins x r).map cv, 0)
  | [], i, h => by
    have := drop_end h
    refine Ev_shift 1 (f := fun _ => some ((l.take i ++ ins x []).map cv, 0)) (fun k => ?_) (Ev_const rfl)
    rw [ddiref40_Start.l0, if_neg (by rw [List.length_map]; omega), if_neg Bool.false_ne_true, if_pos (by rw [List.length_map, List.length_take]; omega), List.map_append]
    rfl
  | y :: r, i, h => by
    obtain ⟨hi, hx, hr⟩ := rd54 l i y r h
    have hlm : ((l.map cv).length : Int) = (l.length : Int) := by rw [List.length_map]
    have hi' : i < l.length := by rw [List.length_map] at hi; exact hi
    have hyi : l[i] = y := (drop_at h).2.1
    have hy : ea y.f0 x.f0 = false := by
      unfold get at hg
      have := List.find?_eq_none.1 hg y (List.mem_of_mem_drop (i := i) (by rw [h]; exact List.mem_cons_self ..))
      simpa using this
    have h0 : ¬ cmp y.f0 x.f0 = 0 := fun h => (ea_ne _ _).1 hy ((cmp_zero _ _).1 h)
    have hf := cmp_flip y.f0 x.f0
    have htk : ((l.take i).map cv).length < 733007751850 := by rw [List.length_map, List.length_take]; omega
    unfold ins
    by_cases hc : cmp y.f0 x.f0 < 0
    · rw [if_pos hc]
      have ih := rins_from l hl x hg r (i + 1) hr
      rw [List.take_succ_eq_append_getElem hi', hyi] at ih
      rw [show l.take i ++ y :: ins x r = (l.take i ++ [y]) ++ ins x r by simp]
      refine Ev_shift 2 (fun k => ?_) ih
      rw [ddiref40_Start.l0, hlm, if_pos (by omega), if_neg Bool.false_ne_true, if_pos (by omega), hx, show (cv y).f0 = y.f0 from rfl, rcmp, Option.bind_some, decide_eq_false (show ¬ cmp x.f0 y.f0 < 0 by omega), ddiref40_Start.j3, if_neg Bool.false_ne_true, hlm, if_pos (by omega), if_pos (by omega), if_pos htk, hx, next i l.length hi' (by omega), List.map_append]
      rfl
    · rw [if_neg hc]
      have ih := rdone_from l hl x.f0 x r (i + 1) (l.take i ++ [x] ++ [y]) hr (by simp; omega)
      rw [show l.take i ++ x :: y :: r = (l.take i ++ [x] ++ [y]) ++ r by simp]
      refine Ev_shift 2 (fun k => ?_) ih
      rw [ddiref40_Start.l0, hlm, if_pos (by omega), if_neg Bool.false_ne_true, if_pos (by omega), hx, show (cv y).f0 = y.f0 from rfl, rcmp, Option.bind_some, decide_eq_true (show cmp x.f0 y.f0 < 0 by omega), ddiref40_Start.j3, if_pos rfl, if_pos htk, Option.bind_some, hlm, if_pos (by omega), if_pos (by omega), if_pos (by rw [List.length_append, List.length_map, List.length_take, List.length_singleton]; omega), hx, next i l.length hi' (by omega), List.map_append, List.map_append]
      rfl
theorem tup_some (o : Option S33) : (tup o).2.2.2.2.2.2.2.2.2.2.2.2.2.2.2.2.2.2.2.2 = o.isSome := by cases o <;> rfl
theorem rsta0_ev (l : List S33) (hl : l.length ≤ 512) (a : S28) (hg : get a l = none) (p : S31) (n w : Int) (h1 : 0 ≤ n) (h2 : n ≤ 4294967295) (b : Bool) (hb : b = decide (w < 0)) : Ev (fun k => ddiref40_Start.j0 k (l.map cv) n w b a.f0 a.f1 a.f2 p.f0 p.f1 p.f2 p.f3 p.f4.f0 p.f4.f1 p.f4.f2 p.f5.f0 p.f5.f1 p.f5.f2 p.f6.f0 p.f6.f1 p.f6.f2 p.f7 p.f8) (if b = true then ([], 1) else (if 512 ≤ l.length then ([], 9) else ((ins (mk a p n w) l).map cv, 0))) := by
  cases b with
  | true => exact Ev_shift 1 (f := fun _ => some ([], 1)) (fun k => by rw [ddiref40_Start.j0, if_pos rfl]) (Ev_const rfl)
  | false =>
    have hw : ¬ w < 0 := of_decide_eq_false hb.symm
    simp only [Bool.false_eq_true, if_false]
    have hlm : ((l.map cv).length : Int) = (l.length : Int) := by rw [List.length_map]
    by_cases h : 512 ≤ l.length
    · rw [if_pos h]
      exact Ev_shift 1 (f := fun _ => some ([], 9)) (fun k => by rw [ddiref40_Start.j0, if_neg Bool.false_ne_true, hlm, if_pos (by omega)]) (Ev_const rfl)
    · rw [if_neg h]
      have hi := rins_from l hl (mk a p n w) hg l 0 rfl
      have hwr : wrap64 (4294967295 - n) = 4294967295 - n := wrap_id (by omega) (by omega)
      by_cases hc : w < 4294967295 - n
      · have hu : wrap64 (n + w) = unt n w := by unfold unt; rw [hwr, if_neg (by omega)]
        refine Ev_shift 2 (fun k => ?_) hi
        rw [ddiref40_Start.j0, if_neg Bool.false_ne_true, hlm, if_neg (by omega), hwr, if_pos hc, ddiref40_Start.j1, hu]
        rfl
      · have hu : (4294967295 : Int) = unt n w := by
          unfold unt
          rw [hwr]
          split
          · rfl
          · rw [wrap_id (by omega) (by omega)]; omega
        refine Ev_shift 2 (fun k => ?_) hi
        rw [ddiref40_Start.j0, if_neg Bool.false_ne_true, hlm, if_neg (by omega), hwr, if_neg hc, ddiref40_Start.j1]
        conv => lhs; rw [hu]
        rfl
theorem rstart_ev (l : List S33) (hl : l.length ≤ 512) (a : S28) (p : S31) (n w : Int) : Ev (fun k => ddiref40_Start.f k (l.map cv) a.f0 a.f1 a.f2 p.f0 p.f1 p.f2 p.f3 p.f4.f0 p.f4.f1 p.f4.f2 p.f5.f0 p.f5.f1 p.f5.f2 p.f6.f0 p.f6.f1 p.f6.f2 p.f7 p.f8 n w) ((staT l a p n w).1.map cv, (staT l a p n w).2) := by
  unfold ddiref40_Start.f staT
  simp only [rad_v, Option.bind_some]
  cases adB a with
  | false => exact Ev_const rfl
  | true =>
    simp only [if_true]
    refine Ev.bind (rpend_ev l (by omega) a) ?_
    rw [tup_some]
    cases hg : get a l with
    | some x => exact Ev_const rfl
    | none =>
      simp only [Option.isSome_none, Bool.false_eq_true, if_false]
      by_cases h1 : n < 0
      · simp only [if_pos h1, decide_eq_true h1, Bool.true_or, if_true]
        exact Ev_shift 1 (f := fun _ => some ([], 1)) (fun k => by rw [ddiref40_Start.j0, if_pos rfl]) (Ev_const rfl)
      · simp only [if_neg h1, decide_eq_false h1, Bool.false_or]
        by_cases h2 : n > 4294967295
        · simp only [if_pos h2, decide_eq_true h2, Bool.true_or, if_true]
          exact Ev_shift 1 (f := fun _ => some ([], 1)) (fun k => by rw [ddiref40_Start.j0, if_pos rfl]) (Ev_const rfl)
        · simp only [if_neg h2, decide_eq_false h2, Bool.false_or]
          have h0 := rsta0_ev l hl a hg p n w (by omega) (by omega) (decide (w < 0)) rfl
          split
          · rename_i hd; rw [if_pos hd] at h0; exact h0
          · rename_i hd
            rw [if_neg hd] at h0
            split
            · rename_i h5; rw [if_pos h5] at h0; exact h0
            · rename_i h5; rw [if_neg h5] at h0; exact h0
end Go.Proofs.Ytioopjondjfchaa.Ma
