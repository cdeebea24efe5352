/- Merge: the program's and the reference's make one table. -/
import Derived.Test.YtpcjablkjaiapaaDoorQAd1
import Derived.Test.YtpcjablkjaiapaaDoorQAd2
import Derived.Test.YtpcjablkjaiapaaDoorMe
namespace Go.Proofs.YtpcjablkjaiapaaDoor.Ma
open Go.RowKit Go.Proofs.YtpcjablkjaiapaaDoorW.PrintWords Go.Proofs.YtpcjablkjaiapaaDoorW.PrintLast Go.Proofs.YtpcjablkjaiapaaDoorW.PrintMore Go.Proofs.YtpcjablkjaiapaaDoor.XP Go.Proofs.YtpcjablkjaiapaaDoor.QA Go.Proofs.YtpcjablkjaiapaaDoor.Cm
set_option linter.unusedVariables false
set_option linter.unusedSimpArgs false
theorem pm1 (x : S27) (a : S25) : Ev (fun k => failover_Merge_1.f k x.f0.f0 x.f0.f1 x.f0.f2 x.f1 x.f2 x.f3 x.f4 x.f5 x.f6 a.f0 a.f1 a.f2) (cmp x.f0 a) := by
  unfold failover_Merge_1.f
  exact Ev.bind (ucmp x.f0 a) (Ev_const rfl)
theorem ms_from (l : List S27) (hl : l.length ≤ 140737488351232) (hs : Srt l) (a : S25) : ∀ (d i j : Nat), j - i ≤ d → i ≤ pos a l → pos a l ≤ j → j ≤ l.length → Ev (fun k => slices_BinarySearchFunc_23.l0 k l (l.length : Int) (i : Int) (j : Int) a.f0 a.f1 a.f2) ((pos a l : Int), (get a l).isSome)
  | d, i, j, hd, hi, hj, hjl => by
    by_cases hij : i < j
    · have hm : (i + j) / 2 < l.length := by omega
      have e0 : (i : Int) < (j : Int) := by omega
      have e1 : (0 : Int) ≤ (((i + j) / 2 : Nat) : Int) := by omega
      have e2 : (((i + j) / 2 : Nat) : Int) < (l.length : Int) := by omega
      have hmw := mid i j (by omega)
      have hpi := pos_iff a l hs ((i + j) / 2) hm
      have hwn := wnext ((i + j) / 2) (by omega)
      cases d with
      | zero => exact absurd hd (by omega)
      | succ d =>
        have ihl : ((i + j) / 2 < pos a l) → Ev (fun k => slices_BinarySearchFunc_23.l0 k l (l.length : Int) (((i + j) / 2 + 1 : Nat) : Int) (j : Int) a.f0 a.f1 a.f2) ((pos a l : Int), (get a l).isSome) := fun h => ms_from l hl hs a d _ j (by clear hmw hwn; omega) (by clear hmw hwn; omega) hj hjl
        have ihr : ¬ ((i + j) / 2 < pos a l) → Ev (fun k => slices_BinarySearchFunc_23.l0 k l (l.length : Int) (i : Int) (((i + j) / 2 : Nat) : Int) a.f0 a.f1 a.f2) ((pos a l : Int), (get a l).isSome) := fun h => ms_from l hl hs a d i _ (by clear hmw hwn; omega) hi (by clear hmw hwn; omega) (by clear hmw hwn; omega)
        refine Ev_shift 1 (fun k => by rw [slices_BinarySearchFunc_23.l0, if_pos e0, hmw, if_pos e1, if_pos e2, rdAt l _ hm]) ?_
        refine Ev.bind (pm1 (l[(i + j) / 2]) a) ?_
        by_cases hc : cmp (l[(i + j) / 2]).f0 a < 0
        · simp only [if_pos hc, hwn]
          exact ihl (hpi.1 hc)
        · simp only [if_neg hc]
          exact ihr (fun h => hc (hpi.2 h))
    · have hip : pos a l = i := by omega
      have e0 : ¬ (i : Int) < (j : Int) := by omega
      rw [get_pos a l hs, hip]
      by_cases hil : i < l.length
      · have e1 : (i : Int) < (l.length : Int) := by omega
        have e2 : (0 : Int) ≤ (i : Int) := by omega
        refine Ev_shift 1 (fun k => by rw [slices_BinarySearchFunc_23.l0, if_neg e0, if_pos e1, if_pos e2, if_pos e1, rdAt l _ hil]) ?_
        refine Ev.bind (pm1 (l[i]) a) (Ev_const ?_)
        rw [List.getElem?_eq_getElem hil]
        congr 2
        show (cmp (l[i]).f0 a == 0) = _
        simp only []
        cases he : ea (l[i]).f0 a with
        | true =>
          rw [(ea_iff _ _).1 he, cmp_self]
          rfl
        | false =>
          have := (ea_ne _ _).1 he
          have h0 : ¬ cmp (l[i]).f0 a = 0 := fun h => this ((cmp_zero _ _).1 h)
          simpa using h0
      · have e1 : ¬ (i : Int) < (l.length : Int) := by omega
        refine Ev_shift 1 (f := fun _ => some ((i : Int), false)) (fun k => by rw [slices_BinarySearchFunc_23.l0, if_neg e0, if_neg e1]) (Ev_const ?_)
        rw [List.getElem?_eq_none (by omega)]
        rfl
theorem tables_from (l : List S27) (hl : l.length ≤ 1000000) : ∀ (d i : Nat), l.length - i ≤ d → i ≤ l.length → Ev (fun k => ddilaw44_tables.l0 k l l (i : Int)) true
  | d, i, hd, hi => by
    by_cases h : i < l.length
    · cases d with
      | zero => exact absurd hd (by omega)
      | succ d =>
        have ih := tables_from l hl d (i + 1) (by omega) (by omega)
        refine Ev_shift 1 (fun k => ?_) ih
        rw [ddilaw44_tables.l0, if_pos (by omega), if_pos (by omega), if_pos (by omega), next i l.length h (by omega)]
        simp only [beq_self_eq_true, Bool.not_true, Bool.or_false, Bool.false_eq_true, if_false]
    · exact Ev_shift 1 (f := fun _ => some true) (fun k => by rw [ddilaw44_tables.l0, if_neg (by omega)]) (Ev_const rfl)
theorem tables_ev (l : List S27) (hl : l.length ≤ 1000000) : Ev (fun k => ddilaw44_tables.f k l l) true := by
  unfold ddilaw44_tables.f
  simp only [if_true]
  exact tables_from l hl l.length 0 (by omega) (by omega)
def nwB (x y : S27) : Bool := if x.f3 = y.f3 then (if x.f1.data.toList = y.f1.data.toList then (if x.f4 = y.f4 then decide (x.f2 > y.f2) else decide (x.f4 > y.f4)) else false) else decide (x.f3 > y.f3)
theorem nw_v (x y : S27) : failover_newer.f x.f0.f0 x.f0.f1 x.f0.f2 x.f1 x.f2 x.f3 x.f4 x.f5 x.f6 y.f0.f0 y.f0.f1 y.f0.f2 y.f1 y.f2 y.f3 y.f4 y.f5 y.f6 = some (nwB x y) := by
  unfold failover_newer.f nwB
  rw [toL, toL]
  split
  · split
    · split <;> rfl
    · rfl
  · rfl
theorem rnw_v (x y : S27) : ddiref44_newer.f x.f0.f0 x.f0.f1 x.f0.f2 x.f1 x.f2 x.f3 x.f4 x.f5 x.f6 y.f0.f0 y.f0.f1 y.f0.f2 y.f1 y.f2 y.f3 y.f4 y.f5 y.f6 = some (nwB x y) := nw_v x y
/-- The entry that is put in the old one's place. -/
def upX (x y : S27) : S27 := if x.f1.data.toList = y.f1.data.toList then ⟨x.f0, x.f1, x.f2, x.f3, x.f4, x.f5, mx x.f6 y.f6⟩ else x
def mrgT (l : List S27) (x : S27) : List S27 × Bool :=
  if one x = 0 then (match get x.f0 l with
    | some y => if nwB x y = true then (l.set (pos x.f0 l) (upX x y), true) else (l, false)
    | none => if l.length ≥ 512 then (l, false) else (ins x l, true))
  else (l, false)
theorem chk1 (x : S27) : chkT [x] = one x := by
  unfold chkT
  rw [if_neg (by simp)]
  by_cases h : one x = 0
  · rw [chk_of [x] none (fun q h => by cases h) (List.pairwise_singleton _ _) (fun y hy => by rw [List.mem_singleton.1 hy]; exact h), h]
  · unfold chk
    by_cases ha : adB x.f0 = true
    · rw [if_pos ha, if_pos (show upB none x.f0 = true from rfl), if_neg h]
    · rw [if_neg ha]
      unfold one
      rw [if_neg ha]
theorem merge_ev (l : List S27) (hl : l.length ≤ 512) (hs : Srt l) (x : S27) (hx : okS27 x) : Ev (fun k => failover_Merge.f k l x.f0.f0 x.f0.f1 x.f0.f2 x.f1 x.f2 x.f3 x.f4 x.f5 x.f6) (mrgT l x) := by
  unfold failover_Merge.f
  have hc : slices_Clone_21.f l = some l := by
    unfold slices_Clone_21.f
    rw [if_pos (by omega)]
  rw [hc]
  simp only [Option.bind_some]
  have hb : Ev (fun k => slices_BinarySearchFunc_23.f k l x.f0.f0 x.f0.f1 x.f0.f2) ((pos x.f0 l : Int), (get x.f0 l).isSome) := by
    unfold slices_BinarySearchFunc_23.f
    exact ms_from l (by omega) hs x.f0 l.length 0 l.length (by omega) (by omega) (pos_le x.f0 l) (Nat.le_refl _)
  refine Ev.bind hb ?_
  refine Ev.bind (check_ev [x] (by simp) (fun y hy => by rw [List.mem_singleton.1 hy]; exact hx)) ?_
  rw [chk1]
  unfold mrgT
  by_cases h1 : one x = 0
  · rw [if_pos h1]
    simp only [if_pos h1]
    cases ho : get x.f0 l with
    | some y =>
      obtain ⟨hp, hy, hya⟩ := get_at l hs x.f0 y ho
      simp only [Option.isSome_some, if_true]
      refine Ev_shift 1 (fun k => by rw [failover_Merge.j0, if_neg Bool.false_ne_true, if_pos rfl, if_pos (by omega), if_pos (by omega), rdAt l _ hp, hy, nw_v, Option.bind_some]) (?_ : Ev (fun _ => _) _)
      cases hn : nwB x y with
      | false => exact Ev_const rfl
      | true =>
        simp only [if_true]
        unfold upX
        rw [toL, toL]
        split
        · exact Ev_const rfl
        · exact Ev_const rfl
    | none =>
      simp only [Option.isSome_none, Bool.false_eq_true, if_false]
      by_cases h5 : l.length ≥ 512
      · rw [if_pos h5, decide_eq_true (by omega)]
        exact Ev_shift 1 (f := fun _ => some (l, false)) (fun k => by rw [failover_Merge.j0, if_pos rfl]) (Ev_const rfl)
      · rw [if_neg h5, decide_eq_false (by omega)]
        have := pos_le x.f0 l
        refine Ev_shift 1 (f := fun _ => some (ins x l, true)) (fun k => ?_) (Ev_const rfl)
        rw [failover_Merge.j0, if_neg Bool.false_ne_true, if_neg Bool.false_ne_true]
        unfold slices_Insert.f
        rw [if_pos (by omega), if_pos (by omega), if_pos (by simp; omega)]
        rfl
  · rw [if_neg h1]
    simp only [if_neg h1]
    exact Ev_const rfl
def loopM (x : S27) : List S27 → Bool → List S27
  | [], pl => if pl = true then [] else [x]
  | y :: r, pl => (if (!pl && decide (cmp x.f0 y.f0 ≤ 0)) = true then [x] else []) ++ ((if ea y.f0 x.f0 = true then [] else [y]) ++ loopM x r (pl || decide (cmp x.f0 y.f0 ≤ 0)))
theorem rmerge_from (l : List S27) (hl : l.length ≤ 512) (x : S27) : ∀ (r : List S27) (i : Nat) (q : List S27) (pl : Bool), l.drop i = r → q.length ≤ 2 * i → i ≤ 512 → Ev (fun k => ddiref44_Merge.l0 k l q pl (i : Int) x.f0.f0 x.f0.f1 x.f0.f2 x.f1 x.f2 x.f3 x.f4 x.f5 x.f6) (q ++ loopM x r pl, true)
  | [], i, q, pl, h, hq, hi5 => by
    have hi := drop_end h
    unfold loopM
    cases pl with
    | true => exact Ev_shift 1 (f := fun _ => some (q, true)) (fun k => by rw [ddiref44_Merge.l0, if_neg (by omega), if_pos rfl]) (Ev_const (by simp))
    | false =>
      have hb : q.length < 1599289640401 := by omega
      exact Ev_shift 1 (f := fun _ => some (q ++ [x], true)) (fun k => by rw [ddiref44_Merge.l0, if_neg (by omega), if_neg Bool.false_ne_true, if_pos hb]) (Ev_const (by simp))
  | y :: r, i, q, pl, h, hq, _ => by
    obtain ⟨hi, hy, hr⟩ := rd27 l i y r h
    have ih := fun q pl h => rmerge_from l hl x r (i + 1) q pl hr h (by omega)
    have h5 : ∀ (q2 : List S27) (pl2 : Bool), q2.length ≤ 2 * i + 1 → Ev (fun k => ddiref44_Merge.j5 k l q2 pl2 (i : Int) x.f0.f0 x.f0.f1 x.f0.f2 x.f1 x.f2 x.f3 x.f4 x.f5 x.f6) ((q2 ++ (if ea y.f0 x.f0 = true then [] else [y])) ++ loopM x r pl2, true) := by
      intro q2 pl2 hq2
      have hne : (!(y.f0.f0 == x.f0.f0) || (!(y.f0.f1 == x.f0.f1) || (!(y.f0.f2 == x.f0.f2)))) = !ea y.f0 x.f0 := by
        unfold ea
        simp [Bool.not_and]
      cases he : ea y.f0 x.f0 with
      | true =>
        have := ih q2 pl2 (by omega)
        rw [if_pos rfl, List.append_nil]
        exact Ev_shift 1 (fun k => by rw [ddiref44_Merge.j5, if_pos (by omega), if_pos (by omega), hy, hne, he, if_neg (by simp), next i l.length hi (by omega)]) this
      | false =>
        have := ih (q2 ++ [y]) pl2 (by simp; omega)
        rw [if_neg Bool.false_ne_true]
        exact Ev_shift 1 (fun k => by rw [ddiref44_Merge.j5, if_pos (by omega), if_pos (by omega), hy, hne, he, if_pos (by rfl), if_pos (by omega), next i l.length hi (by omega)]) this
    have hgo : ∀ b : Bool, b = (!pl && decide (cmp x.f0 y.f0 ≤ 0)) → Ev (fun k => ddiref44_Merge.j4 k l q pl (i : Int) b x.f0.f0 x.f0.f1 x.f0.f2 x.f1 x.f2 x.f3 x.f4 x.f5 x.f6) (q ++ loopM x (y :: r) pl, true) := by
      intro b hb
      have hq1 : q.length < 1599289640401 := by omega
      unfold loopM
      rw [← hb]
      cases b with
      | true =>
        have e : (pl || decide (cmp x.f0 y.f0 ≤ 0)) = true := by
          have := (Bool.and_eq_true _ _ ▸ hb.symm : (!pl) = true ∧ decide (cmp x.f0 y.f0 ≤ 0) = true)
          rw [this.2, Bool.or_true]
        have := h5 (q ++ [x]) true (by simp; omega)
        rw [List.append_assoc, List.append_assoc] at this
        rw [if_pos rfl, e]
        exact Ev_shift 1 (fun k => by rw [ddiref44_Merge.j4, if_pos rfl, if_pos hq1]) this
      | false =>
        have e : (pl || decide (cmp x.f0 y.f0 ≤ 0)) = pl := by
          cases pl with
          | true => rfl
          | false => simpa using hb.symm
        have := h5 q pl (by omega)
        rw [List.append_assoc] at this
        rw [if_neg Bool.false_ne_true, List.nil_append, e]
        exact Ev_shift 1 (fun k => by rw [ddiref44_Merge.j4, if_neg Bool.false_ne_true]) this
    cases pl with
    | true => exact Ev_shift 1 (fun k => by rw [ddiref44_Merge.l0, if_pos (by omega), if_pos rfl]) (hgo false rfl)
    | false => exact Ev_shift 1 (fun k => by rw [ddiref44_Merge.l0, if_pos (by omega), if_neg Bool.false_ne_true, if_pos (by omega), hy, rcmp, Option.bind_some]) (hgo (decide (cmp x.f0 y.f0 ≤ 0)) rfl)
theorem lm_keep (x : S27) : ∀ (r : List S27), (∀ y ∈ r, y.f0 ≠ x.f0) → loopM x r true = r
  | [], _ => rfl
  | y :: r, h => by
    have h1 := (ea_ne _ _).2 (h y (List.mem_cons_self ..))
    unfold loopM
    rw [h1, Bool.true_or, lm_keep x r (fun z hz => h z (List.mem_cons_of_mem _ hz))]
    rfl
theorem lm_gt {x y : S27} {r : List S27} (h1 : ∀ z ∈ r, cmp y.f0 z.f0 < 0) (hc : ¬ cmp y.f0 x.f0 < 0) : ∀ z ∈ r, z.f0 ≠ x.f0 := by
  intro z hz e
  have a1 := h1 z hz
  rw [e] at a1
  exact hc a1
theorem lm_all (x : S27) : ∀ (l : List S27), Srt l → loopM x l false = if (get x.f0 l).isSome = true then l.set (pos x.f0 l) x else insR x l
  | [], _ => rfl
  | y :: r, hs => by
    obtain ⟨h1, h2⟩ := List.pairwise_cons.1 hs
    have hf := cmp_flip x.f0 y.f0
    unfold loopM pos insR
    by_cases hc : cmp y.f0 x.f0 < 0
    · have he : ea y.f0 x.f0 = false := by
        rw [ea_ne]
        intro e
        rw [e, cmp_self] at hc
        omega
      have hg : get x.f0 (y :: r) = get x.f0 r := by
        unfold get
        rw [List.find?_cons, he]
      rw [if_pos hc, if_pos hc, hg, decide_eq_false (show ¬ cmp x.f0 y.f0 ≤ 0 by omega), he, Bool.or_false, lm_all x r h2]
      cases (get x.f0 r).isSome <;> rfl
    · rw [if_neg hc, if_neg hc, decide_eq_true (show cmp x.f0 y.f0 ≤ 0 by omega), Bool.or_true, lm_keep x r (lm_gt h1 hc)]
      cases he : ea y.f0 x.f0 with
      | true =>
        have hg : (get x.f0 (y :: r)).isSome = true := by
          unfold get
          rw [List.find?_cons, he]
          rfl
        rw [hg]
        rfl
      | false =>
        have hg : (get x.f0 (y :: r)).isSome = false := by
          have := get_none_of_gt x.f0 y r h1 hc
          unfold get at this ⊢
          rw [List.find?_cons, he]
          simp only [this]
          rfl
        rw [hg]
        rfl
theorem rmerge_ev (l : List S27) (hl : l.length ≤ 512) (hs : Srt l) (x : S27) (hx : okS27 x) : Ev (fun k => ddiref44_Merge.f k l x.f0.f0 x.f0.f1 x.f0.f2 x.f1 x.f2 x.f3 x.f4 x.f5 x.f6) (mrgT l x) := by
  unfold ddiref44_Merge.f
  refine Ev.bind (rcheck_ev [x] (by simp) (fun y hy => by rw [List.mem_singleton.1 hy]; exact hx)) ?_
  rw [chk1]
  unfold mrgT
  have hgo : ∀ z : S27, z.f0 = x.f0 → Ev (fun k => ddiref44_Merge.j2 k l x.f0.f0 x.f0.f1 x.f0.f2 z.f1 z.f2 z.f3 z.f4 z.f5 z.f6) (if (get x.f0 l).isSome = true then l.set (pos x.f0 l) z else ins z l, true) := by
    intro z hz
    have := rmerge_from l hl z l 0 [] false rfl (Nat.le_refl _) (by omega)
    rw [List.nil_append, lm_all z l hs, ← ins_insR, hz] at this
    exact Ev_shift 1 (fun k => by rw [ddiref44_Merge.j2]; rfl) this
  by_cases h1 : one x = 0
  · rw [if_pos h1]
    simp only [if_pos h1]
    refine Ev.bind (rfind_ev l (by omega) x.f0) ?_
    cases ho : get x.f0 l with
    | some y =>
      simp only [tup, if_true]
      rw [rnw_v]
      simp only [Option.bind_some]
      cases hn : nwB x y with
      | false => 
        simp only [Bool.false_eq_true, if_false]
        exact Ev_shift 1 (f := fun _ => some (l, false)) (fun k => by rw [ddiref44_Merge.j0, if_pos rfl]) (Ev_const rfl)
      | true =>
        simp only [if_true]
        refine Ev_shift 1 (fun k => by rw [ddiref44_Merge.j0, if_neg Bool.false_ne_true, if_pos rfl, toL, toL]) ?_
        unfold upX
        rw [ho] at hgo
        simp only [Option.isSome_some, if_true] at hgo
        by_cases hcl : x.f1.data.toList = y.f1.data.toList
        · rw [if_pos hcl]
          simp only [if_pos hcl.symm]
          by_cases hz : y.f6 > x.f6
          · have := hgo ⟨x.f0, x.f1, x.f2, x.f3, x.f4, x.f5, mx x.f6 y.f6⟩ rfl
            have em : mx x.f6 y.f6 = y.f6 := by unfold mx; rw [if_pos (by omega)]
            rw [em] at this ⊢
            exact Ev_shift 1 (fun k => by rw [ddiref44_Merge.j1, if_pos (by simpa using hz)]) this
          · have := hgo ⟨x.f0, x.f1, x.f2, x.f3, x.f4, x.f5, mx x.f6 y.f6⟩ rfl
            have em : mx x.f6 y.f6 = x.f6 := by unfold mx; rw [if_neg (by omega)]
            rw [em] at this ⊢
            exact Ev_shift 1 (fun k => by rw [ddiref44_Merge.j1, if_neg (by simpa using hz)]) this
        · rw [if_neg hcl]
          simp only [if_neg (fun e => hcl (Eq.symm e))]
          exact Ev_shift 1 (fun k => by rw [ddiref44_Merge.j1, if_neg Bool.false_ne_true]) (hgo x rfl)
    | none =>
      simp only [tup, Bool.false_eq_true, if_false]
      by_cases h5 : l.length ≥ 512
      · rw [if_pos h5, decide_eq_true (by omega)]
        exact Ev_shift 1 (f := fun _ => some (l, false)) (fun k => by rw [ddiref44_Merge.j0, if_pos rfl]) (Ev_const rfl)
      · rw [if_neg h5, decide_eq_false (by omega)]
        rw [ho] at hgo
        simp only [Option.isSome_none, Bool.false_eq_true, if_false] at hgo
        refine Ev_shift 1 (fun k => by rw [ddiref44_Merge.j0, if_neg Bool.false_ne_true, if_neg Bool.false_ne_true]) ?_
        exact Ev_shift 1 (fun k => by rw [ddiref44_Merge.j1, if_neg Bool.false_ne_true]) (hgo x rfl)
  · rw [if_neg h1]
    simp only [if_neg h1]
    exact Ev_const rfl
end Go.Proofs.YtpcjablkjaiapaaDoor.Ma
