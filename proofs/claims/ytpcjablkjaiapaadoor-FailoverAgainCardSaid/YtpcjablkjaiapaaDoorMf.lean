/- Merge: the program's and the reference's make one table. -/
import Derived.Test.YtpcjablkjaiapaaDoorQAd1
import Derived.Test.YtpcjablkjaiapaaDoorMe
namespace Go.Proofs.YtpcjablkjaiapaaDoor.Ma
open Go.RowKit Go.Proofs.YtpcjablkjaiapaaDoorW.PrintWords Go.Proofs.YtpcjablkjaiapaaDoorW.PrintLast Go.Proofs.YtpcjablkjaiapaaDoorW.PrintMore Go.Proofs.YtpcjablkjaiapaaDoor.XP Go.Proofs.YtpcjablkjaiapaaDoor.QA Go.Proofs.YtpcjablkjaiapaaDoor.Cm
set_option linter.unusedVariables false
set_option linter.unusedSimpArgs false
theorem pm1 (x : S27) (a : S25) : Ev (fun k => failover_Merge_1.f k x.f0.f0 x.f0.f1 x.f0.f2 x.f1 x.f2 x.f3 x.f4 x.f5 x.f6 a.f0 a.f1 a.f2) (cmp x.f0 a) := by
  unfold failover_Merge_1.f
  exact Ev.bind (ucmp x.f0 a) (Ev_const rfl)
theorem ms_from (l : List S27) (hl : l.length ≤ 140737488351232) (hs : Srt l) (a : S25) : ∀ (d i j : Nat), j - i ≤ d → i ≤ pos a l → pos a l ≤ j → j ≤ l.length → Ev (fun k => slices_BinarySearchFunc_23.l0 k l (l.length : Int) (i : Int) (j : Int) a.f0 a.f1 a.f2) ((pos a l : Int), (get a l).isSome)
  | d, i, j, hd, hi, hj, hjl => by
    by_cases hij : i < j
    · have hm : (i + j) / 2 < l.length := by omega
      have e0 : (i : Int) < (j : Int) := by omega
      have e1 : (0 : Int) ≤ (((i + j) / 2 : Nat) : Int) := by omega
      have e2 : (((i + j) / 2 : Nat) : Int) < (l.length : Int) := by omega
      have hmw := mid i j (by omega)
      have hpi := pos_iff a l hs ((i + j) / 2) hm
      have hwn := wnext ((i + j) / 2) (by omega)
      cases d with
      | zero => exact absurd hd (by omega)
      | succ d =>
        have ihl : ((i + j) / 2 < pos a l) → Ev (fun k => slices_BinarySearchFunc_23.l0 k l (l.length : Int) (((i + j) / 2 + 1 : Nat) : Int) (j : Int) a.f0 a.f1 a.f2) ((pos a l : Int), (get a l).isSome) := fun h => ms_from l hl hs a d _ j (by clear hmw hwn; omega) (by clear hmw hwn; omega) hj hjl
        have ihr : ¬ ((i + j) / 2 < pos a l) → Ev (fun k => slices_BinarySearchFunc_23.l0 k l (l.length : Int) (i : Int) (((i + j) / 2 : Nat) : Int) a.f0 a.f1 a.f2) ((pos a l : Int), (get a l).isSome) := fun h => ms_from l hl hs a d i _ (by clear hmw hwn; omega) hi (by clear hmw hwn; omega) (by clear hmw hwn; omega)
        refine Ev_shift 1 (fun k => by rw [slices_BinarySearchFunc_23.l0, if_pos e0, hmw, if_pos e1, if_pos e2, rdAt l _ hm]) ?_
        refine Ev.bind (pm1 (l[(i + j) / 2]) a) ?_
        by_cases hc : cmp (l[(i + j) / 2]).f0 a < 0
        · simp only [if_pos hc, hwn]
          exact ihl (hpi.1 hc)
        · simp only [if_neg hc]
          exact ihr (fun h => hc (hpi.2 h))
    · have hip : pos a l = i := by omega
      have e0 : ¬ (i : Int) < (j : Int) := by omega
      rw [get_pos a l hs, hip]
      by_cases hil : i < l.length
      · have e1 : (i : Int) < (l.length : Int) := by omega
        have e2 : (0 : Int) ≤ (i : Int) := by omega
        refine Ev_shift 1 (fun k => by rw [slices_BinarySearchFunc_23.l0, if_neg e0, if_pos e1, if_pos e2, if_pos e1, rdAt l _ hil]) ?_
        refine Ev.bind (pm1 (l[i]) a) (Ev_const ?_)
        rw [List.getElem?_eq_getElem hil]
        congr 2
        show (cmp (l[i]).f0 a == 0) = _
        simp only []
        cases he : ea (l[i]).f0 a with
        | true =>
          rw [(ea_iff _ _).1 he, cmp_self]
          rfl
        | false =>
          have := (ea_ne _ _).1 he
          have h0 : ¬ cmp (l[i]).f0 a = 0 := fun h => this ((cmp_zero _ _).1 h)
          simpa using h0
      · have e1 : ¬ (i : Int) < (l.length : Int) := by omega
        refine Ev_shift 1 (f := fun _ => some ((i : Int), false)) (fun k => by rw [slices_BinarySearchFunc_23.l0, if_neg e0, if_neg e1]) (Ev_const ?_)
        rw [List.getElem?_eq_none (by omega)]
        rfl
theorem tables_from (l : List S27) (hl : l.length ≤ 1000000) : ∀ (d i : Nat), l.length - i ≤ d → i ≤ l.length → Ev (fun k => ddilaw44_tables.l0 k l l (i : Int)) true
  | d, i, hd, hi => by
    by_cases h : i < l.length
    · cases d with
      | zero => exact absurd hd (by omega)
      | succ d =>
        have ih := tables_from l hl d (i + 1) (by omega) (by omega)
        refine Ev_shift 1 (fun k => ?_) ih
        rw [ddilaw44_tables.l0, if_pos (by omega), if_pos (by omega), if_pos (by omega), next i l.length h (by omega)]
        simp only [beq_self_eq_true, Bool.not_true, Bool.or_false, Bool.false_eq_true, if_false]
    · exact Ev_shift 1 (f := fun _ => some true) (fun k => by rw [ddilaw44_tables.l0, if_neg (by omega)]) (Ev_const rfl)
theorem tables_ev (l : List S27) (hl : l.length ≤ 1000000) : Ev (fun k => ddilaw44_tables.f k l l) true := by
  unfold ddilaw44_tables.f
  simp only [if_true]
  exact tables_from l hl l.length 0 (by omega) (by omega)
def nwB (x y : S27) : Bool := if x.f3 = y.f3 then (if x.f1.data.toList = y.f1.data.toList then (if x.f4 = y.f4 then decide (x.f2 > y.f2) else decide (x.f4 > y.f4)) else false) else decide (x.f3 > y.f3)
theorem nw_v (x y : S27) : failover_newer.f x.f0.f0 x.f0.f1 x.f0.f2 x.f1 x.f2 x.f3 x.f4 x.f5 x.f6 y.f0.f0 y.f0.f1 y.f0.f2 y.f1 y.f2 y.f3 y.f4 y.f5 y.f6 = some (nwB x y) := by
  unfold failover_newer.f nwB
  rw [toL, toL]
  split
  · split
    · split <;> rfl
    · rfl
  · rfl
/-- The entry that is put in the old one's place. -/
def upX (x y : S27) : S27 := if x.f1.data.toList = y.f1.data.toList then ⟨x.f0, x.f1, x.f2, x.f3, x.f4, x.f5, mx x.f6 y.f6⟩ else x
def mrgT (l : List S27) (x : S27) : List S27 × Bool :=
  if one x = 0 then (match get x.f0 l with
    | some y => if nwB x y = true then (l.set (pos x.f0 l) (upX x y), true) else (l, false)
    | none => if l.length ≥ 512 then (l, false) else (ins x l, true))
  else (l, false)
theorem chk1 (x : S27) : chkT [x] = one x := by
  unfold chkT
  rw [if_neg (by simp)]
  by_cases h : one x = 0
  · rw [chk_of [x] none (fun q h => by cases h) (List.pairwise_singleton _ _) (fun y hy => by rw [List.mem_singleton.1 hy]; exact h), h]
  · unfold chk
    by_cases ha : adB x.f0 = true
    · rw [if_pos ha, if_pos (show upB none x.f0 = true from rfl), if_neg h]
    · rw [if_neg ha]
      unfold one
      rw [if_neg ha]
theorem merge_ev (l : List S27) (hl : l.length ≤ 512) (hs : Srt l) (x : S27) (hx : okS27 x) : Ev (fun k => failover_Merge.f k l x.f0.f0 x.f0.f1 x.f0.f2 x.f1 x.f2 x.f3 x.f4 x.f5 x.f6) (mrgT l x) := by
  unfold failover_Merge.f
  have hc : slices_Clone_21.f l = some l := by
    unfold slices_Clone_21.f
    rw [if_pos (by omega)]
  rw [hc]
  simp only [Option.bind_some]
  have hb : Ev (fun k => slices_BinarySearchFunc_23.f k l x.f0.f0 x.f0.f1 x.f0.f2) ((pos x.f0 l : Int), (get x.f0 l).isSome) := by
    unfold slices_BinarySearchFunc_23.f
    exact ms_from l (by omega) hs x.f0 l.length 0 l.length (by omega) (by omega) (pos_le x.f0 l) (Nat.le_refl _)
  refine Ev.bind hb ?_
  refine Ev.bind (check_ev [x] (by simp) (fun y hy => by rw [List.mem_singleton.1 hy]; exact hx)) ?_
  rw [chk1]
  unfold mrgT
  by_cases h1 : one x = 0
  · rw [if_pos h1]
    simp only [if_pos h1]
    cases ho : get x.f0 l with
    | some y =>
      obtain ⟨hp, hy, hya⟩ := get_at l hs x.f0 y ho
      simp only [Option.isSome_some, if_true]
      refine Ev_shift 1 (fun k => by rw [failover_Merge.j0, if_neg Bool.false_ne_true, if_pos rfl, if_pos (by omega), if_pos (by omega), rdAt l _ hp, hy, nw_v, Option.bind_some]) (?_ : Ev (fun _ => _) _)
      cases hn : nwB x y with
      | false => exact Ev_const rfl
      | true =>
        simp only [if_true]
        unfold upX
        rw [toL, toL]
        split
        · exact Ev_const rfl
        · exact Ev_const rfl
    | none =>
      simp only [Option.isSome_none, Bool.false_eq_true, if_false]
      by_cases h5 : l.length ≥ 512
      · rw [if_pos h5, decide_eq_true (by omega)]
        exact Ev_shift 1 (f := fun _ => some (l, false)) (fun k => by rw [failover_Merge.j0, if_pos rfl]) (Ev_const rfl)
      · rw [if_neg h5, decide_eq_false (by omega)]
        have := pos_le x.f0 l
        refine Ev_shift 1 (f := fun _ => some (ins x l, true)) (fun k => ?_) (Ev_const rfl)
        rw [failover_Merge.j0, if_neg Bool.false_ne_true, if_neg Bool.false_ne_true]
        unfold slices_Insert.f
        rw [if_pos (by omega), if_pos (by omega), if_pos (by simp; omega)]
        rfl
  · rw [if_neg h1]
    simp only [if_neg h1]
    exact Ev_const rfl
end Go.Proofs.YtpcjablkjaiapaaDoor.Ma
