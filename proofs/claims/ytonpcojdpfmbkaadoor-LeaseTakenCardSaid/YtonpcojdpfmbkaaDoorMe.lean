/- What a table takes in: Set and Offer of the program, by their results. -/
import Derived.Test.YtonpcojdpfmbkaaDoorQAd1
import Derived.Test.YtonpcojdpfmbkaaDoorMd
namespace Go.Proofs.YtonpcojdpfmbkaaDoor.Ma
open Go.RowKit Go.Proofs.YtonpcojdpfmbkaaDoorW.PrintWords Go.Proofs.YtonpcojdpfmbkaaDoorW.PrintLast Go.Proofs.YtonpcojdpfmbkaaDoorW.PrintMore Go.Proofs.YtonpcojdpfmbkaaDoor.XP Go.Proofs.YtonpcojdpfmbkaaDoor.QA Go.Proofs.YtonpcojdpfmbkaaDoor.Cm
set_option linter.unusedVariables false
set_option linter.unusedSimpArgs false
/-- The first entry that is out of force, from i on; -1 where there is none. -/
def low (t : Int) : List S41 → Nat → Int
  | [], _ => -1
  | x :: r, i => if forB x t = true then low t r (i + 1) else (i : Int)
theorem low_spec (t : Int) : ∀ (l : List S41) (i : Nat), low t l i = -1 ∨ ∃ n, low t l i = ((i + n : Nat) : Int) ∧ n < l.length
  | [], _ => Or.inl rfl
  | x :: r, i => by
    unfold low
    split
    · rcases low_spec t r (i + 1) with h | ⟨n, h, hn⟩
      · exact Or.inl h
      · exact Or.inr ⟨n + 1, by rw [h]; omega, by simp; omega⟩
    · exact Or.inr ⟨0, by omega, by simp⟩
theorem low_from (l : List S41) (hl : l.length ≤ 140737488351232) (t : Int) : ∀ (r : List S41) (i : Nat), l.drop i = r → Ev (fun k => slices_IndexFunc_63.l0 k l (l.length : Int) (i : Int) t) (low t r i)
  | [], i, h => by
    have := drop_end h
    exact Ev_shift 1 (f := fun _ => some (-1)) (fun k => by rw [slices_IndexFunc_63.l0, if_neg (by omega)]) (Ev_const rfl)
  | x :: r, i, h => by
    obtain ⟨hi, hx, hr⟩ := rd41 l i x r h
    have ih := low_from l hl t r (i + 1) hr
    have hf : lease_set_1.f x.f0.f0 x.f0.f1 x.f0.f2 x.f1 x.f2 x.f3 x.f4 x.f5 x.f6 t = some (!forB x t) := by
      unfold lease_set_1.f
      rw [force_v]
      rfl
    unfold low
    cases hb : forB x t with
    | true => exact Ev_shift 1 (fun k => by rw [slices_IndexFunc_63.l0, if_pos (by omega), if_pos (by omega), if_pos (by omega), hx, hf, hb, Option.bind_some, if_neg (by decide), next i l.length hi (by omega)]) ih
    | false => exact Ev_shift 1 (f := fun _ => some (i : Int)) (fun k => by rw [slices_IndexFunc_63.l0, if_pos (by omega), if_pos (by omega), if_pos (by omega), hx, hf, hb, Option.bind_some, if_pos (by decide)]) (Ev_const rfl)
def ins (x : S41) (l : List S41) : List S41 := l.take (pos x.f0 l) ++ [x] ++ l.drop (pos x.f0 l)
def setT (l : List S41) (x : S41) (t : Int) : List S41 × Int :=
  if (get x.f0 l).isSome = true then (l.set (pos x.f0 l) x, 0)
  else if 512 ≤ l.length then (if low t l 0 < 0 then ([], 9) else (ins x (l.take (low t l 0).toNat ++ l.drop ((low t l 0).toNat + 1)), 0))
  else (ins x l, 0)
theorem srt_drop (l : List S41) (hs : Srt l) (n : Nat) : Srt (l.take n ++ l.drop (n + 1)) := by
  unfold Srt at hs ⊢
  rw [← List.eraseIdx_eq_take_drop_succ]
  exact hs.sublist (List.eraseIdx_sublist l n)
theorem get_sub (a : S29) (l q : List S41) (hq : ∀ x ∈ q, x ∈ l) (h : (get a l).isSome = false) : (get a q).isSome = false := by
  have h1 : get a l = none := by simpa using h
  have : get a q = none := by
    unfold get at h1 ⊢
    rw [List.find?_eq_none] at h1 ⊢
    exact fun x hx => h1 x (hq x hx)
  rw [this]
  rfl
theorem mem_cut (l : List S41) (n : Nat) (x : S41) (h : x ∈ l.take n ++ l.drop (n + 1)) : x ∈ l := by
  rcases List.mem_append.1 h with h | h
  · exact List.mem_of_mem_take h
  · exact List.mem_of_mem_drop h
theorem setj_ev (l : List S41) (hl : l.length ≤ 512) (x : S41) : Ev (fun k => lease_set.j0 k l (pos x.f0 l : Int) x.f0.f0 x.f0.f1 x.f0.f2 x.f1 x.f2 x.f3 x.f4 x.f5 x.f6) (ins x l, 0) := by
  have := pos_le x.f0 l
  refine Ev_shift 1 (f := fun _ => some (ins x l, 0)) (fun k => ?_) (Ev_const rfl)
  rw [lease_set.j0, slices_Insert.f, if_pos (by omega), if_pos (by omega), if_pos (by show (l.length + 1) * 88 ≤ _; omega), Int.toNat_natCast]
  rfl
theorem set_ev (l : List S41) (hl : l.length ≤ 512) (hs : Srt l) (x : S41) (t : Int) : Ev (fun k => lease_set.f k l x.f0.f0 x.f0.f1 x.f0.f2 x.f1 x.f2 x.f3 x.f4 x.f5 x.f6 t) (setT l x t) := by
  have hp := pos_le x.f0 l
  unfold lease_set.f slices_Clone.f setT
  simp only [if_pos (show l.length * 88 ≤ 140737488355328 by omega), Option.bind_some]
  refine Ev.bind (place_ev l (by omega) hs x.f0) ?_
  cases hg : (get x.f0 l).isSome with
  | true =>
    have hlt : pos x.f0 l < l.length := by
      rcases Nat.lt_or_ge (pos x.f0 l) l.length with h | h
      · exact h
      · have := get_pos x.f0 l hs
        rw [List.getElem?_eq_none h] at this
        rw [this] at hg
        cases hg
    simp only [if_true, if_pos (show (0 : Int) ≤ (pos x.f0 l : Int) by omega), if_pos (show (pos x.f0 l : Int) < (l.length : Int) by omega), Int.toNat_natCast]
    exact Ev_const rfl
  | false =>
    simp only [Bool.false_eq_true, if_false]
    by_cases hfull : 512 ≤ l.length
    · simp only [if_pos hfull, if_pos (show (l.length : Int) ≥ 512 by omega)]
      refine Ev.bind (show Ev (fun k => slices_IndexFunc_63.f k l t) (low t l 0) by unfold slices_IndexFunc_63.f; exact low_from l (by omega) t l 0 rfl) ?_
      rcases low_spec t l 0 with h | ⟨n, h, hn⟩
      · simp only [h, if_pos (show (-1 : Int) < 0 by decide)]
        exact Ev_const rfl
      · rw [Nat.zero_add] at h
        have hneg : ¬ (n : Int) < 0 := by omega
        have hw := wnext n (by omega)
        have e1 : (0 : Int) ≤ (n : Int) := by omega
        have e2 : (n : Int) ≤ ((n + 1 : Nat) : Int) := by omega
        have e3 : ((n + 1 : Nat) : Int) ≤ (l.length : Int) := by omega
        simp only [h, if_neg hneg, hw, slices_Delete.f, if_pos e1, if_pos e2, if_pos e3, Int.toNat_natCast, Option.bind_some]
        have hlen : (l.take n ++ l.drop (n + 1)).length ≤ 512 := by
          rw [List.length_append, List.length_take, List.length_drop]
          clear hw
          omega
        refine Ev.bind (place_ev _ (by clear hw; omega) (srt_drop l hs n) x.f0) ?_
        exact setj_ev _ hlen x
    · simp only [if_neg hfull, if_neg (show ¬ (l.length : Int) ≥ 512 by omega)]
      exact setj_ev l hl x
def aft (a b : Int) : Int := if b ≥ wrap64 (4294967295 - a) then 4294967295 else wrap64 (a + b)
theorem aft_v (a b : Int) : lease_after.f a b = some (aft a b) := by
  unfold lease_after.f aft
  split <;> rfl
def mine (x : S41) (c : ByteArray) : Bool := decide (x.f1.data.toList = c.data.toList)
def keep (o : Option S41) (c : ByteArray) (t : Int) : Bool := match o with | some x => mine x c && (decide (x.f2 = 2) && forB x t) | none => false
def xidO (o : Option S41) (c : ByteArray) : Int := match o with | some x => if mine x c = true then x.f6 else 0 | none => 0
def offT (l : List S41) (a : S29) (c : ByteArray) (t d : Int) : List S41 × Int :=
  if adB a = true then (if (cliB c && (timeB t && decide (1 ≤ d))) = true then (if frB (get a l) c t = true then (if keep (get a l) c t = true then (l, 0) else setT l ⟨a, c, 1, t, aft t d, ⟨#[]⟩, xidO (get a l) c⟩ t) else ([], 23)) else ([], 1)) else ([], 3)
theorem off2_ev (l : List S41) (hl : l.length ≤ 512) (hs : Srt l) (a : S29) (c : ByteArray) (t d : Int) (own kp : Bool) (x : Bool × Int × Int × ByteArray × Int × Int × Int × ByteArray × Int) : Ev (fun k => lease_Offer.j2 k l c t d own kp a.f0 a.f1 a.f2 x.1 x.2.1 x.2.2.1 x.2.2.2.1 x.2.2.2.2.1 x.2.2.2.2.2.1 x.2.2.2.2.2.2.1 x.2.2.2.2.2.2.2.1 x.2.2.2.2.2.2.2.2) (if kp = true then (l, 0) else setT l ⟨a, c, 1, t, aft t d, ⟨#[]⟩, if own = true then x.2.2.2.2.2.2.2.2 else 0⟩ t) := by
  cases kp with
  | true => exact Ev_shift 1 (f := fun _ => some (l, 0)) (fun k => by rw [lease_Offer.j2, if_pos rfl, slices_Clone.f, if_pos (by omega)]; rfl) (Ev_const rfl)
  | false =>
    have h3 : ∀ y : Int, Ev (fun k => lease_Offer.j3 k l t a.f0 a.f1 a.f2 c 1 t (aft t d) ⟨#[]⟩ y) (setT l ⟨a, c, 1, t, aft t d, ⟨#[]⟩, y⟩ t) := by
      intro y
      refine Ev_shift 1 (fun k => by rw [lease_Offer.j3]) ?_
      exact Ev.bind (set_ev l hl hs ⟨a, c, 1, t, aft t d, ⟨#[]⟩, y⟩ t) (Ev_const rfl)
    refine Ev_shift 1 (fun k => by rw [lease_Offer.j2, if_neg Bool.false_ne_true, aft_v, Option.bind_some]) ?_
    cases own with
    | true => exact h3 _
    | false => exact h3 0
theorem offer_ev (l : List S41) (hl : l.length ≤ 512) (hs : Srt l) (a : S29) (c : ByteArray) (hc : c.size ≤ 140737488351232) (t d : Int) : Ev (fun k => lease_Offer.f k l a.f0 a.f1 a.f2 c t d) (offT l a c t d) := by
  unfold lease_Offer.f offT
  simp only [ad_v, Option.bind_some, time_v]
  cases adB a with
  | false => exact Ev_const rfl
  | true =>
    simp only [if_true]
    refine Ev.bind (cli_ev c hc) ?_
    have hj0 : ∀ b : Bool, b = !(cliB c && (timeB t && decide (1 ≤ d))) → Ev (fun k => lease_Offer.j0 k l c t d b a.f0 a.f1 a.f2) (if (cliB c && (timeB t && decide (1 ≤ d))) = true then (if frB (get a l) c t = true then (if keep (get a l) c t = true then (l, 0) else setT l ⟨a, c, 1, t, aft t d, ⟨#[]⟩, xidO (get a l) c⟩ t) else ([], 23)) else ([], 1)) := by
      rintro b rfl
      cases (cliB c && (timeB t && decide (1 ≤ d))) with
      | false => exact Ev_shift 1 (f := fun _ => some ([], 1)) (fun k => by rw [lease_Offer.j0, Bool.not_false, if_pos rfl]) (Ev_const rfl)
      | true =>
        rw [if_pos rfl]
        refine Ev_shift 1 (fun k => by rw [lease_Offer.j0, Bool.not_true, if_neg Bool.false_ne_true]) ?_
        refine Ev.bind (free_ev l (by omega) hs a c t) ?_
        cases frB (get a l) c t with
        | false => exact Ev_const rfl
        | true =>
          simp only [if_true]
          refine Ev.bind (find_ev l (by omega) hs a) ?_
          cases get a l with
          | none =>
            simp only [tup, Bool.false_eq_true, if_false]
            refine Ev_shift 1 (fun k => by rw [lease_Offer.j1, if_neg Bool.false_ne_true]) ?_
            exact off2_ev l hl hs a c t d false false (false, 0, 0, ⟨#[]⟩, 0, 0, 0, ⟨#[]⟩, 0)
          | some x =>
            simp only [tup, if_true, toL]
            have hm : (x.f1.data.toList == c.data.toList) = mine x c := by
              unfold mine
              rw [Bool.eq_iff_iff]
              simp
            rw [hm]
            have h2 := fun o kp => off2_ev l hl hs a c t d o kp (x.f0.f0, x.f0.f1, x.f0.f2, x.f1, x.f2, x.f3, x.f4, x.f5, x.f6)
            have hk : keep (some x) c t = (mine x c && (decide (x.f2 = 2) && forB x t)) := rfl
            have hxi : xidO (some x) c = if mine x c = true then x.f6 else 0 := rfl
            rw [hk, hxi]
            cases mine x c with
            | false =>
              refine Ev_shift 1 (fun k => by rw [lease_Offer.j1, if_neg Bool.false_ne_true]) ?_
              exact h2 false false
            | true =>
              refine Ev_shift 1 (fun k => by rw [lease_Offer.j1, if_pos rfl, force_v, Option.bind_some]) ?_
              by_cases h : x.f2 = 2
              · simp only [if_pos h, decide_eq_true h, Bool.true_and]
                exact h2 true _
              · simp only [if_neg h, decide_eq_false h, Bool.and_false, Bool.false_and]
                exact h2 true false
    cases hcl : cliB c with
    | false =>
      simp only [Bool.false_eq_true, if_false]
      have := hj0 true (by rw [hcl]; rfl)
      rw [hcl] at this
      exact this
    | true =>
      simp only [if_true]
      cases ht : timeB t with
      | false =>
        simp only [Bool.false_eq_true, if_false]
        have := hj0 true (by rw [hcl, ht]; rfl)
        rw [hcl, ht] at this
        exact this
      | true =>
        simp only [if_true]
        have := hj0 (decide (d < 1)) (by rw [hcl, ht, Bool.true_and, Bool.true_and, Bool.eq_iff_iff]; simp)
        rw [hcl, ht] at this
        exact this
def tkB (c : ByteArray) (t : Int) (x : S41) : Bool := !freeB x c t
def takT (l : List S41) (c : ByteArray) (t : Int) : List S29 := (l.filter (tkB c t)).map (·.f0)
theorem takT_len (l : List S41) (c : ByteArray) (t : Int) : (takT l c t).length ≤ l.length := by
  unfold takT
  rw [List.length_map]
  exact List.length_filter_le _ _
theorem taken_from (l : List S41) (hl : l.length ≤ 512) (c : ByteArray) (t : Int) : ∀ (r : List S41) (i : Nat) (q : List S29), l.drop i = r → q.length ≤ i → Ev (fun k => lease_Taken.l0 k c t q l (l.length : Int) (i : Int)) (q ++ takT r c t)
  | [], i, q, h, _ => by
    have := drop_end h
    exact Ev_shift 1 (f := fun _ => some q) (fun k => by rw [lease_Taken.l0, if_neg (by omega)]) (Ev_const (by simp [takT]))
  | x :: r, i, q, h, hq => by
    obtain ⟨hi, hx, hr⟩ := rd41 l i x r h
    cases hb : freeB x c t with
    | true =>
      have hT : takT (x :: r) c t = takT r c t := by
        unfold takT
        rw [List.filter_cons_of_neg (by unfold tkB; rw [hb]; decide)]
      rw [hT]
      have ih := taken_from l hl c t r (i + 1) q hr (by omega)
      exact Ev_shift 1 (fun k => by rw [lease_Taken.l0, if_pos (by omega), if_pos (by omega), if_pos (by omega), hx, free_v, hb, Option.bind_some, if_pos rfl, next i l.length hi (by omega)]) ih
    | false =>
      have hT : takT (x :: r) c t = x.f0 :: takT r c t := by
        unfold takT
        rw [List.filter_cons_of_pos (by unfold tkB; rw [hb]; rfl), List.map_cons]
      rw [hT]
      have ih := taken_from l hl c t r (i + 1) (q ++ [x.f0]) hr (by simp; omega)
      rw [List.append_assoc] at ih
      exact Ev_shift 1 (fun k => by rw [lease_Taken.l0, if_pos (by omega), if_pos (by omega), if_pos (by omega), hx, free_v, hb, Option.bind_some, if_neg Bool.false_ne_true, if_pos (by omega), next i l.length hi (by omega)]) ih
theorem taken_ev (l : List S41) (hl : l.length ≤ 512) (c : ByteArray) (t : Int) : Ev (fun k => lease_Taken.f k l c t) (takT l c t) := by
  unfold lease_Taken.f
  exact taken_from l hl c t l 0 [] rfl (Nat.le_refl _)
end Go.Proofs.YtonpcojdpfmbkaaDoor.Ma
