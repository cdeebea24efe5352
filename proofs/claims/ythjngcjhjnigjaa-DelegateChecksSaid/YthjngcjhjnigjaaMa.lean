/- Grants: the lists that the statements look at, lists that are equal, what is left at a time, whose an address is (no condition but the sizes). -/
import Derived.Test.YthjngcjhjnigjaaQAd1
import Derived.Test.YthjngcjhjnigjaaMp
namespace Go.Proofs.Ythjngcjhjnigjaa.Ma
open Go.RowKit Go.Proofs.YthjngcjhjnigjaaW.PrintWords Go.Proofs.YthjngcjhjnigjaaW.PrintLast Go.Proofs.YthjngcjhjnigjaaW.PrintMore Go.Proofs.Ythjngcjhjnigjaa.XP Go.Proofs.Ythjngcjhjnigjaa.QA Go.Proofs.Ythjngcjhjnigjaa.Cm
set_option linter.unusedVariables false
set_option linter.unusedSimpArgs false
/-- The same grant, as the reference has it. -/
def cv (x : S61) : S70 := ⟨x.f0, x.f1, x.f2⟩
def cutG (x : S70) : S61 := ⟨x.f0, x.f1.extract 0 (min x.f1.size 100), x.f2⟩
def ownT (l : List S70) : List S61 := (l.take 40).map cutG
theorem rd61 (l : List S61) (i : Nat) (x : S61) (r : List S61) (h : l.drop i = x :: r) : i < l.length ∧ rd_T61 l (i : Int) = x ∧ l.drop (i + 1) = r := by
  obtain ⟨hi, hx, hr⟩ := drop_at h
  refine ⟨hi, ?_, hr⟩
  simp [rd_T61, List.getD_eq_getElem?_getD, List.getElem?_eq_getElem hi, hx]
theorem rd70 (l : List S61) (i : Nat) (x : S61) (r : List S61) (h : l.drop i = x :: r) : rd_T70 (l.map cv) (i : Int) = cv x := by
  obtain ⟨hi, hx, hr⟩ := drop_at h
  simp [rd_T70, List.getD_eq_getElem?_getD, List.getElem?_eq_getElem hi, hx]
theorem rdAt (l : List S61) (q : Nat) (h : q < l.length) : rd_T61 l (q : Int) = l[q] := by
  simp [rd_T61, List.getD_eq_getElem?_getD, List.getElem?_eq_getElem h]
theorem rdAt70 (l : List S61) (q : Nat) (h : q < l.length) : rd_T70 (l.map cv) (q : Int) = cv l[q] := by
  simp [rd_T70, List.getD_eq_getElem?_getD, List.getElem?_eq_getElem h]
theorem len_cv (l : List S61) : ((l.map cv).length : Int) = (l.length : Int) := by rw [List.length_map]
theorem own_from (l : List S70) (hl : l.length ≤ 140737488351232) : ∀ (d i : Nat), 40 - i ≤ d → i ≤ 40 → i ≤ l.length → Ev (fun k => ddilaw43_own.l0 k l ((l.take i).map cutG) (i : Int)) (ownT l)
  | d, i, hd, h4, hi => by
    have hstop : i = l.length ∨ i = 40 → Ev (fun k => ddilaw43_own.j1 k l ((l.take i).map cutG) (i : Int) false) (ownT l) := fun h => by
      refine Ev_shift 1 (f := fun _ => some (ownT l)) (fun k => ?_) (Ev_const rfl)
      rw [ddilaw43_own.j1, if_neg Bool.false_ne_true]
      unfold ownT
      rcases h with h | h
      · rw [List.take_of_length_le (by omega), List.take_of_length_le (by omega)]
      · rw [h]
    by_cases h : i < l.length
    · by_cases h40 : i < 40
      · cases d with
        | zero => exact absurd hd (by omega)
        | succ d =>
          have ih := own_from l hl d (i + 1) (by omega) (by omega) (by omega)
          have hx : rd_T70 l (i : Int) = l[i] := by simp [rd_T70, List.getD_eq_getElem?_getD, List.getElem?_eq_getElem h]
          obtain ⟨m0, m1, m2⟩ := (show 0 ≤ mn (l[i].f1.size : Int) 100 ∧ mn (l[i].f1.size : Int) 100 ≤ (l[i].f1.size : Int) ∧ (mn (l[i].f1.size : Int) 100).toNat = min l[i].f1.size 100 from mn_len' l[i].f1.size 100)
          have hlen : ((l.take i).map cutG).length < 2513169434916 := by rw [List.length_map, List.length_take]; omega
          rw [List.take_succ_eq_append_getElem h, List.map_append] at ih
          refine Ev_shift 2 (fun k => ?_) ih
          rw [ddilaw43_own.l0, if_pos (by omega), decide_eq_true (show (i : Int) < 40 by omega), ddilaw43_own.j1, if_pos rfl, if_pos (by omega), if_pos (by omega), hx, if_pos m0, if_pos m1, if_pos hlen, next i l.length h (by omega), m2]
          rfl
      · exact Ev_shift 1 (fun k => by rw [ddilaw43_own.l0, if_pos (by omega), decide_eq_false (show ¬ (i : Int) < 40 by omega)]) (hstop (.inr (by omega)))
    · exact Ev_shift 1 (fun k => by rw [ddilaw43_own.l0, if_neg (by omega)]) (hstop (.inl (by omega)))
theorem own_ev (l : List S70) (hl : l.length ≤ 140737488351232) : Ev (fun k => ddilaw43_own.f k l) (ownT l) := by
  unfold ddilaw43_own.f
  exact own_from l hl 40 0 (by omega) (by omega) (by omega)
theorem few_from (l : List S61) (hl : l.length ≤ 40) : ∀ (r : List S61) (i : Nat), l.drop i = r → Ev (fun k => ddilaw43_few.l0 k ((l.take i).map cv) l (l.length : Int) (i : Int)) (l.map cv)
  | [], i, h => by
    have := drop_end h
    refine Ev_shift 1 (f := fun _ => some (l.map cv)) (fun k => ?_) (Ev_const rfl)
    rw [ddilaw43_few.l0, if_neg (by omega), List.take_of_length_le (by omega)]
  | x :: r, i, h => by
    obtain ⟨hi, hx, hr⟩ := rd61 l i x r h
    have hxi : l[i] = x := (drop_at h).2.1
    have ih := few_from l hl r (i + 1) hr
    have hlen : ((l.take i).map cv).length < 2513169434916 := by rw [List.length_map, List.length_take]; omega
    rw [List.take_succ_eq_append_getElem hi, List.map_append, hxi] at ih
    refine Ev_shift 1 (fun k => ?_) ih
    rw [ddilaw43_few.l0, if_pos (by omega), if_pos (by omega), if_pos (by omega), if_pos hlen, next i l.length hi (by omega), hx]
    rfl
theorem ownT_len (l : List S70) : (ownT l).length ≤ 40 := by
  unfold ownT
  rw [List.length_map, List.length_take]
  omega
theorem few_ev (l : List S70) (hl : l.length ≤ 140737488351232) : Ev (fun k => ddilaw43_few.f k l) ((ownT l).map cv) := by
  unfold ddilaw43_few.f
  refine Ev.bind (own_ev l hl) ?_
  exact few_from (ownT l) (ownT_len l) (ownT l) 0 rfl
theorem ext_self (s : ByteArray) (n : Nat) (h : s.size ≤ n) : s.extract 0 n = s := by
  apply data_inj
  rw [data_ext]
  simp only [List.drop_zero, Nat.sub_zero]
  exact List.take_of_length_le (by rw [← size_data]; exact h)
theorem cut_cv (x : S61) (h : x.f1.size ≤ 100) : cutG (cv x) = x := by
  obtain ⟨a, b, c⟩ := x
  simp only [cutG, cv]
  rw [ext_self b _ (by simp only at h; omega)]
theorem cut_size (x : S70) : (cutG x).f1.size ≤ 100 := by
  unfold cutG
  show (x.f1.extract 0 (min x.f1.size 100)).size ≤ 100
  rw [size_data, data_ext]
  simp
  omega
theorem ownT_own (l : List S70) : ownT ((ownT l).map cv) = ownT l := by
  have h1 := ownT_len l
  unfold ownT at h1 ⊢
  rw [List.take_of_length_le (by rw [List.length_map]; exact h1), List.map_map]
  rw [List.map_congr_left (g := id)]
  · rw [List.map_id]
  · intro x hx
    obtain ⟨y, _, rfl⟩ := List.mem_map.1 hx
    exact cut_cv (cutG y) (cut_size y)
theorem same_from (l : List S61) (hl : l.length ≤ 140737488351232) : ∀ (r : List S61) (i : Nat), l.drop i = r → Ev (fun k => ddilaw43_same.l0 k l (l.map cv) (l.length : Int) (i : Int)) true
  | [], i, h => by
    have := drop_end h
    exact Ev_shift 1 (f := fun _ => some true) (fun k => by rw [ddilaw43_same.l0, if_neg (by omega)]) (Ev_const rfl)
  | x :: r, i, h => by
    obtain ⟨hi, hx, hr⟩ := rd61 l i x r h
    have hx7 := rd70 l i x r h
    have ih := same_from l hl r (i + 1) hr
    refine Ev_shift 1 (fun k => ?_) ih
    rw [ddilaw43_same.l0, if_pos (by omega), if_pos (by omega), if_pos (by omega), len_cv, if_pos (by omega), hx, hx7, if_neg (by simp [cv]), next i l.length hi (by omega)]
theorem same_ev (l : List S61) (hl : l.length ≤ 140737488351232) : Ev (fun k => ddilaw43_same.f k l (l.map cv)) true := by
  unfold ddilaw43_same.f
  simp only [len_cv, if_true]
  exact same_from l hl l 0 rfl
def liveB (t : Int) (x : S61) : Bool := !decide (x.f2 ≤ t)
def expT (l : List S61) (t : Int) : List S61 := l.filter (liveB t)
theorem idx_from (l : List S61) (hl : l.length ≤ 140737488351232) (t : Int) : ∀ (r : List S61) (i : Nat), l.drop i = r → (l.take i).filter (liveB t) = l.take i → ∃ v : Int, Ev (fun k => slices_IndexFunc_45.l0 k l (l.length : Int) (i : Int) t) v ∧ ((v = -1 ∧ expT l t = l) ∨ ∃ j : Nat, v = (j : Int) ∧ j < l.length ∧ (l.take j).filter (liveB t) = l.take j ∧ (l.take (j + 1)).filter (liveB t) = l.take j)
  | [], i, h, hf => by
    have := drop_end h
    refine ⟨-1, Ev_shift 1 (f := fun _ => some (-1)) (fun k => by rw [slices_IndexFunc_45.l0, if_neg (by omega)]) (Ev_const rfl), .inl ⟨rfl, ?_⟩⟩
    rw [List.take_of_length_le this] at hf
    exact hf
  | x :: r, i, h, hf => by
    obtain ⟨hi, hx, hr⟩ := rd61 l i x r h
    have hxi : l[i] = x := (drop_at h).2.1
    by_cases hb : x.f2 ≤ t
    · refine ⟨(i : Int), Ev_shift 1 (f := fun _ => some (i : Int)) (fun k => ?_) (Ev_const rfl), .inr ⟨i, rfl, hi, hf, ?_⟩⟩
      · rw [slices_IndexFunc_45.l0, if_pos (by omega), if_pos (by omega), if_pos (by omega), hx, delegate_Expire_1.f, Option.bind_some, if_pos (decide_eq_true hb)]
      · rw [List.take_succ_eq_append_getElem hi, List.filter_append, hf, hxi, List.filter_cons, if_neg (by unfold liveB; rw [decide_eq_true hb]; decide), List.filter_nil, List.append_nil]
    · have hf2 : (l.take (i + 1)).filter (liveB t) = l.take (i + 1) := by
        rw [List.take_succ_eq_append_getElem hi, List.filter_append, hf, hxi, List.filter_cons, if_pos (by unfold liveB; rw [decide_eq_false hb]; rfl), List.filter_nil]
      obtain ⟨v, h1, h2⟩ := idx_from l hl t r (i + 1) hr hf2
      refine ⟨v, Ev_shift 1 (fun k => ?_) h1, h2⟩
      rw [slices_IndexFunc_45.l0, if_pos (by omega), if_pos (by omega), if_pos (by omega), hx, delegate_Expire_1.f, Option.bind_some, if_neg (by rw [decide_eq_false hb]; decide), next i l.length hi (by omega)]
/-- In place: the first n are what lives of the first j of l; from j on all is as it was. -/
theorem del_from (l : List S61) (hl : l.length ≤ 140737488351232) (t : Int) : ∀ (r : List S61) (j : Nat) (m : List S61) (n : Nat), l.drop j = r → m.length = l.length → n = ((l.take j).filter (liveB t)).length → m.take n = (l.take j).filter (liveB t) → m.drop j = r → Ev (fun k => slices_DeleteFunc_45.l0 k m (n : Int) (j : Int) t) (expT l t)
  | [], j, m, n, h, hm, hn, ht, _ => by
    have := drop_end h
    refine Ev_shift 1 (f := fun _ => some (expT l t)) (fun k => ?_) (Ev_const rfl)
    have hnl : n ≤ m.length := by
      have h3 := List.length_filter_le (liveB t) (l.take j)
      rw [List.length_take] at h3
      omega
    rw [slices_DeleteFunc_45.l0, if_neg (by omega), if_pos (by omega), if_pos (by omega), Int.toNat_natCast, List.take_left' (by rw [List.length_take]; omega), ht, List.take_of_length_le this]
    rfl
  | x :: r, j, m, n, h, hm, hn, ht, hd => by
    obtain ⟨hj, hx, hr⟩ := rd61 m j x r hd
    obtain ⟨hjl, hxl, hrl⟩ := drop_at h
    have hnj : n ≤ j := by
      have h3 := List.length_filter_le (liveB t) (l.take j)
      rw [List.length_take] at h3
      omega
    by_cases hb : x.f2 ≤ t
    · have ht2 : m.take n = (l.take (j + 1)).filter (liveB t) := by
        rw [List.take_succ_eq_append_getElem hjl, List.filter_append, ht, hxl, List.filter_cons, if_neg (by unfold liveB; rw [decide_eq_true hb]; decide), List.filter_nil, List.append_nil]
      have ih := del_from l hl t r (j + 1) m n hrl hm (by rw [← ht2, ht]; exact hn) ht2 hr
      refine Ev_shift 1 (fun k => ?_) ih
      rw [slices_DeleteFunc_45.l0, if_pos (by omega), if_pos (by omega), hx, delegate_Expire_1.f, Option.bind_some, if_pos (decide_eq_true hb), next j m.length hj (by omega)]
    · have hnm : n < m.length := by omega
      have ht2 : (m.set n x).take (n + 1) = (l.take (j + 1)).filter (liveB t) := by
        rw [List.take_succ_eq_append_getElem hjl, List.filter_append, ← ht, hxl, List.filter_cons, if_pos (by unfold liveB; rw [decide_eq_false hb]; rfl), List.filter_nil, List.take_succ_eq_append_getElem (by rw [List.length_set]; exact hnm), List.getElem_set_self, List.take_set_of_le (Nat.le_refl n)]
      have hd2 : (m.set n x).drop (j + 1) = r := by
        rw [List.drop_set_of_lt (by omega)]
        exact hr
      have ih := del_from l hl t r (j + 1) (m.set n x) (n + 1) hrl (by rw [List.length_set]; exact hm) (by rw [← ht2, List.length_take, List.length_set]; omega) ht2 hd2
      refine Ev_shift 1 (fun k => ?_) ih
      rw [slices_DeleteFunc_45.l0, if_pos (by omega), if_pos (by omega), hx, delegate_Expire_1.f, Option.bind_some, if_neg (by rw [decide_eq_false hb]; decide), if_pos (by omega), if_pos (by omega), next j m.length hj (by omega), next n m.length hnm (by omega), Int.toNat_natCast]
theorem exp_ev (l : List S61) (hl : l.length ≤ 1000000000) (t : Int) : Ev (fun k => delegate_Expire.f k l t) (expT l t) := by
  unfold delegate_Expire.f
  have hc : slices_Clone.f l = some l := by rw [slices_Clone.f, if_pos (by omega)]
  rw [hc]
  refine Ev.bind (a := l) (Ev_const rfl) ?_
  refine Ev.bind (?_ : Ev (fun k => slices_DeleteFunc_45.f k l t) (expT l t)) (Ev_const rfl)
  unfold slices_DeleteFunc_45.f slices_IndexFunc_45.f
  obtain ⟨v, h1, h2⟩ := idx_from l (by omega) t l 0 rfl (by simp)
  refine Ev.bind h1 ?_
  rcases h2 with ⟨rfl, he⟩ | ⟨j, rfl, hj, hf, hf2⟩
  · simp only [if_true]
    rw [he]
    exact Ev_const rfl
  · have hne : ¬ (j : Int) = -1 := by omega
    simp only [if_neg hne]
    rw [next j l.length hj (by omega)]
    exact del_from l (by omega) t (l.drop (j + 1)) (j + 1) l j rfl rfl (by rw [hf2, List.length_take]; omega) hf2.symm rfl
theorem rexp_from (l : List S61) (hl : l.length ≤ 1000000000) (t : Int) : ∀ (r : List S61) (i : Nat), l.drop i = r → Ev (fun k => ddiref43_Expire.l0 k (l.map cv) t (((l.take i).filter (liveB t)).map cv) (i : Int)) ((expT l t).map cv)
  | [], i, h => by
    have := drop_end h
    refine Ev_shift 1 (f := fun _ => some ((expT l t).map cv)) (fun k => ?_) (Ev_const rfl)
    rw [ddiref43_Expire.l0, len_cv, if_neg (by omega), List.take_of_length_le this]
    rfl
  | x :: r, i, h => by
    obtain ⟨hi, hxi, hr⟩ := drop_at h
    have hx7 := rd70 l i x r h
    have ih := rexp_from l hl t r (i + 1) hr
    have hlen : (((l.take i).filter (liveB t)).map cv).length < 2513169434916 := by
      have h3 := List.length_filter_le (liveB t) (l.take i)
      rw [List.length_take] at h3
      rw [List.length_map]
      omega
    rw [List.take_succ_eq_append_getElem hi, List.filter_append, hxi, List.filter_cons] at ih
    refine Ev_shift 1 (fun k => ?_) ih
    rw [ddiref43_Expire.l0, len_cv, if_pos (by omega), if_pos (by omega), hx7, next i l.length hi (by omega), show (cv x).f2 = x.f2 from rfl]
    by_cases hb : x.f2 ≤ t
    · rw [if_neg (by omega), if_neg (by unfold liveB; rw [decide_eq_true hb]; decide), List.filter_nil, List.append_nil]
    · rw [if_pos (by omega), if_pos hlen, if_pos (by unfold liveB; rw [decide_eq_false hb]; rfl), List.filter_nil, List.map_append]
      rfl
theorem rexp_ev (l : List S61) (hl : l.length ≤ 1000000000) (t : Int) : Ev (fun k => ddiref43_Expire.f k (l.map cv) t) ((expT l t).map cv) := by
  unfold ddiref43_Expire.f
  exact rexp_from l hl t l 0 rfl
def routT (a : S24) (t : Int) : List S61 → ByteArray × Bool
  | [] => (⟨#[]⟩, false)
  | x :: r => if (decide (t < x.f2) && pcB x.f0 a) = true then (x.f1, true) else routT a t r
theorem rout_from (l : List S61) (hl : l.length ≤ 140737488351232) (a : S24) (t : Int) : ∀ (r : List S61) (i : Nat), l.drop i = r → Ev (fun k => delegate_Route.l0 k t l (l.length : Int) (i : Int) a.f0 a.f1 a.f2) (routT a t r)
  | [], i, h => by
    have := drop_end h
    exact Ev_shift 1 (f := fun _ => some (⟨#[]⟩, false)) (fun k => by rw [delegate_Route.l0, if_neg (by omega)]) (Ev_const rfl)
  | x :: r, i, h => by
    obtain ⟨hi, hx, hr⟩ := rd61 l i x r h
    have ih := rout_from l hl a t r (i + 1) hr
    have hj : ∀ b : Bool, Ev (fun k => delegate_Route.j1 k t l (l.length : Int) (i : Int) b a.f0 a.f1 a.f2 x.f0.f0.f0 x.f0.f0.f1 x.f0.f0.f2 x.f0.f1 x.f1 x.f2) (if b = true then (x.f1, true) else routT a t r) := fun b => by
      cases b with
      | true => exact Ev_shift 1 (f := fun _ => some (x.f1, true)) (fun k => by rw [delegate_Route.j1, if_pos rfl]) (Ev_const rfl)
      | false => exact Ev_shift 1 (fun k => by rw [delegate_Route.j1, if_neg Bool.false_ne_true, next i l.length hi (by omega)]) ih
    unfold routT
    by_cases hc : t < x.f2
    · rw [decide_eq_true hc, Bool.true_and]
      refine Ev_shift 1 (fun k => by rw [delegate_Route.l0, if_pos (by omega), if_pos (by omega), if_pos (by omega), hx, if_pos hc]) ?_
      exact Ev.bind (contains_pfx x.f0 a) (hj (pcB x.f0 a))
    · rw [decide_eq_false hc, Bool.false_and]
      exact Ev_shift 1 (fun k => by rw [delegate_Route.l0, if_pos (by omega), if_pos (by omega), if_pos (by omega), hx, if_neg hc]) (hj false)
theorem rout_ev (l : List S61) (hl : l.length ≤ 140737488351232) (a : S24) (t : Int) : Ev (fun k => delegate_Route.f k l a.f0 a.f1 a.f2 t) (routT a t l) := by
  unfold delegate_Route.f
  exact rout_from l hl a t l 0 rfl
theorem rrout_from (l : List S61) (hl : l.length ≤ 140737488351232) (a : S24) (ha : uA a) (t : Int) : ∀ (r : List S61) (i : Nat), l.drop i = r → Ev (fun k => ddiref43_Route.l0 k (l.map cv) t (i : Int) a.f0 a.f1 a.f2) (routT a t r)
  | [], i, h => by
    have := drop_end h
    exact Ev_shift 1 (f := fun _ => some (⟨#[]⟩, false)) (fun k => by rw [ddiref43_Route.l0, len_cv, if_neg (by omega)]) (Ev_const rfl)
  | x :: r, i, h => by
    obtain ⟨hi, hxi, hr⟩ := drop_at h
    have hx := rd70 l i x r h
    have ih := rrout_from l hl a ha t r (i + 1) hr
    have hj : ∀ b : Bool, Ev (fun k => ddiref43_Route.j1 k (l.map cv) t (i : Int) b a.f0 a.f1 a.f2) (if b = true then (x.f1, true) else routT a t r) := fun b => by
      cases b with
      | true => exact Ev_shift 1 (f := fun _ => some (x.f1, true)) (fun k => by rw [ddiref43_Route.j1, if_pos rfl, if_pos (by omega), len_cv, if_pos (by omega), hx]; rfl) (Ev_const rfl)
      | false => exact Ev_shift 1 (fun k => by rw [ddiref43_Route.j1, if_neg Bool.false_ne_true, next i l.length hi (by omega)]) ih
    unfold routT
    by_cases hc : t < x.f2
    · rw [decide_eq_true hc, Bool.true_and]
      refine Ev_shift 1 (fun k => by rw [ddiref43_Route.l0, len_cv, if_pos (by omega), if_pos (by omega), hx, if_pos (show t < (cv x).f2 from hc)]) ?_
      exact Ev.bind (rcontains_pfx x.f0 a ha) (hj (pcB x.f0 a))
    · rw [decide_eq_false hc, Bool.false_and]
      exact Ev_shift 1 (fun k => by rw [ddiref43_Route.l0, len_cv, if_pos (by omega), if_pos (by omega), hx, if_neg (show ¬ t < (cv x).f2 from hc)]) (hj false)
theorem rrout_ev (l : List S61) (hl : l.length ≤ 140737488351232) (a : S24) (ha : uA a) (t : Int) : Ev (fun k => ddiref43_Route.f k (l.map cv) a.f0 a.f1 a.f2 t) (routT a t l) := by
  unfold ddiref43_Route.f
  exact rrout_from l hl a ha t l 0 rfl
end Go.Proofs.Ythjngcjhjnigjaa.Ma
