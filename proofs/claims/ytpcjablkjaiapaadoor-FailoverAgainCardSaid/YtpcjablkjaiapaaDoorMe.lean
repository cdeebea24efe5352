/- Tables: entries, insertion, order, the check again (as in chapter 38). -/
import Derived.Test.YtpcjablkjaiapaaDoorQAd1
import Derived.Test.YtpcjablkjaiapaaDoorMd
namespace Go.Proofs.YtpcjablkjaiapaaDoor.Ma
open Go.RowKit Go.Proofs.YtpcjablkjaiapaaDoorW.PrintWords Go.Proofs.YtpcjablkjaiapaaDoorW.PrintLast Go.Proofs.YtpcjablkjaiapaaDoorW.PrintMore Go.Proofs.YtpcjablkjaiapaaDoor.XP Go.Proofs.YtpcjablkjaiapaaDoor.QA Go.Proofs.YtpcjablkjaiapaaDoor.Cm
set_option linter.unusedVariables false
set_option linter.unusedSimpArgs false
def ins (x : S27) (l : List S27) : List S27 := l.take (pos x.f0 l) ++ [x] ++ l.drop (pos x.f0 l)
theorem get_mem (l : List S27) (hs : Srt l) (x : S27) (h : x ∈ l) : get x.f0 l = some x := by
  induction l with
  | nil => exact absurd h List.not_mem_nil
  | cons y r ih =>
    obtain ⟨h1, h2⟩ := List.pairwise_cons.1 hs
    unfold get
    rw [List.find?_cons]
    rcases List.mem_cons.1 h with rfl | hx
    · rw [ea_self]
    · have hne : ea y.f0 x.f0 = false := by
        rw [ea_ne]
        intro e
        have := h1 x hx
        rw [e, cmp_self] at this
        omega
      rw [hne]
      exact ih h2 hx
theorem get_at (l : List S27) (hs : Srt l) (a : S25) (x : S27) (h : get a l = some x) : ∃ hp : pos a l < l.length, l[pos a l] = x ∧ x.f0 = a := by
  have hg := get_pos a l hs
  rw [h] at hg
  rcases Nat.lt_or_ge (pos a l) l.length with hp | hp
  · rw [List.getElem?_eq_getElem hp] at hg
    simp only [] at hg
    split at hg
    · rename_i he
      injection hg with hg
      exact ⟨hp, hg.symm, by rw [hg]; exact (ea_iff _ _).1 he⟩
    · cases hg
  · rw [List.getElem?_eq_none hp] at hg
    cases hg
def insR (x : S27) : List S27 → List S27
  | [] => [x]
  | y :: r => if cmp y.f0 x.f0 < 0 then y :: insR x r else x :: y :: r
theorem ins_insR (x : S27) : ∀ l : List S27, ins x l = insR x l
  | [] => rfl
  | y :: r => by
    have ih := ins_insR x r
    unfold ins at ih
    unfold ins insR pos
    split
    · rw [← ih]
      simp
    · rfl
theorem get_none_ne (l : List S27) (a : S25) (h : (get a l).isSome = false) : ∀ y ∈ l, cmp y.f0 a ≠ 0 := by
  intro y hy he
  have h1 : get a l = none := by simpa using h
  unfold get at h1
  rw [List.find?_eq_none] at h1
  exact h1 y hy ((ea_iff _ _).2 ((cmp_zero _ _).1 he))
theorem chk_one : ∀ (l : List S27) (p : Option S25), chk p l = 0 → ∀ x ∈ l, one x = 0
  | [], _, _ => fun x hx => absurd hx List.not_mem_nil
  | x :: r, p, h => by
    unfold chk at h
    split at h
    · split at h
      · split at h
        · rename_i h3
          intro y hy
          rcases List.mem_cons.1 hy with rfl | hy
          · exact h3
          · exact chk_one r (some x.f0) h y hy
        · rename_i h3
          exact absurd h h3
      · cases h
    · cases h
theorem one_ad (x : S27) (h : one x = 0) : adB x.f0 = true := by
  unfold one at h
  split at h
  · assumption
  · cases h
theorem chk_of : ∀ (l : List S27) (p : Option S25), (∀ q, p = some q → ∀ x ∈ l, cmp q x.f0 < 0) → Srt l → (∀ x ∈ l, one x = 0) → chk p l = 0
  | [], _, _, _, _ => rfl
  | x :: r, p, hp, hs, ho => by
    obtain ⟨h1, h2⟩ := List.pairwise_cons.1 hs
    have h3 := ho x (List.mem_cons_self ..)
    have hu : upB p x.f0 = true := by
      cases p with
      | none => rfl
      | some q => exact decide_eq_true (hp q rfl x (List.mem_cons_self ..))
    unfold chk
    rw [if_pos (one_ad x h3), if_pos hu, if_pos h3]
    refine chk_of r (some x.f0) ?_ h2 (fun y hy => ho y (List.mem_cons_of_mem _ hy))
    rintro q hq y hy
    cases hq
    exact h1 y hy
structure Tab (l : List S27) : Prop where
  len : l.length ≤ 512
  srt : Srt l
  one : ∀ x ∈ l, one x = 0
  ok : ∀ x ∈ l, okS27 x
theorem tab_chk {l : List S27} (h : Tab l) : chkT l = 0 := by
  unfold chkT
  rw [if_neg (by have := h.len; omega)]
  exact chk_of l none (fun q hq => by cases hq) h.srt h.one
theorem chk_tab {l : List S27} (h : chkT l = 0) (ok : ∀ x ∈ l, okS27 x) : Tab l := by
  obtain ⟨h1, h2⟩ := chkT_zero l h
  refine ⟨h1, h2, ?_, ok⟩
  unfold chkT at h
  rw [if_neg (by omega)] at h
  exact chk_one l none h
theorem srt_map (l : List S27) : Srt l ↔ (l.map (·.f0)).Pairwise fun a b => cmp a b < 0 := by
  unfold Srt
  rw [List.pairwise_map]
theorem srt_same {l q : List S27} (h : q.map (·.f0) = l.map (·.f0)) (hs : Srt l) : Srt q := by
  rw [srt_map] at hs ⊢
  rw [h]
  exact hs
theorem set_map (l : List S27) (p : Nat) (h : p < l.length) (x : S27) (hx : x.f0 = (l[p]).f0) : (l.set p x).map (·.f0) = l.map (·.f0) := by
  apply List.ext_getElem
  · simp
  · intro i h1 h2
    simp only [List.getElem_map, List.getElem_set]
    split
    · rename_i he
      subst he
      exact hx
    · rfl
theorem insR_mem (x : S27) : ∀ (l : List S27) (z : S27), z ∈ insR x l ↔ z = x ∨ z ∈ l
  | [], z => by simp [insR]
  | y :: r, z => by
    unfold insR
    split
    · rw [List.mem_cons, insR_mem x r z, List.mem_cons]
      constructor
      · rintro (h | h | h)
        · exact .inr (.inl h)
        · exact .inl h
        · exact .inr (.inr h)
      · rintro (h | h | h)
        · exact .inr (.inl h)
        · exact .inl h
        · exact .inr (.inr h)
    · rw [List.mem_cons]
theorem insR_srt (x : S27) : ∀ (l : List S27), Srt l → (∀ y ∈ l, cmp y.f0 x.f0 ≠ 0) → Srt (insR x l)
  | [], _, _ => List.pairwise_singleton _ _
  | y :: r, hs, hn => by
    obtain ⟨h1, h2⟩ := List.pairwise_cons.1 hs
    have hy := hn y (List.mem_cons_self ..)
    unfold insR
    split
    · rename_i hc
      refine List.pairwise_cons.2 ⟨fun z hz => ?_, insR_srt x r h2 (fun z hz => hn z (List.mem_cons_of_mem _ hz))⟩
      rcases (insR_mem x r z).1 hz with rfl | hz
      · exact hc
      · exact h1 z hz
    · rename_i hc
      have hf := cmp_flip x.f0 y.f0
      have hlt : cmp x.f0 y.f0 < 0 := by omega
      refine List.pairwise_cons.2 ⟨fun z hz => ?_, hs⟩
      rcases List.mem_cons.1 hz with rfl | hz
      · exact hlt
      · exact cmp_trans hlt (h1 z hz)
theorem get_some_mem {l : List S27} {a : S25} {y : S27} (h : get a l = some y) : y ∈ l ∧ y.f0 = a := by
  unfold get at h
  have h2 := List.find?_some (p := fun x : S27 => ea x.f0 a) h
  exact ⟨List.mem_of_find?_eq_some h, (ea_iff _ _).1 h2⟩
theorem set_keep (l : List S27) (p : Nat) (hp : p < l.length) (x e : S27) (he : e ∈ l) (hne : e ≠ l[p]) : e ∈ l.set p x := by
  obtain ⟨j, hj, rfl⟩ := List.mem_iff_getElem.1 he
  have hjp : p ≠ j := by
    rintro rfl
    exact hne rfl
  refine List.mem_iff_getElem.2 ⟨j, by rw [List.length_set]; exact hj, ?_⟩
  rw [List.getElem_set_ne hjp]
theorem wf64 {n : Int} (h0 : -9223372036854775808 ≤ n) (h1 : n ≤ 9223372036854775807) : (Lit.int .i64 n).wf = true := by
  simp [Lit.wf, IntKind.min, IntKind.max, IntKind.signed, IntKind.bits]
  omega
theorem time_iff (t : Int) : timeB t = true ↔ 0 ≤ t ∧ t ≤ 4294967295 := by
  unfold timeB
  rw [Bool.and_eq_true, decide_eq_true_eq, decide_eq_true_eq]
theorem arg_parts {x : S27} (h : one x = 0) : (1 ≤ x.f2 ∧ x.f2 ≤ 5) ∧ cliB x.f1 = true ∧ timeB x.f6 = true ∧ timeB x.f3 = true ∧ timeB x.f4 = true ∧ x.f3 ≤ x.f4 ∧ hostB x.f5 = true := by
  unfold one at h
  split at h
  · split at h
    · split at h
      · rename_i h1 h2 h3
        unfold argB at h2
        simp only [Bool.and_eq_true, decide_eq_true_eq] at h2
        exact ⟨⟨h2.1, h2.2.1⟩, h2.2.2.1, h2.2.2.2.1, h2.2.2.2.2.1, h2.2.2.2.2.2.1, h2.2.2.2.2.2.2, h3⟩
      · cases h
    · cases h
  · cases h
theorem one_of {x : S27} (ha : adB x.f0 = true) (h2 : 1 ≤ x.f2) (h2' : x.f2 ≤ 5) (hc : cliB x.f1 = true) (h6 : timeB x.f6 = true) (h3 : timeB x.f3 = true) (h4 : timeB x.f4 = true) (h34 : x.f3 ≤ x.f4) (h5 : hostB x.f5 = true) : one x = 0 := by
  unfold one argB
  rw [if_pos ha, hc, h6, h3, h4, decide_eq_true h2, decide_eq_true h2', decide_eq_true h34, h5]
  rfl
theorem ok_of {x : S27} (ha : okS25 x.f0) (hc : x.f1.size ≤ 140737488351232) (hh : x.f5.size ≤ 140737488351232) (ho : one x = 0) : okS27 x := by
  obtain ⟨⟨h1, h2⟩, _, h6, h3, h4, _, _⟩ := arg_parts ho
  rw [time_iff] at h6 h3 h4
  exact ⟨ha, hc, wf64 (by omega) (by omega), wf64 (by omega) (by omega), wf64 (by omega) (by omega), hh, wf64 (by omega) (by omega)⟩
theorem mx_time {a b : Int} (ha : timeB a = true) (hb : timeB b = true) : timeB (mx a b) = true ∧ b ≤ mx a b := by
  unfold mx
  split
  · exact ⟨hb, Int.le_refl _⟩
  · exact ⟨ha, by omega⟩
end Go.Proofs.YtpcjablkjaiapaaDoor.Ma
