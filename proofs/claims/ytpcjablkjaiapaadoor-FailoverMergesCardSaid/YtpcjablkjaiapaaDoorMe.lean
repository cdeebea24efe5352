/- Tables: entries, insertion, order, the check again (as in chapter 38). -/
import Derived.Test.YtpcjablkjaiapaaDoorQAd1
import Derived.Test.YtpcjablkjaiapaaDoorQAd2
import Derived.Test.YtpcjablkjaiapaaDoorMd
namespace Go.Proofs.YtpcjablkjaiapaaDoor.Ma
open Go.RowKit Go.Proofs.YtpcjablkjaiapaaDoorW.PrintWords Go.Proofs.YtpcjablkjaiapaaDoorW.PrintLast Go.Proofs.YtpcjablkjaiapaaDoorW.PrintMore Go.Proofs.YtpcjablkjaiapaaDoor.XP Go.Proofs.YtpcjablkjaiapaaDoor.QA Go.Proofs.YtpcjablkjaiapaaDoor.Cm
set_option linter.unusedVariables false
set_option linter.unusedSimpArgs false
def ins (x : S27) (l : List S27) : List S27 := l.take (pos x.f0 l) ++ [x] ++ l.drop (pos x.f0 l)
theorem get_at (l : List S27) (hs : Srt l) (a : S25) (x : S27) (h : get a l = some x) : ∃ hp : pos a l < l.length, l[pos a l] = x ∧ x.f0 = a := by
  have hg := get_pos a l hs
  rw [h] at hg
  rcases Nat.lt_or_ge (pos a l) l.length with hp | hp
  · rw [List.getElem?_eq_getElem hp] at hg
    simp only [] at hg
    split at hg
    · rename_i he
      injection hg with hg
      exact ⟨hp, hg.symm, by rw [hg]; exact (ea_iff _ _).1 he⟩
    · cases hg
  · rw [List.getElem?_eq_none hp] at hg
    cases hg
def insR (x : S27) : List S27 → List S27
  | [] => [x]
  | y :: r => if cmp y.f0 x.f0 < 0 then y :: insR x r else x :: y :: r
theorem ins_insR (x : S27) : ∀ l : List S27, ins x l = insR x l
  | [] => rfl
  | y :: r => by
    have ih := ins_insR x r
    unfold ins at ih
    unfold ins insR pos
    split
    · rw [← ih]
      simp
    · rfl
theorem one_ad (x : S27) (h : one x = 0) : adB x.f0 = true := by
  unfold one at h
  split at h
  · assumption
  · cases h
theorem chk_of : ∀ (l : List S27) (p : Option S25), (∀ q, p = some q → ∀ x ∈ l, cmp q x.f0 < 0) → Srt l → (∀ x ∈ l, one x = 0) → chk p l = 0
  | [], _, _, _, _ => rfl
  | x :: r, p, hp, hs, ho => by
    obtain ⟨h1, h2⟩ := List.pairwise_cons.1 hs
    have h3 := ho x (List.mem_cons_self ..)
    have hu : upB p x.f0 = true := by
      cases p with
      | none => rfl
      | some q => exact decide_eq_true (hp q rfl x (List.mem_cons_self ..))
    unfold chk
    rw [if_pos (one_ad x h3), if_pos hu, if_pos h3]
    refine chk_of r (some x.f0) ?_ h2 (fun y hy => ho y (List.mem_cons_of_mem _ hy))
    rintro q hq y hy
    cases hq
    exact h1 y hy
theorem one_of {x : S27} (ha : adB x.f0 = true) (h2 : 1 ≤ x.f2) (h2' : x.f2 ≤ 5) (hc : cliB x.f1 = true) (h6 : timeB x.f6 = true) (h3 : timeB x.f3 = true) (h4 : timeB x.f4 = true) (h34 : x.f3 ≤ x.f4) (h5 : hostB x.f5 = true) : one x = 0 := by
  unfold one argB
  rw [if_pos ha, hc, h6, h3, h4, decide_eq_true h2, decide_eq_true h2', decide_eq_true h34, h5]
  rfl
end Go.Proofs.YtpcjablkjaiapaaDoor.Ma
