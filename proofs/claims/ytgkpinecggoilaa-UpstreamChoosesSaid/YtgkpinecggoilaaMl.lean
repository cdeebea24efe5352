/- UpstreamKnows: the pure statement (chapter 32). -/
import Derived.Test.YtgkpinecggoilaaQAd4
import Derived.Test.YtgkpinecggoilaaMk
namespace Go.Proofs.Ytgkpinecggoilaa.Ma
open Go.RowKit Go.Proofs.YtgkpinecggoilaaW.PrintWords Go.Proofs.YtgkpinecggoilaaW.PrintLast Go.Proofs.YtgkpinecggoilaaW.PrintMore Go.Proofs.Ytgkpinecggoilaa.XP Go.Proofs.Ytgkpinecggoilaa.Cm Go.Proofs.Ytgkpinecggoilaa.QA
set_option linter.unusedVariables false
set_option linter.unusedSimpArgs false
/-- The peers rise by their addresses. -/
def up (l : List S34) : Prop := l.Pairwise fun p q => cmp p.f0 q.f0 < 0
theorem rep_mem (q : S34 → Bool) (p : S34) : ∀ (l : List S34) (y : S34), y ∈ rep q p l → y = p ∨ y ∈ l
  | [], _, h => by cases h
  | x :: r, y, h => by
    rw [rep] at h
    split at h
    · rcases List.mem_cons.1 h with h | h
      · exact Or.inl h
      · exact Or.inr (List.mem_cons_of_mem _ h)
    · rcases List.mem_cons.1 h with h | h
      · exact Or.inr (h ▸ List.mem_cons_self ..)
      · rcases rep_mem q p r y h with h | h
        · exact Or.inl h
        · exact Or.inr (List.mem_cons_of_mem _ h)
theorem ins_mem (q : S34 → Bool) (p : S34) : ∀ (l : List S34) (y : S34), y ∈ ins q p l → y = p ∨ y ∈ l
  | [], _, h => by rw [ins] at h; exact Or.inl (by simpa using h)
  | x :: r, y, h => by
    rw [ins] at h
    split at h
    · rcases List.mem_cons.1 h with h | h
      · exact Or.inl h
      · exact Or.inr h
    · rcases List.mem_cons.1 h with h | h
      · exact Or.inr (h ▸ List.mem_cons_self ..)
      · rcases ins_mem q p r y h with h | h
        · exact Or.inl h
        · exact Or.inr (List.mem_cons_of_mem _ h)
theorem rep_up (p : S34) : ∀ l : List S34, up l → up (rep (qa p.f0) p l)
  | [], h => h
  | x :: r, h => by
    obtain ⟨h1, h2⟩ := List.pairwise_cons.1 h
    rw [rep]
    split
    · rename_i hq
      have e := (qa_iff _ _).1 hq
      exact List.pairwise_cons.2 ⟨fun y hy => by rw [← e]; exact h1 y hy, h2⟩
    · rename_i hq
      refine List.pairwise_cons.2 ⟨fun y hy => ?_, rep_up p r h2⟩
      rcases rep_mem _ _ _ _ hy with hy | hy
      · subst hy
        by_cases hr : ∃ z ∈ r, z.f0 = y.f0
        · obtain ⟨z, hz, e⟩ := hr
          rw [← e]
          exact h1 z hz
        · have : rep (qa y.f0) y r = r := by
            have : ∀ l : List S34, (¬ ∃ z ∈ l, z.f0 = y.f0) → rep (qa y.f0) y l = l := by
              intro l
              induction l with
              | nil => intro _; rfl
              | cons x l ih =>
                intro hn
                rw [rep, if_neg, ih (fun ⟨z, hz, e⟩ => hn ⟨z, List.mem_cons_of_mem _ hz, e⟩)]
                intro e
                exact hn ⟨x, List.mem_cons_self .., (qa_iff _ _).1 e⟩
            exact this r hr
          rw [this] at hy
          exact h1 y hy
      · exact h1 y hy
theorem ins_up (p : S34) : ∀ l : List S34, up l → l.find? (qa p.f0) = none → up (ins (gt p.f0) p l)
  | [], _, _ => List.pairwise_singleton _ _
  | x :: r, h, hn => by
    obtain ⟨h1, h2⟩ := List.pairwise_cons.1 h
    have hx : ¬ qa p.f0 x = true := by
      intro e
      rw [List.find?_cons_of_pos e] at hn
      cases hn
    rw [List.find?_cons_of_neg hx] at hn
    have hne : cmp x.f0 p.f0 ≠ 0 := fun e => hx ((qa_iff _ _).2 ((cmp_zero _ _).1 e))
    rw [ins]
    split
    · rename_i hg
      have hg' : cmp x.f0 p.f0 > 0 := by simpa [gt] using hg
      have hpx : cmp p.f0 x.f0 < 0 := by rw [cmp_flip]; omega
      refine List.pairwise_cons.2 ⟨fun y hy => ?_, h⟩
      rcases List.mem_cons.1 hy with hy | hy
      · rw [hy]; exact hpx
      · exact cmp_trans hpx (h1 y hy)
    · rename_i hg
      have hg' : ¬ cmp x.f0 p.f0 > 0 := by simpa [gt] using hg
      refine List.pairwise_cons.2 ⟨fun y hy => ?_, ins_up p r h2 hn⟩
      rcases ins_mem _ _ _ _ hy with hy | hy
      · rw [hy]; omega
      · exact h1 y hy
theorem stored_up (l : List S34) (p : S34) (hl : l.length < 256) (h : up l) : up (stored l p) := by
  unfold stored
  rw [fi_find]
  split
  · exact rep_up p l h
  · rename_i hn
    rw [if_neg (by omega)]
    exact ins_up p l h (by simpa using hn)
theorem acts_up : ∀ (xs : List S27) (l : List S34), up l → l.length + xs.length < 256 → up (xs.foldl act l)
  | [], _, h, _ => h
  | x :: r, l, h, hl => by
    have h2 := act_len l x
    simp only [List.length_cons] at hl
    rw [List.foldl_cons]
    exact acts_up r (act l x) (by rw [act_nx]; exact stored_up _ _ (by omega) h) (by omega)
theorem rd27 (l : List S27) (i : Nat) (h : i < l.length) : rd_T27 l (i : Int) = l[i] := by
  simp [rd_T27, List.getD_eq_getElem?_getD, List.getElem?_eq_getElem h]
theorem play_from (acts : List S27) (hl : acts.length < 2932031007402) : ∀ (r : List S27) (i : Nat) (l : List S34), acts.drop i = r → l.length ≤ i → i ≤ 60 →
    Ev (fun k => ddilaw32_play.l0 k acts (l.map c2) (i : Int)) (((r.take (60 - i)).foldl act l).map c2)
  | [], i, l, h, _, _ => by
    have := drop_end h
    refine Ev_shift 2 (f := fun _ => some (l.map c2)) (fun k => ?_) (Ev_const (by simp))
    rw [ddilaw32_play.l0, if_neg (by omega), ddilaw32_play.j1, if_neg (by decide)]
  | x :: r, i, l, h, hli, h60 => by
    obtain ⟨hi, hx, hr⟩ := drop_at h
    rcases Nat.lt_or_ge i 60 with h6 | h6
    · have ih := play_from acts hl r (i + 1) (act l x) hr (by have := act_len l x; omega) (by omega)
      rw [show 60 - i = (60 - (i + 1)) + 1 by omega, List.take_succ_cons, List.foldl_cons]
      refine Ev_shift 2 (fun k => by rw [ddilaw32_play.l0, if_pos (by omega), ddilaw32_play.j1, if_pos (decide_eq_true (by omega)), if_pos (by omega), if_pos (by omega), rd27 acts i hi, hx]) ?_
      unfold act at ih ⊢
      by_cases hb : x.f1 = true
      · simp only [hb, if_true] at ih ⊢
        exact Ev.bind (ubad_ev l (by omega) x.f0 x.f3) (Ev.congr (fun k => by rw [next i acts.length hi (by omega)]) ih)
      · simp only [hb, Bool.false_eq_true, if_false] at ih ⊢
        exact Ev.bind (ugood_ev l (by omega) x.f0 x.f2) (Ev.congr (fun k => by rw [next i acts.length hi (by omega)]) ih)
    · have e6 : i = 60 := by omega
      subst e6
      refine Ev_shift 2 (f := fun _ => some (l.map c2)) (fun k => ?_) (Ev_const (by simp))
      rw [ddilaw32_play.l0, if_pos (by omega), ddilaw32_play.j1, if_neg (by decide)]
theorem play_ev (acts : List S27) (hl : acts.length < 2932031007402) : Ev (fun k => ddilaw32_play.f k acts) (((acts.take 60).foldl act []).map c2) := play_from acts hl acts 0 [] rfl (by simp) (by omega)
theorem rises (acts : List S27) (n : Int) (all : List S34) (hl : all.length < 1000) (hu : up all) (hend : ∀ i : Nat, all.length ≤ i → Ev (fun k => ddilaw32_UpstreamKnows.l0 k acts n (all.map c2) (i : Int)) true) :
    ∀ (d i : Nat), 1 ≤ i → all.length - i = d → Ev (fun k => ddilaw32_UpstreamKnows.l0 k acts n (all.map c2) (i : Int)) true := by
  have hlm : (all.map c2).length = all.length := List.length_map _
  intro d
  induction d with
  | zero => intro i h1 hd; exact hend i (by omega)
  | succ d ih =>
    intro i h1 hd
    have hi : i < all.length := by omega
    have hi' : i - 1 < all.length := by omega
    have e1 : wrap64 ((i : Int) - 1) = ((i - 1 : Nat) : Int) := by rw [wrap_id (by omega) (by omega)]; omega
    have hc : cmp all[i - 1].f0 all[i].f0 < 0 := List.pairwise_iff_getElem.1 hu (i - 1) i hi' hi (by omega)
    refine Ev_shift 1 (fun k => by rw [ddilaw32_UpstreamKnows.l0, if_pos (by omega), e1, if_pos (by omega), if_pos (by omega), if_pos (by omega), rd35 all i hi, rd35 all (i - 1) hi']) ?_
    refine Ev.bind (ucmp all[i - 1].f0 all[i].f0) ?_
    simp only [if_neg (show ¬ cmp all[i - 1].f0 all[i].f0 ≥ 0 by omega), next i all.length hi (by omega)]
    exact ih (i + 1) (by omega) (by omega)
theorem collect (acts : List S27) (hl : acts.length < 2932031007402) (a : S25) (all : List S35)
    (hend : Ev (fun k => ddilaw32_UpstreamKnows.j2 k acts all ((acts.take 60).filter fun x => ea x.f0 a) 60 false a.f0 a.f1 a.f2) true)
    (hall : ∀ i : Int, (fun k => ddilaw32_UpstreamKnows.j2 k acts all ((acts.take 60).filter fun x => ea x.f0 a) i false a.f0 a.f1 a.f2) = (fun k => ddilaw32_UpstreamKnows.j2 k acts all ((acts.take 60).filter fun x => ea x.f0 a) 60 false a.f0 a.f1 a.f2)) :
    ∀ (r : List S27) (i : Nat) (own : List S27), acts.drop i = r → own.length ≤ i → i ≤ 60 → own ++ ((r.take (60 - i)).filter fun x => ea x.f0 a) = (acts.take 60).filter (fun x => ea x.f0 a) →
    Ev (fun k => ddilaw32_UpstreamKnows.l1 k acts all own (i : Int) a.f0 a.f1 a.f2) true
  | [], i, own, h, _, _, ho => by
    have := drop_end h
    have e : own = (acts.take 60).filter fun x => ea x.f0 a := by simpa using ho
    refine Ev_shift 1 (f := fun k => ddilaw32_UpstreamKnows.j2 k acts all own (i : Int) false a.f0 a.f1 a.f2) (fun k => ?_) ?_
    · rw [ddilaw32_UpstreamKnows.l1, if_neg (by omega)]
    · rw [e, hall]; exact hend
  | x :: r, i, own, h, hoi, h60, ho => by
    obtain ⟨hi, hx, hr⟩ := drop_at h
    rcases Nat.lt_or_ge i 60 with h6 | h6
    · rw [show 60 - i = (60 - (i + 1)) + 1 by omega, List.take_succ_cons] at ho
      by_cases hq : ea x.f0 a = true
      · rw [List.filter_cons_of_pos (p := fun x : S27 => ea x.f0 a) hq] at ho
        have ih := collect acts hl a all hend hall r (i + 1) (own ++ [x]) hr (by simp; omega) (by omega) (by rw [List.append_assoc]; exact ho)
        refine Ev_shift 2 (fun k => ?_) ih
        rw [ddilaw32_UpstreamKnows.l1, if_pos (by omega), ddilaw32_UpstreamKnows.j2, if_pos (decide_eq_true (by omega)), if_pos (by omega), if_pos (by omega), rd27 acts i hi, hx, if_pos (show own.length < 2932031007402 by omega), next i acts.length hi (by omega)]
        exact if_pos hq
      · rw [List.filter_cons_of_neg (p := fun x : S27 => ea x.f0 a) hq] at ho
        have ih := collect acts hl a all hend hall r (i + 1) own hr (by omega) (by omega) ho
        refine Ev_shift 2 (fun k => ?_) ih
        rw [ddilaw32_UpstreamKnows.l1, if_pos (by omega), ddilaw32_UpstreamKnows.j2, if_pos (decide_eq_true (by omega)), if_pos (by omega), if_pos (by omega), rd27 acts i hi, hx, next i acts.length hi (by omega)]
        exact if_neg hq
    · have e6 : i = 60 := by omega
      subst e6
      have e : own = (acts.take 60).filter fun x => ea x.f0 a := by simpa using ho
      refine Ev_shift 1 (f := fun k => ddilaw32_UpstreamKnows.j2 k acts all own ((60 : Nat) : Int) false a.f0 a.f1 a.f2) (fun k => ?_) ?_
      · rw [ddilaw32_UpstreamKnows.l1, if_pos (by omega)]
        rfl
      · rw [e, hall]; exact hend
theorem upstreamKnows : ddilaw32_UpstreamKnows.Pure := by
  intro acts n hacts hn
  have hal : acts.length < 2932031007402 := by omega
  have hn' := wf_u8 hn
  refine Ev.rounds (?_ : Ev (fun k => ddilaw32_UpstreamKnows.f k acts n) true)
  unfold ddilaw32_UpstreamKnows.f
  refine Ev.bind (play_ev acts hal) ?_
  have ht : (acts.take 60).length ≤ 60 := by rw [List.length_take]; omega
  have hlen : ((acts.take 60).foldl act []).length ≤ 60 := by have := acts_len (acts.take 60) []; simp only [List.length_nil] at this; omega
  have hup : up ((acts.take 60).foldl act []) := acts_up _ _ List.Pairwise.nil (by simp only [List.length_nil]; omega)
  have hfind := acts_find
  generalize hall : (acts.take 60).foldl act [] = all at hlen hup
  refine rises acts n all (by omega) hup ?_ (all.length - 1) 1 (by omega) (by omega)
  intro i hi
  have hlm : (all.map c2).length = all.length := List.length_map _
  refine Ev_shift 1 (fun k => by rw [ddilaw32_UpstreamKnows.l0, if_neg (by omega)]) ?_
  by_cases h0 : acts = []
  · subst h0
    have e : all = [] := by rw [← hall]; rfl
    subst e
    simp only [List.length_nil, List.map_nil, Int.ofNat_zero, if_true]
    exact Ev.bind awake_ev (Ev_const rfl)
  · have hpos : 0 < acts.length := List.length_pos_iff.2 h0
    have hm := mn_len' acts.length 60
    simp only [show ((60 : Nat) : Int) = 60 from rfl] at hm
    have hme : mn (acts.length : Int) 60 = ((min acts.length 60 : Nat) : Int) := mn_len acts.length 60
    have hw : wrap64 n = n := wrap_id (by omega) (by omega)
    obtain ⟨j, hj, hj2⟩ : ∃ j : Nat, Int.tmod n (mn (acts.length : Int) 60) = (j : Int) ∧ j < min acts.length 60 := by
      rw [hme, Int.tmod_eq_emod_of_nonneg hn'.1]
      have h1 := Int.emod_nonneg n (b := ((min acts.length 60 : Nat) : Int)) (by omega)
      have h2 := Int.emod_lt_of_pos n (b := ((min acts.length 60 : Nat) : Int)) (by omega)
      exact ⟨(n % ((min acts.length 60 : Nat) : Int)).toNat, by omega, by omega⟩
    have hjl : j < acts.length := by omega
    simp only [hw, hj, if_neg (show ¬ (acts.length : Int) = 0 by omega), if_neg (show ¬ mn (acts.length : Int) 60 = 0 by omega), if_pos (show (0 : Int) ≤ (j : Int) by omega), if_pos (show (j : Int) < (acts.length : Int) by omega), rd27 acts j hjl]
    generalize ha : acts[j].f0 = a
    have hmem : acts[j] ∈ (acts.take 60).filter fun x => ea x.f0 a := by
      rw [List.mem_filter]
      refine ⟨?_, (ea_iff _ _).2 ha⟩
      rw [List.mem_iff_getElem]
      exact ⟨j, by rw [List.length_take]; omega, by rw [List.getElem_take]⟩
    have hown : ∀ x ∈ (acts.take 60).filter (fun x => ea x.f0 a), x.f0 = a := fun x hx => (ea_iff _ _).1 (List.mem_filter.1 hx).2
    have hf : all.find? (qa a) = ((acts.take 60).filter fun x => ea x.f0 a).foldl (fun s x => some (nx s x)) none := by
      rw [← hall, acts_find a (acts.take 60) [] (by simp only [List.length_nil]; omega)]
      rfl
    have hone : ((acts.take 60).filter fun x => ea x.f0 a).foldl act [] = (((acts.take 60).filter fun x => ea x.f0 a).foldl (fun s x => some (nx s x)) none).elim [] fun p => [p] := own_acts a _ none hown (fun p e => by cases e)
    have holen : ((acts.take 60).filter fun x => ea x.f0 a).length ≤ 60 := Nat.le_trans (List.length_filter_le _ _) ht
    refine collect acts hal a (all.map c2) ?_ ?_ acts 0 [] rfl (by simp) (by omega) rfl
    · generalize hog : (acts.take 60).filter (fun x => ea x.f0 a) = own at hmem hown hf hone holen
      obtain ⟨p, hp⟩ : ∃ p, own.foldl (fun s x => some (nx s x)) none = some p := by
        have hex : ∀ (xs : List S27) (s : Option S34), (s.isSome = true ∨ xs ≠ []) → ∃ p, xs.foldl (fun s x => some (nx s x)) s = some p := by
          intro xs
          induction xs with
          | nil => intro s h; rcases h with h | h; exact Option.isSome_iff_exists.1 h; exact absurd rfl h
          | cons x r ih => intro s _; exact ih _ (Or.inl rfl)
        exact hex own none (Or.inr (List.ne_nil_of_mem hmem))
      rw [hp] at hf hone
      have hfine : fine p := fold_fine own none (fun q e => by cases e) p hp
      obtain ⟨f1, f2, f3, f4⟩ := hfine
      refine Ev_shift 1 (fun k => by rw [ddilaw32_UpstreamKnows.j2, if_neg (by decide)]) ?_
      have hpl := play_ev own (by omega)
      rw [List.take_of_length_le holen, hone] at hpl
      refine Ev.bind hpl ?_
      refine Ev.bind (ufind_ev all (by omega) a) ?_
      have hfo : found all a = p := by rw [found, hf]; rfl
      rw [hfo]
      simp only [Option.elim, List.map_cons, List.map_nil, List.length_cons, List.length_nil, tup, c2, rd_T35, Int.toNat_zero, List.getD_cons_zero, beq_self_eq_true, Bool.and_self, show p.f1 ≥ 1 from f1, f2, show p.f2 ≥ 0 from f3, f4, show ((0 + 1 : Nat) : Int) = 1 from rfl, show (0 : Int) < 1 by decide, if_true]
      exact Ev.bind awake_ev (Ev_const rfl)
    · intro i
      funext k
      cases k with
      | zero => rfl
      | succ k => rw [ddilaw32_UpstreamKnows.j2, ddilaw32_UpstreamKnows.j2, if_neg (by decide), if_neg (by decide)]
end Go.Proofs.Ytgkpinecggoilaa.Ma
