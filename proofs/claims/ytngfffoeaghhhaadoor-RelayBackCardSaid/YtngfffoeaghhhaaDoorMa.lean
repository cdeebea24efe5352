/- Messages and relay agents: Short, Same, Strip, Circuit, Insert, the program's and the reference's (no condition but the sizes). -/
import Derived.Test.YtngfffoeaghhhaaDoorQAd1
import Derived.Test.YtngfffoeaghhhaaDoorCopt
namespace Go.Proofs.YtngfffoeaghhhaaDoor.Ma
open Go.RowKit Go.Proofs.YtngfffoeaghhhaaDoorW.PrintWords Go.Proofs.YtngfffoeaghhhaaDoorW.PrintLast Go.Proofs.YtngfffoeaghhhaaDoorW.PrintMore Go.Proofs.YtngfffoeaghhhaaDoor.XP Go.Proofs.YtngfffoeaghhhaaDoor.QA Go.Proofs.YtngfffoeaghhhaaDoor.Cm
set_option linter.unusedVariables false
set_option linter.unusedSimpArgs false
def t27 (p : S27) : Int × Int × Int × ByteArray × Bool × Int × Int × Bool × Int × Int × Bool × Int × Int × Bool × List S59 :=
  (p.f0, p.f1, p.f2, p.f3, p.f4.f0, p.f4.f1, p.f4.f2, p.f5.f0, p.f5.f1, p.f5.f2, p.f6.f0, p.f6.f1, p.f6.f2, p.f7, p.f8)
def t27e (p : S27) (e : Int) : Int × Int × Int × ByteArray × Bool × Int × Int × Bool × Int × Int × Bool × Int × Int × Bool × List S59 × Int :=
  (p.f0, p.f1, p.f2, p.f3, p.f4.f0, p.f4.f1, p.f4.f2, p.f5.f0, p.f5.f1, p.f5.f2, p.f6.f0, p.f6.f1, p.f6.f2, p.f7, p.f8, e)
theorem mnl (n m : Nat) : 0 ≤ mn (n : Int) (m : Int) ∧ mn (n : Int) (m : Int) ≤ (n : Int) ∧ (mn (n : Int) (m : Int)).toNat = min n m := mn_len' n m
theorem toL (s : ByteArray) : s.toList = s.data.toList := ByteArray.toList_eq s
def cutO (n : Nat) (x : S59) : S59 := ⟨x.f0, x.f1.extract 0 (min x.f1.size n)⟩
def shortO (l : List S59) : List S59 := (l.take 40).map (cutO 1100)
def shortP (p : S27) : S27 := ⟨p.f0, p.f1, p.f2, p.f3.extract 0 (min p.f3.size 100), p.f4, p.f5, p.f6, p.f7, shortO p.f8⟩
theorem cut_size (n : Nat) (s : ByteArray) : (s.extract 0 (min s.size n)).size ≤ n := by
  rw [size_data, data_ext]
  simp
  omega
theorem short_from (l : List S59) (hl : l.length ≤ 140737488351232) : ∀ (r : List S59) (i : Nat) (q : List S59), l.drop i = r → q.length ≤ 40 → q.length = i → Ev (fun k => ddiref36_options.l0 k l q (i : Int)) (q ++ (r.take (40 - i)).map (cutO 1100))
  | [], i, q, h, _, hq => by
    have := drop_end h
    refine Ev_shift 2 (f := fun _ => some q) (fun k => ?_) (Ev_const (by simp))
    rw [ddiref36_options.l0, if_neg (by omega), ddiref36_options.j1]
    rfl
  | x :: r, i, q, h, h40, hq => by
    obtain ⟨hi, hx, hr⟩ := rdOpt l i x r h
    by_cases hc : i < 40
    · have ih := short_from l hl r (i + 1) (q ++ [cutO 1100 x]) hr (by simp; omega) (by simp; omega)
      have h1 : 0 ≤ mn (x.f1.size : Int) 1100 := (mnl x.f1.size 1100).1
      have h2 : mn (x.f1.size : Int) 1100 ≤ (x.f1.size : Int) := (mnl x.f1.size 1100).2.1
      have h3 : (mn (x.f1.size : Int) 1100).toNat = min x.f1.size 1100 := (mnl x.f1.size 1100).2.2
      have e : (List.take (40 - i) (x :: r)) = x :: r.take (40 - (i + 1)) := by
        rw [show 40 - i = (40 - (i + 1)) + 1 by omega, List.take_succ_cons]
      rw [e, List.map_cons]
      rw [List.append_assoc, List.singleton_append] at ih
      refine Ev_shift 2 (fun k => ?_) ih
      rw [ddiref36_options.l0, if_pos (by omega), decide_eq_true (show (i : Int) < 40 by omega), ddiref36_options.j1, if_pos rfl, if_pos (by omega), if_pos (by omega), hx, if_pos h1, if_pos h2, if_pos (by omega), next i l.length hi (by omega)]
      rw [h3]
      rfl
    · refine Ev_shift 2 (f := fun _ => some q) (fun k => ?_) (Ev_const (by rw [show 40 - i = 0 by omega]; simp))
      rw [ddiref36_options.l0, if_pos (by omega), decide_eq_false (show ¬ (i : Int) < 40 by omega), ddiref36_options.j1]
      rfl
theorem short_ev (p : S27) (hl : p.f8.length ≤ 140737488351232) : Ev (fun k => ddiref36_Short.f k p.f0 p.f1 p.f2 p.f3 p.f4.f0 p.f4.f1 p.f4.f2 p.f5.f0 p.f5.f1 p.f5.f2 p.f6.f0 p.f6.f1 p.f6.f2 p.f7 p.f8) (t27 (shortP p)) := by
  unfold ddiref36_Short.f
  obtain ⟨h1, h2, h3⟩ := mnl p.f3.size 100
  have h1' : 0 ≤ mn (p.f3.size : Int) 100 := h1
  have h2' : mn (p.f3.size : Int) 100 ≤ (p.f3.size : Int) := h2
  have h3' : (mn (p.f3.size : Int) 100).toNat = min p.f3.size 100 := h3
  simp only [if_pos h1', if_pos h2', h3']
  refine Ev.bind (a := shortO p.f8) ?_ (Ev_const rfl)
  unfold ddiref36_options.f
  exact short_from p.f8 hl p.f8 0 [] rfl (by simp) rfl
theorem shortO_ok (l : List S59) : (shortO l).length ≤ 40 ∧ ∀ x ∈ shortO l, x.f1.size ≤ 1100 := by
  refine ⟨by rw [shortO, List.length_map, List.length_take]; omega, fun x hx => ?_⟩
  obtain ⟨y, _, rfl⟩ := List.mem_map.1 hx
  exact cut_size 1100 y.f1
theorem same_from (p : S27) (hl : p.f8.length ≤ 140737488351232) : ∀ (r : List S59) (i : Nat), p.f8.drop i = r → Ev (fun k => ddiref36_Same.l0 k (i : Int) p.f0 p.f1 p.f2 p.f3 p.f4.f0 p.f4.f1 p.f4.f2 p.f5.f0 p.f5.f1 p.f5.f2 p.f6.f0 p.f6.f1 p.f6.f2 p.f7 p.f8 p.f0 p.f1 p.f2 p.f3 p.f4.f0 p.f4.f1 p.f4.f2 p.f5.f0 p.f5.f1 p.f5.f2 p.f6.f0 p.f6.f1 p.f6.f2 p.f7 p.f8) true
  | [], i, h => by
    have := drop_end h
    refine Ev_shift 1 (f := fun _ => some true) (fun k => ?_) (Ev_const rfl)
    rw [ddiref36_Same.l0, if_neg (by omega)]
  | x :: r, i, h => by
    obtain ⟨hi, hx, hr⟩ := rdOpt p.f8 i x r h
    have ih := same_from p hl r (i + 1) hr
    refine Ev_shift 1 (fun k => ?_) ih
    rw [ddiref36_Same.l0, if_pos (by omega), if_pos (by omega), if_pos (by omega), if_neg (by simp), next i p.f8.length hi (by omega)]
theorem same_ev (p : S27) (hl : p.f8.length ≤ 140737488351232) : Ev (fun k => ddiref36_Same.f k p.f0 p.f1 p.f2 p.f3 p.f4.f0 p.f4.f1 p.f4.f2 p.f5.f0 p.f5.f1 p.f5.f2 p.f6.f0 p.f6.f1 p.f6.f2 p.f7 p.f8 p.f0 p.f1 p.f2 p.f3 p.f4.f0 p.f4.f1 p.f4.f2 p.f5.f0 p.f5.f1 p.f5.f2 p.f6.f0 p.f6.f1 p.f6.f2 p.f7 p.f8) true := by
  refine Ev_shift 1 (fun k => ?_) (same_from p hl p.f8 0 rfl)
  simp only [ddiref36_Same.f, beq_self_eq_true, Bool.not_true, Bool.or_self, Bool.false_eq_true, if_true, if_false, bne_self_eq_false]
  rw [ddiref36_Same.j0]
  simp only [Bool.false_eq_true, if_false]
  rfl
def isI (x : S59) : Bool := decide (x.f0 = 82)
def stripO (l : List S59) : List S59 := l.filter (fun x => !isI x)
def stripP (p : S27) : S27 := ⟨p.f0, p.f1, p.f2, p.f3, p.f4, p.f5, ⟨false, 0, 0⟩, false, stripO p.f8⟩
theorem strip_from (p : S27) (hl : p.f8.length < 5864062014805) : ∀ (r : List S59) (i : Nat) (q : List S59), p.f8.drop i = r → q.length ≤ i → Ev (fun k => relay_Strip.l0 k q p.f8 (p.f8.length : Int) (i : Int) p.f0 p.f1 p.f2 p.f3 p.f4.f0 p.f4.f1 p.f4.f2 p.f5.f0 p.f5.f1 p.f5.f2 p.f6.f0 p.f6.f1 p.f6.f2 p.f7 p.f8) (t27 ⟨p.f0, p.f1, p.f2, p.f3, p.f4, p.f5, ⟨false, 0, 0⟩, false, q ++ stripO r⟩)
  | [], i, q, h, hq => by
    have := drop_end h
    refine Ev_shift 1 (f := fun _ => some _) (fun k => ?_) (Ev_const rfl)
    rw [relay_Strip.l0, if_neg (by omega)]
    simp [t27, stripO]
  | x :: r, i, q, h, hq => by
    obtain ⟨hi, hx, hr⟩ := rdOpt p.f8 i x r h
    by_cases hc : x.f0 = 82
    · have ih := strip_from p hl r (i + 1) q hr (by omega)
      rw [stripO, List.filter_cons_of_neg (by simp [isI, hc]), ← stripO]
      refine Ev_shift 1 (fun k => ?_) ih
      rw [relay_Strip.l0, if_pos (by omega), if_pos (by omega), if_pos (by omega), hx, if_pos hc, next i p.f8.length hi (by omega)]
    · have ih := strip_from p hl r (i + 1) (q ++ [x]) hr (by simp; omega)
      rw [stripO, List.filter_cons_of_pos (by simp [isI, hc]), ← stripO]
      rw [List.append_assoc, List.singleton_append] at ih
      refine Ev_shift 1 (fun k => ?_) ih
      rw [relay_Strip.l0, if_pos (by omega), if_pos (by omega), if_pos (by omega), hx, if_neg hc, if_pos (by omega), next i p.f8.length hi (by omega)]
theorem strip_ev (p : S27) (hl : p.f8.length < 5864062014805) : Ev (fun k => relay_Strip.f k p.f0 p.f1 p.f2 p.f3 p.f4.f0 p.f4.f1 p.f4.f2 p.f5.f0 p.f5.f1 p.f5.f2 p.f6.f0 p.f6.f1 p.f6.f2 p.f7 p.f8) (t27 (stripP p)) := by
  unfold relay_Strip.f
  exact strip_from p hl p.f8 0 [] rfl (by simp)
def noC : ByteArray × Bool := ((⟨#[]⟩ : ByteArray), false)
def circB (v : ByteArray × Bool) : Bool := v.2 && (decide (2 ≤ v.1.size) && (decide (bt v.1 0 = 1) && (wrap64 (bt v.1 1) == wrap64 ((v.1.size : Int) - 2))))
def circV (v : ByteArray × Bool) : ByteArray × Bool := if circB v = true then (v.1.extract 2 v.1.size, true) else noC
theorem circ_j (s : ByteArray) (x : Bool) (b : Bool) (hb : b = !circB (s, x)) : Ev (fun k => relay_Circuit.j0 k s b) (circV (s, x)) := by
  unfold circV
  cases hc : circB (s, x) with
  | false =>
    rw [hc] at hb
    subst hb
    refine Ev_shift 1 (f := fun _ => some noC) (fun k => ?_) (Ev_const rfl)
    rw [relay_Circuit.j0]
    rfl
  | true =>
    rw [hc] at hb
    subst hb
    have h2 : 2 ≤ s.size := by
      unfold circB at hc
      simp only [Bool.and_eq_true, decide_eq_true_eq] at hc
      exact hc.2.1
    refine Ev_shift 1 (f := fun _ => some (s.extract 2 s.size, true)) (fun k => ?_) (Ev_const rfl)
    rw [relay_Circuit.j0, if_neg (by decide), if_pos (by omega)]
theorem circ_of (v : ByteArray × Bool) : Ev (fun k => if v.2 = true then (if (v.1.size : Int) < 2 then relay_Circuit.j0 k v.1 true else (if 0 < (v.1.size : Int) then (if bt v.1 0 = 1 then (if 1 < (v.1.size : Int) then relay_Circuit.j0 k v.1 (wrap64 (bt v.1 1) != wrap64 ((v.1.size : Int) - 2)) else none) else relay_Circuit.j0 k v.1 true) else none)) else relay_Circuit.j0 k v.1 true) (circV v) := by
  obtain ⟨s, x⟩ := v
  cases x with
  | false =>
    simp only [Bool.false_eq_true, if_false]
    exact circ_j s false true rfl
  | true =>
    simp only [if_true]
    by_cases h2 : (s.size : Int) < 2
    · simp only [if_pos h2]
      exact circ_j s true true (by simp [circB]; omega)
    · simp only [if_neg h2, if_pos (show 0 < (s.size : Int) by omega), if_pos (show 1 < (s.size : Int) by omega)]
      by_cases h1 : bt s 0 = 1
      · simp only [if_pos h1]
        refine circ_j s true _ ?_
        unfold circB
        rw [decide_eq_true (show 2 ≤ s.size by omega), decide_eq_true h1]
        rfl
      · simp only [if_neg h1]
        exact circ_j s true true (by simp [circB, h1])
theorem circ_ev (p : S27) (hl : p.f8.length ≤ 140737488351232) : Ev (fun k => relay_Circuit.f k p.f0 p.f1 p.f2 p.f3 p.f4.f0 p.f4.f1 p.f4.f2 p.f5.f0 p.f5.f1 p.f5.f2 p.f6.f0 p.f6.f1 p.f6.f2 p.f7 p.f8) (circV (findV 82 p.f8)) := by
  unfold relay_Circuit.f
  exact Ev.bind (find_ev p.f8 hl 82) (circ_of _)
def goodA (a : S24) : Bool := !a.f0 && (decide (a.f1 = 0) && decide (a.f2 ≤ 4294967295))
def zeroP : S27 := ⟨0, 0, 0, (⟨#[]⟩ : ByteArray), ⟨false, 0, 0⟩, ⟨false, 0, 0⟩, ⟨false, 0, 0⟩, false, []⟩
def infoB (c : ByteArray) : ByteArray := strOfNums ([1, (c.size : Int) % 256] : List Int) ++ c
def insV (p : S27) (a : S24) (c : ByteArray) : S27 × Int :=
  if goodA a = true then (if p.f7 = true then (zeroP, 21) else (if (c.size : Int) > 255 then (zeroP, 9) else (if validO (putV 82 (infoB c) p.f8) = true then (⟨p.f0, p.f1, p.f2, p.f3, p.f4, p.f5, a, true, putV 82 (infoB c) p.f8⟩, 0) else (zeroP, 9)))) else (zeroP, 3)
theorem info_size (c : ByteArray) : (infoB c).size = 2 + c.size := by
  rw [infoB, ByteArray.size_append, strOfNums_size]
  rfl
theorem putV_sizes (c : ByteArray) (hc : c.size ≤ 400) (l : List S59) (ok : ∀ x ∈ l, x.f1.size ≤ 1100) : ∀ x ∈ putV 82 (infoB c) l, x.f1.size ≤ 1100 := by
  intro x hx
  rcases putV_mem 82 (infoB c) l x hx with h | ⟨_, h⟩
  · exact ok x h
  · rw [h, info_size]
    omega
theorem ins_j (p : S27) (a : S24) (c : ByteArray) (hc : c.size ≤ 400) (hl : p.f8.length ≤ 41) (ok : ∀ x ∈ p.f8, x.f1.size ≤ 1100) (b : Bool) (hb : b = !goodA a) : Ev (fun k => relay_Insert.j0 k c b p.f0 p.f1 p.f2 p.f3 p.f4.f0 p.f4.f1 p.f4.f2 p.f5.f0 p.f5.f1 p.f5.f2 p.f6.f0 p.f6.f1 p.f6.f2 p.f7 p.f8 a.f0 a.f1 a.f2) (t27e (insV p a c).1 (insV p a c).2) := by
  unfold insV
  cases hg : goodA a with
  | false =>
    rw [hg] at hb
    subst hb
    refine Ev_shift 1 (f := fun _ => some (t27e zeroP 3)) (fun k => ?_) (Ev_const rfl)
    rw [relay_Insert.j0]
    rfl
  | true =>
    rw [hg] at hb
    subst hb
    simp only [if_true]
    refine Ev_shift 1 (fun k => by rw [relay_Insert.j0, if_neg (by decide)]) ?_
    cases h7 : p.f7 with
    | true =>
      simp only [if_true]
      exact Ev_const rfl
    | false =>
      simp only [Bool.false_eq_true, if_false]
      by_cases h255 : (c.size : Int) > 255
      · simp only [if_pos h255]
        exact Ev_const rfl
      · simp only [if_neg h255]
        have hs : (strOfNums ([1, (c.size : Int) % 256] : List Int)).size + c.size ≤ 9223372036854775807 := by
          rw [strOfNums_size, List.length_cons, List.length_cons, List.length_nil]
          omega
        simp only [Option.bind_some, if_pos hs]
        refine Ev.bind (put_ev p.f8 (by omega) 82 (infoB c)) ?_
        have hlen := putV_len 82 (infoB c) p.f8
        have hsz := putV_sizes c hc p.f8 ok
        refine Ev.bind (valid_ev (putV 82 (infoB c) p.f8) (by omega) (fun x hx => by have := hsz x hx; omega)) ?_
        cases hv : validO (putV 82 (infoB c) p.f8) with
        | true =>
          simp only [if_true]
          exact Ev_const rfl
        | false =>
          simp only [Bool.false_eq_true, if_false]
          exact Ev_const rfl
theorem ins_ev (p : S27) (a : S24) (c : ByteArray) (hc : c.size ≤ 400) (hl : p.f8.length ≤ 41) (ok : ∀ x ∈ p.f8, x.f1.size ≤ 1100) : Ev (fun k => relay_Insert.f k p.f0 p.f1 p.f2 p.f3 p.f4.f0 p.f4.f1 p.f4.f2 p.f5.f0 p.f5.f1 p.f5.f2 p.f6.f0 p.f6.f1 p.f6.f2 p.f7 p.f8 a.f0 a.f1 a.f2 c) (t27e (insV p a c).1 (insV p a c).2) := by
  unfold relay_Insert.f addr_Valid.f
  cases h0 : a.f0 with
  | true =>
    simp only [if_true]
    have := ins_j p a c hc hl ok true (by simp [goodA, h0])
    rw [h0] at this
    exact this
  | false =>
    simp only [Bool.false_eq_true, if_false]
    by_cases h1 : a.f1 = 0
    · simp only [if_pos h1, Option.bind_some]
      have := ins_j p a c hc hl ok (!decide (a.f2 ≤ 4294967295)) (by simp [goodA, h0, h1])
      rw [h0] at this
      exact this
    · simp only [if_neg h1, Option.bind_some]
      have := ins_j p a c hc hl ok (!false) (by simp [goodA, h0, h1])
      rw [h0] at this
      exact this
theorem insV_len (p : S27) (a : S24) (c : ByteArray) : (insV p a c).1.f8.length ≤ p.f8.length + 1 := by
  have h := putV_len 82 (infoB c) p.f8
  unfold insV
  split
  · split
    · simp [zeroP]
    · split
      · simp [zeroP]
      · split
        · exact h
        · simp [zeroP]
  · simp [zeroP]
theorem strip_len (p : S27) : (stripP p).f8.length ≤ p.f8.length := List.length_filter_le _ _
theorem wake_ev : Ev (fun k => ddilaw39_awake.f k) true := ⟨60, fun k hk => at_rounds ddilaw39_awake.mono hk (by decide +kernel)⟩
end Go.Proofs.YtngfffoeaghhhaaDoor.Ma
