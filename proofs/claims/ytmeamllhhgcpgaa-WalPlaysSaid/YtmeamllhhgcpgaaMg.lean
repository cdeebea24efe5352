/- A disk takes as many bytes as it has room for, and a disk written, synced, crashed and opened in any order is as the document says: the pure statements of WalFull and WalPlays (no condition but the sizes that every argument has). -/
import Derived.Test.YtmeamllhhgcpgaaMe
import Derived.Test.YtmeamllhhgcpgaaQAx15
namespace Go.Proofs.Ytmeamllhhgcpgaa.Ma
open Go.RowKit Go.Proofs.YtmeamllhhgcpgaaW.PrintWords Go.Proofs.YtmeamllhhgcpgaaW.PrintLast Go.Proofs.YtmeamllhhgcpgaaW.PrintMore Go.Proofs.Ytmeamllhhgcpgaa.XP Go.Proofs.Ytmeamllhhgcpgaa.QA

theorem j2_same (l : List S46) (i : Int) (e : Int) (a : List ByteArray) (ha : a.length ≤ 4611686018427387904) (d : ByteArray) (y f : Int) (w : Bool)
    (hnext : Ev (fun k => ddilaw16_WalPlays.l0 k l (wrap64 (i + 1)) d y f w d y f w) true) : Ev (fun k => ddilaw16_WalPlays.j2 k l i e e a a d y f w d y f w) true := by
  have hc : ¬ ((!(d.toList == d.toList) || (!(y == y) || (!(f == f) || (!(w == w))))) = true) := by simp
  refine Ev_shift 1 (f := fun k => (ddilaw16_texts.f k a a).bind fun t => ddilaw16_WalPlays.j3 k l i (!t) d y f w d y f w) (fun k => by rw [ddilaw16_WalPlays.j2, if_neg hc, if_pos rfl]) (Ev.bind (texts_same a ha) ?_)
  exact Ev_shift 1 (f := fun k => ddilaw16_WalPlays.l0 k l (wrap64 (i + 1)) d y f w d y f w) (fun k => by rw [ddilaw16_WalPlays.j3, if_neg (by decide)]) hnext
theorem rd46 (l : List S46) (i : Nat) (h : i < l.length) : rd_T46 l (i : Int) = l[i] := by
  simp [rd_T46, List.getD_eq_getElem?_getD, List.getElem?_eq_getElem h]
theorem plays_end (l : List S46) (i : Int) (d : ByteArray) (y f : Int) (w : Bool) : Ev (fun k => ddilaw16_WalPlays.j1 k l i false d y f w d y f w) true :=
  Ev_shift 1 (f := fun k => (ddilaw16_awake.f k).bind fun t => some t) (fun k => by rw [ddilaw16_WalPlays.j1, if_neg (by decide)]) (Ev.bind awake_ev (Ev_const rfl))
theorem plays_bnd {a b i : Nat} (h : a ≤ 2000 + 308 * i) (h2 : b ≤ a + 308) : b ≤ 2000 + 308 * (i + 1) := Nat.le_trans h2 (Nat.le_trans (Nat.add_le_add_right h 308) (Nat.le_of_eq (by rw [Nat.mul_succ, Nat.add_assoc])))
theorem plays_from (l : List S46) (_hl : l.length ≤ 4611686018427387904) : ∀ (n i : Nat), i + n = 20 → ∀ (d : ByteArray) (y f : Int) (w : Bool), d.size ≤ 2000 + 308 * i →
    Ev (fun k => ddilaw16_WalPlays.l0 k l (i : Int) d y f w d y f w) true := by
  intro n
  induction n with
  | zero =>
    intro i hi d y f w hd
    by_cases h : i < l.length
    · exact Ev_shift 1 (f := fun k => ddilaw16_WalPlays.j1 k l i false d y f w d y f w) (fun k => by rw [ddilaw16_WalPlays.l0, if_pos (by omega), decide_eq_false (by omega)]) (plays_end l i d y f w)
    · exact Ev_shift 1 (f := fun k => ddilaw16_WalPlays.j1 k l i false d y f w d y f w) (fun k => by rw [ddilaw16_WalPlays.l0, if_neg (by omega)]) (plays_end l i d y f w)
  | succ n ih =>
    intro i hi d y f w hd
    by_cases h : i < l.length
    · have hw : wrap64 ((i : Int) + 1) = ((i + 1 : Nat) : Int) := by rw [wrap_id (by omega) (by omega)]; omega
      have next : ∀ (d' : ByteArray) (y' f' : Int) (w' : Bool), d'.size ≤ d.size + 308 → Ev (fun k => ddilaw16_WalPlays.l0 k l (wrap64 ((i : Int) + 1)) d' y' f' w' d' y' f' w') true := fun d' y' f' w' h' => by
        rw [hw]
        exact ih (i + 1) (by omega) d' y' f' w' (plays_bnd hd h')
      refine Ev_shift 1 (f := fun k => ddilaw16_WalPlays.j1 k l i true d y f w d y f w) (fun k => by rw [ddilaw16_WalPlays.l0, if_pos (by omega), decide_eq_true (by omega)]) ?_
      refine Ev_shift 1 (f := fun k => ddilaw16_WalPlays.j1 (k + 1) l i true d y f w d y f w) (fun k => rfl) ?_
      have hcut := cut_eq (l[i]).f2 300
      rw [show ((300 : Nat) : Int) = 300 from rfl] at hcut
      have htl : ((l[i]).f2.data.toList.take 300).length ≤ 300 := by rw [List.length_take]; omega
      simp only [ddilaw16_WalPlays.j1, if_true, if_pos (show (0 : Int) ≤ (i : Int) by omega), if_pos (show (i : Int) < (l.length : Int) by omega), rd46 l i h, hcut, Option.bind_some]
      generalize hs : mkB ((l[i]).f2.data.toList.take 300) = s
      have hsz : s.size ≤ 300 := by rw [← hs, size_mkB]; exact htl
      by_cases k0 : (l[i]).f0 = 0
      · simp only [if_pos k0]
        refine Ev.bind (wr_w d y f w s (by omega) (by omega)) ?_
        simp only [wr_r d y f w s (by omega) (by omega), Option.bind_some]
        exact j2_same _ _ _ _ (by simp) _ _ _ _ (next _ _ _ _ (by have := wr_size d y f w s; omega))
      · simp only [if_neg k0]
        by_cases k1 : (l[i]).f0 = 1
        · simp only [if_pos k1, sy_w, sy_r, Option.bind_some]
          exact j2_same _ _ _ _ (by simp) _ _ _ _ (next _ _ _ _ (by rw [sy_data]; omega))
        · simp only [if_neg k1]
          by_cases k2 : (l[i]).f0 = 2
          · simp only [if_pos k2, crash_w d y f w (l[i]).f1 (by omega), crash_r d y f w (l[i]).f1 (by omega), Option.bind_some]
            refine j2_same _ _ _ _ (by simp) _ _ _ _ (next _ _ _ _ ?_)
            have := size_data d
            rw [size_mkB, List.length_take]
            omega
          · simp only [if_neg k2]
            by_cases k3 : (l[i]).f0 = 3
            · simp only [if_pos k3]
              refine Ev.bind (op_w d y f w (by omega)) (Ev.bind (op_r d y f w (by omega)) ?_)
              have hz := size_data d
              have hb := scanF_len d.data.toList.length d.data.toList
              refine j2_same _ _ _ _ ?_ _ _ _ _ (next _ _ _ _ ?_)
              · unfold op
                split
                · simp
                · rw [List.length_map, scan]; omega
              · unfold op
                split
                · show d.size ≤ _
                  omega
                · rw [size_mkB, List.length_take]; omega
            · simp only [if_neg k3]
              refine Ev.bind (ap_w d y f w s (by omega) (by omega)) (Ev.bind (ap_r d y f w s (by omega) (by omega)) ?_)
              refine j2_same _ _ _ _ (by simp) _ _ _ _ (next _ _ _ _ ?_)
              have := ap_size d y f w s.data.toList
              have := size_data s
              omega
    · exact Ev_shift 1 (f := fun k => ddilaw16_WalPlays.j1 k l i false d y f w d y f w) (fun k => by rw [ddilaw16_WalPlays.l0, if_neg (by omega)]) (plays_end l i d y f w)
theorem walPlays : ddilaw16_WalPlays.Pure := by
  intro d y f w l _ hl
  refine Ev.rounds (?_ : Ev (fun k => ddilaw16_WalPlays.f k d y f w l) true)
  have hcut := cut_eq d 2000
  rw [show ((2000 : Nat) : Int) = 2000 from rfl] at hcut
  unfold ddilaw16_WalPlays.f
  simp only [hcut, Option.bind_some]
  exact plays_from l (by omega) 20 0 rfl _ _ _ _ (by rw [size_mkB, List.length_take]; omega)
end Go.Proofs.Ytmeamllhhgcpgaa.Ma
