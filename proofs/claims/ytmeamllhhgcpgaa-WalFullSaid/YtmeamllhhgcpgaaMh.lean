/- A disk takes as many bytes as it has room for, and not one more: the pure statement of WalFull (no condition). -/
import Derived.Test.YtmeamllhhgcpgaaMe
import Derived.Test.YtmeamllhhgcpgaaQAx11
namespace Go.Proofs.Ytmeamllhhgcpgaa.Ma
open Go.RowKit Go.Proofs.YtmeamllhhgcpgaaW.PrintWords Go.Proofs.YtmeamllhhgcpgaaW.PrintLast Go.Proofs.YtmeamllhhgcpgaaW.PrintMore Go.Proofs.Ytmeamllhhgcpgaa.XP Go.Proofs.Ytmeamllhhgcpgaa.QA

theorem walFull : ddilaw16_WalFull.Pure := by
  intro a n ha hn
  have ha' : 0 ≤ a ∧ a ≤ 255 := by simpa [Lit.wf, IntKind.min, IntKind.max, IntKind.signed, IntKind.bits] using ha
  have hn' : 0 ≤ n ∧ n ≤ 255 := by simpa [Lit.wf, IntKind.min, IntKind.max, IntKind.signed, IntKind.bits] using hn
  obtain ⟨ha0, ha1⟩ := ha'
  obtain ⟨hn0, hn1⟩ := hn'
  refine Ev.rounds (?_ : Ev (fun k => ddilaw16_WalFull.f k a n) true)
  unfold ddilaw16_WalFull.f
  rw [wrap_id (x := a) (by omega) (by omega), wrap_id (x := n) (by omega) (by omega), wrap_id (x := 1048576 - a) (by omega) (by omega)]
  generalize hD : (List.replicate (1048576 - a).toNat 0 : List Int) = D
  have hDl : D.length = (1048576 - a).toNat := by rw [← hD, List.length_replicate]
  generalize hN : (List.replicate n.toNat 0 : List Int) = S
  have hSl : S.length = n.toNat := by rw [← hN, List.length_replicate]
  have hd : (strOfNums D).size = (1048576 - a).toNat := by rw [strOfNums_size, hDl]
  have hs : (strOfNums S).size = n.toNat := by rw [strOfNums_size, hSl]
  simp only [if_pos (show (0 : Int) ≤ 1048576 - a by omega), if_pos (show (1048576 - a).toNat ≤ 281474976710656 by omega), Option.bind_some, if_pos hn0, if_pos (show n.toNat ≤ 281474976710656 by omega)]
  generalize strOfNums D = d at hd
  generalize strOfNums S = s at hs
  refine Ev.bind (wr_w d 0 (-1) false s (by omega) (by omega)) ?_
  refine Ev_shift 1 (f := fun k => ddilaw16_WalFull.j0 (k + 1) n _ _ d 0 (-1) false _ _ _ _) (fun k => rfl) ?_
  by_cases h : n > a
  · have hw : wr d 0 (-1) false s = (d, 0, -1, false, 9) := by
      unfold wr
      rw [if_neg (by decide), if_pos (by omega)]
    simp only [hw, ddilaw16_WalFull.j0, decide_eq_true h, if_true]
    simp only [beq_self_eq_true, Bool.and_self, if_true]
    exact Ev.bind awake_ev (Ev_const rfl)
  · have hw : wr d 0 (-1) false s = (d ++ s, 0, -1, false, 0) := by
      unfold wr
      rw [if_neg (by decide), if_neg (by omega), if_neg (by omega), if_neg (by omega)]
    have hsz : ((d ++ s).size : Int) = wrap64 ((d.size : Int) + wrap64 n) := by
      rw [ByteArray.size_append, wrap_id (x := n) (by omega) (by omega), wrap_id (by omega) (by omega)]
      omega
    simp only [hw, ddilaw16_WalFull.j0, decide_eq_false h, if_neg (show ¬ (false = true) by decide), if_true, if_pos hsz]
    exact Ev.bind awake_ev (Ev_const rfl)
end Go.Proofs.Ytmeamllhhgcpgaa.Ma
