/- Payloads that are framed one behind the other are read, whatever stands behind them; cut anywhere, those that are whole are read: the pure statement of WalBack (no condition but the sizes that every argument has). -/
import Derived.Test.YtmeamllhhgcpgaaMd
import Derived.Test.YtmeamllhhgcpgaaMf
import Derived.Test.YtmeamllhhgcpgaaQAx12
namespace Go.Proofs.Ytmeamllhhgcpgaa.Ma
open Go.RowKit Go.Proofs.YtmeamllhhgcpgaaW.PrintWords Go.Proofs.YtmeamllhhgcpgaaW.PrintLast Go.Proofs.YtmeamllhhgcpgaaW.PrintMore Go.Proofs.Ytmeamllhhgcpgaa.XP Go.Proofs.Ytmeamllhhgcpgaa.QA

/-- Where the frames end. -/
def ends (ps : List (List UInt8)) : List Int := (List.range ps.length).map fun j => (((fs (ps.take (j + 1))).length : Nat) : Int)
theorem ends_length (ps : List (List UInt8)) : (ends ps).length = ps.length := by simp [ends]
theorem ends_snoc (ps : List (List UInt8)) (p : List UInt8) : ends (ps ++ [p]) = ends ps ++ [(((fs (ps ++ [p])).length : Nat) : Int)] := by
  unfold ends
  rw [List.length_append, List.length_singleton, List.range_succ, List.map_append, List.map_cons, List.map_nil]
  congr 1
  · apply List.map_congr_left
    intro j hj
    rw [List.mem_range] at hj
    rw [List.take_append_of_le_length (by omega)]
  · rw [List.take_of_length_le (by simp)]
theorem rd_ends (ps : List (List UInt8)) (j : Nat) (h : j < ps.length) : rd (ends ps) (j : Int) = (((fs (ps.take (j + 1))).length : Nat) : Int) := by
  have h2 : j < (ends ps).length := by rw [ends_length]; exact h
  simp only [rd, Int.toNat_natCast, List.getD_eq_getElem?_getD, List.getElem?_eq_getElem h2, Option.getD_some]
  simp [ends]
theorem back_l1 (ps : List (List UInt8)) (hp : ps.length ≤ 20) (q nb wh : Nat) (hw : wh ≤ ps.length) (h1 : ∀ i, i < wh → (fs (ps.take (i + 1))).length ≤ q) (h2 : ∀ i, wh ≤ i → i < ps.length → q < (fs (ps.take (i + 1))).length) (hn : nb ≤ q) : ∀ (n j : Nat), j + n = ps.length →
    Ev (fun k => ddilaw16_WalBack.l1 k (ps.map mkB) (ends ps) (nb : Int) (q : Int) ((ps.take wh).map mkB) ((min j wh : Nat) : Int) ((ends ps).length : Int) (j : Int)) true := by
  have hel := ends_length ps
  intro n
  induction n with
  | zero =>
    intro j hj
    refine Ev_shift 1 (f := fun k => ddilaw16_WalBack.l1 (k + 1) (ps.map mkB) (ends ps) (nb : Int) (q : Int) ((ps.take wh).map mkB) ((min j wh : Nat) : Int) ((ends ps).length : Int) (j : Int)) (fun k => rfl) ?_
    have hm : min j wh = wh := by omega
    have ht : (ps.map mkB).take wh = (ps.take wh).map mkB := List.map_take.symm
    simp only [ddilaw16_WalBack.l1, hm, if_neg (show ¬ (j : Int) < ((ends ps).length : Int) by omega), if_pos (show (0 : Int) ≤ (wh : Int) by omega), if_pos (show (wh : Int) ≤ ((ps.map mkB).length : Int) by rw [List.length_map]; omega), Int.toNat_natCast, ht]
    refine Ev.bind (texts_same _ (by rw [List.length_map, List.length_take]; omega)) ?_
    simp only [if_true, if_pos (show (nb : Int) ≤ (q : Int) by omega)]
    exact Ev.bind awake_ev (Ev_const rfl)
  | succ n ih =>
    intro j hj
    have hw64 : wrap64 ((j : Int) + 1) = ((j + 1 : Nat) : Int) := by rw [wrap_id (by omega) (by omega)]; omega
    have hr := rd_ends ps j (by omega)
    have := ih (j + 1) (by omega)
    by_cases hj2 : j < wh
    · have hle := h1 j hj2
      refine Ev_shift 1 (fun k => by rw [ddilaw16_WalBack.l1, if_pos (by omega), if_pos (by omega), if_pos (by omega), hr, if_pos (by omega), hw64]) ?_
      rw [show ((min (j + 1) wh : Nat) : Int) = ((j + 1 : Nat) : Int) from by omega] at this
      exact this
    · have hlt := h2 j (by omega) (by omega)
      refine Ev_shift 1 (fun k => by rw [ddilaw16_WalBack.l1, if_pos (by omega), if_pos (by omega), if_pos (by omega), hr, if_neg (by omega), hw64]) ?_
      rw [show min (j + 1) wh = min j wh from by omega] at this
      exact this
theorem back_end (l : List ByteArray) (tail : ByteArray) (at_ : Int) (_hat : 0 ≤ at_ + 9223372036854775808 ∧ at_ ≤ 9223372036854775807) (i : Int) (ps : List (List UInt8)) (hp : ps.length ≤ 20) (hs : ∀ p ∈ ps, p.length ≤ 200) :
    Ev (fun k => ddilaw16_WalBack.j1 k l tail at_ (ps.map mkB) (ends ps) (mkB (fs ps)) i false) true := by
  have hfl := fs_len_le ps 200 hs
  have h32 : ∀ p ∈ ps, p.length ≤ 32768 := fun p h => Nat.le_trans (hs p h) (by omega)
  have hcut := cut_eq tail 7
  rw [show ((7 : Nat) : Int) = 7 from rfl] at hcut
  have ht7 : (tail.data.toList.take 7).length ≤ 7 := by rw [List.length_take]; omega
  refine Ev_shift 1 (f := fun k => ddilaw16_WalBack.j1 (k + 1) l tail at_ (ps.map mkB) (ends ps) (mkB (fs ps)) i false) (fun k => rfl) ?_
  simp only [ddilaw16_WalBack.j1, if_neg (show ¬ (false = true) by decide), hcut, Option.bind_some, if_pos (show (mkB (fs ps)).size + (mkB (tail.data.toList.take 7)).size ≤ 9223372036854775807 by rw [size_mkB, size_mkB]; omega)]
  have hd : (mkB (fs ps) ++ mkB (tail.data.toList.take 7)).data.toList = fs ps ++ tail.data.toList.take 7 := by rw [data_app, data_mkB, data_mkB]
  have hsc := wscan_ev (mkB (fs ps) ++ mkB (tail.data.toList.take 7)) (by rw [size_data, hd, List.length_append]; omega)
  rw [hd, scan_frames ps _ h32 (by unfold readOne; rw [if_pos (by omega)])] at hsc
  refine Ev.bind hsc (Ev.bind (texts_same _ (by rw [List.length_map]; show ps.length ≤ _; omega)) ?_)
  have hne : ((((fs ps).length : Nat) : Int) != ((mkB (fs ps)).size : Int)) = false := by rw [size_mkB]; simp
  simp only [if_true, hne]
  refine Ev_shift 1 (f := fun k => ddilaw16_WalBack.j3 (k + 1) at_ (ps.map mkB) (ends ps) (mkB (fs ps)) false) (fun k => rfl) ?_
  have hm : IntKind.u64.wrap (wrap64 (((mkB (fs ps)).size : Int) + 1)) = (((fs ps).length + 1 : Nat) : Int) := by
    rw [size_mkB, wrap_id (by omega) (by omega)]
    simp only [IntKind.wrap, IntKind.bits, IntKind.signed, Bool.false_and, Bool.false_eq_true, if_false]
    omega
  obtain ⟨u, hu⟩ : ∃ u : Nat, IntKind.u64.wrap at_ = (u : Int) := by
    refine ⟨(IntKind.u64.wrap at_).toNat, ?_⟩
    simp only [IntKind.wrap, IntKind.bits, IntKind.signed, Bool.false_and, Bool.false_eq_true, if_false]
    omega
  have hq : wrap64 (Int.tmod (IntKind.u64.wrap at_) (IntKind.u64.wrap (wrap64 (((mkB (fs ps)).size : Int) + 1)))) = ((u % ((fs ps).length + 1) : Nat) : Int) := by
    rw [hm, hu]
    have hlt := Nat.mod_lt u (show 0 < (fs ps).length + 1 by omega)
    rw [show Int.tmod (u : Int) (((fs ps).length + 1 : Nat) : Int) = ((u % ((fs ps).length + 1) : Nat) : Int) from rfl, wrap_id (by omega) (by omega)]
  have hql : u % ((fs ps).length + 1) ≤ (fs ps).length := by have := Nat.mod_lt u (show 0 < (fs ps).length + 1 by omega); omega
  generalize u % ((fs ps).length + 1) = q at hq hql
  simp only [ddilaw16_WalBack.j3, if_neg (show ¬ (false = true) by decide), hq]
  simp only [hm, if_neg (show ¬ ((((fs ps).length + 1 : Nat) : Int) = 0) by omega), if_pos (show (0 : Int) ≤ (q : Int) by omega), if_pos (show (q : Int) ≤ ((mkB (fs ps)).size : Int) by rw [size_mkB]; omega), Int.toNat_natCast]
  obtain ⟨wh, hw, h1, h2, h3, h4⟩ := scan_cut ps q h32 hql
  have hde : ((mkB (fs ps)).extract 0 q).data.toList = (fs ps).take q := by rw [data_ext, data_mkB, List.drop_zero, Nat.sub_zero]
  have hsc2 := wscan_ev ((mkB (fs ps)).extract 0 q) (by rw [size_data, hde, List.length_take]; omega)
  rw [hde, h3] at hsc2
  refine Ev.bind hsc2 ?_
  have := back_l1 ps hp q _ wh hw h1 h2 h4 ps.length 0 (by omega)
  rw [show min 0 wh = 0 from by omega] at this
  exact this
theorem back_from (l : List ByteArray) (_hl : l.length ≤ 4611686018427387904) (tail : ByteArray) (at_ : Int) (hat : 0 ≤ at_ + 9223372036854775808 ∧ at_ ≤ 9223372036854775807) : ∀ (n : Nat) (ps : List (List UInt8)), ps.length + n = 20 → (∀ p ∈ ps, p.length ≤ 200) → ps.length ≤ l.length →
    Ev (fun k => ddilaw16_WalBack.l0 k l tail at_ (ps.map mkB) (ends ps) (mkB (fs ps)) (ps.length : Int)) true := by
  intro n
  induction n with
  | zero =>
    intro ps hn hs hpl
    have e := back_end l tail at_ hat ps.length ps (by omega) hs
    by_cases hlt : ps.length < l.length
    · exact Ev_shift 1 (fun k => by rw [ddilaw16_WalBack.l0, if_pos (by omega), decide_eq_false (by omega)]) e
    · exact Ev_shift 1 (fun k => by rw [ddilaw16_WalBack.l0, if_neg (by omega)]) e
  | succ n ih =>
    intro ps hn hs hpl
    by_cases hlt : ps.length < l.length
    · have hw64 : wrap64 ((ps.length : Int) + 1) = ((ps.length + 1 : Nat) : Int) := by rw [wrap_id (by omega) (by omega)]; omega
      refine Ev_shift 1 (f := fun k => ddilaw16_WalBack.j1 k l tail at_ (ps.map mkB) (ends ps) (mkB (fs ps)) (ps.length : Int) true) (fun k => by rw [ddilaw16_WalBack.l0, if_pos (by omega), decide_eq_true (by omega)]) ?_
      refine Ev_shift 1 (f := fun k => ddilaw16_WalBack.j1 (k + 1) l tail at_ (ps.map mkB) (ends ps) (mkB (fs ps)) (ps.length : Int) true) (fun k => rfl) ?_
      have hcut := cut_eq l[ps.length] 200
      rw [show ((200 : Nat) : Int) = 200 from rfl] at hcut
      have htl : ((l[ps.length]).data.toList.take 200).length ≤ 200 := by rw [List.length_take]; omega
      simp only [ddilaw16_WalBack.j1, if_true, if_pos (show (0 : Int) ≤ (ps.length : Int) by omega), if_pos (show (ps.length : Int) < (l.length : Int) by omega), rd_get l ps.length hlt, hcut, Option.bind_some,
        if_pos (show (ps.map mkB).length < 8796093022208 by rw [List.length_map]; omega)]
      generalize (l[ps.length]).data.toList.take 200 = p at htl
      have hy : ps.map mkB ++ [mkB p] = (ps ++ [p]).map mkB := by rw [List.map_append, List.map_cons, List.map_nil]
      have hyl : ((ps ++ [p]).map mkB).length = ps.length + 1 := by rw [List.length_map, List.length_append, List.length_singleton]
      have hrd : rdOf ByteArray.empty ((ps ++ [p]).map mkB) (ps.length : Int) = mkB p := by
        rw [rd_get _ _ (by omega)]
        simp
      rw [hy]
      simp only [hyl, if_pos (show (ps.length : Int) < ((ps.length + 1 : Nat) : Int) by omega), hrd]
      refine Ev.bind (frame_ev (mkB p) (by rw [size_mkB]; omega)) ?_
      rw [data_mkB]
      have hne : (((mkB (frm p)).size : Int) != wrap64 (((mkB p).size : Int) + 8)) = false := by
        rw [size_mkB, size_mkB, frm_length, wrap_id (by omega) (by omega)]
        simp
        omega
      simp only [if_true, hne]
      have hfl := fs_len_le ps 200 hs
      have hall : ∀ r ∈ ps ++ [p], r.length ≤ 200 := by
        intro r hr
        rcases List.mem_append.1 hr with hr | hr
        · exact hs r hr
        · rw [List.mem_singleton.1 hr]; exact htl
      have hfr : mkB (fs ps) ++ mkB (frm p) = mkB (fs (ps ++ [p])) := data_inj (by rw [data_app, data_mkB, data_mkB, data_mkB, fs_append, fs_cons, fs_nil, List.append_nil])
      have hen : ends ps ++ [((mkB (fs ps)).size : Int) + ((mkB (frm p)).size : Int)] = ends (ps ++ [p]) := by
        rw [ends_snoc, size_mkB, size_mkB, fs_append, fs_cons, fs_nil, List.append_nil, List.length_append]
        congr 2
      have hel := ends_length ps
      refine Ev_shift 1 (f := fun k => ddilaw16_WalBack.l0 k l tail at_ ((ps ++ [p]).map mkB) (ends (ps ++ [p])) (mkB (fs (ps ++ [p]))) ((ps.length + 1 : Nat) : Int)) (fun k => ?_) ?_
      · rw [ddilaw16_WalBack.j2, if_neg (by decide), if_pos (by rw [size_mkB, size_mkB, frm_length]; omega), if_pos (by omega), hen, hfr, hw64]
      · have := ih (ps ++ [p]) (by simp; omega) hall (by simp; omega)
        rw [List.length_append, List.length_singleton] at this
        exact this
    · exact Ev_shift 1 (fun k => by rw [ddilaw16_WalBack.l0, if_neg (by omega)]) (back_end l tail at_ hat ps.length ps (by omega) hs)
theorem walBack : ddilaw16_WalBack.Pure := by
  intro l tail at_ hl _ hat
  refine Ev.rounds (?_ : Ev (fun k => ddilaw16_WalBack.f k l tail at_) true)
  unfold ddilaw16_WalBack.f
  have ha : 0 ≤ at_ + 9223372036854775808 ∧ at_ ≤ 9223372036854775807 := by
    have : -9223372036854775808 ≤ at_ ∧ at_ ≤ 9223372036854775807 := by simpa [Lit.wf, IntKind.min, IntKind.max, IntKind.signed, IntKind.bits] using hat
    omega
  exact back_from l (by have := hl.1; omega) tail at_ ha 20 [] rfl (by simp) (Nat.zero_le _)
end Go.Proofs.Ytmeamllhhgcpgaa.Ma
