/- Behind any calls of Append on an empty disk, with a write that fails at any time, and a crash at which any part is kept: the pure statement of WalCrashes (no condition but the sizes that every argument has). -/
import Derived.Test.YtmeamllhhgcpgaaMe
import Derived.Test.YtmeamllhhgcpgaaMf
import Derived.Test.YtmeamllhhgcpgaaQAx16
namespace Go.Proofs.Ytmeamllhhgcpgaa.Ma
open Go.RowKit Go.Proofs.YtmeamllhhgcpgaaW.PrintWords Go.Proofs.YtmeamllhhgcpgaaW.PrintLast Go.Proofs.YtmeamllhhgcpgaaW.PrintMore Go.Proofs.Ytmeamllhhgcpgaa.XP Go.Proofs.Ytmeamllhhgcpgaa.QA

/-- What is known between the calls: 'G' was appended with success; behind a failure 'M' may be written, too. -/
def Inv (G : List (List UInt8)) (more : ByteArray) (failed : Bool) (d : ByteArray) (y : Int) (w : Bool) : Prop :=
  (∀ p ∈ G, p.length ≤ 200) ∧ y = ((fs G).length : Nat) ∧ w = failed ∧
    ((failed = false ∧ d = mkB (fs G)) ∨ (failed = true ∧ more.data.toList.length ≤ 200 ∧ ∃ r, (r = [] ∨ r = frm more.data.toList) ∧ d = mkB (fs G ++ r)))
theorem inv_size {G : List (List UInt8)} {more : ByteArray} {failed : Bool} {d : ByteArray} {y : Int} {w : Bool} (h : Inv G more failed d y w) : d.size ≤ G.length * 208 + 208 := by
  obtain ⟨h1, _, _, h4⟩ := h
  have := fs_len_le G 200 h1
  rcases h4 with ⟨_, rfl⟩ | ⟨_, hm, r, hr, rfl⟩
  · rw [size_mkB]; omega
  · rw [size_mkB, List.length_append]
    rcases hr with rfl | rfl
    · simp; omega
    · rw [frm_length]; omega
/-- One call of Append. -/
theorem inv_step {G : List (List UInt8)} {more : ByteArray} {d : ByteArray} {y f : Int} (h : Inv G more false d y false) (hG : G.length ≤ 20) (s : ByteArray) (hs : s.data.toList.length ≤ 200) :
    ((ap d y f false s.data.toList).2.2.2.2 = 0 ∧ Inv (G ++ [s.data.toList]) more false (ap d y f false s.data.toList).1 (ap d y f false s.data.toList).2.1 (ap d y f false s.data.toList).2.2.2.1) ∨
    (¬ (ap d y f false s.data.toList).2.2.2.2 = 0 ∧ Inv G s true (ap d y f false s.data.toList).1 (ap d y f false s.data.toList).2.1 (ap d y f false s.data.toList).2.2.2.1) := by
  have hz := inv_size h
  obtain ⟨h1, h2, _, h4⟩ := h
  rcases h4 with ⟨_, rfl⟩ | ⟨h, _⟩
  · have hall : ∀ p ∈ G ++ [s.data.toList], p.length ≤ 200 := by
      intro p hp
      rcases List.mem_append.1 hp with hp | hp
      · exact h1 p hp
      · rw [List.mem_singleton.1 hp]; exact hs
    have hfr : (mkB (fs G) ++ mkB (frm s.data.toList)) = mkB (fs G ++ frm s.data.toList) := data_inj (by rw [data_app, data_mkB, data_mkB, data_mkB])
    have hfa : fs (G ++ [s.data.toList]) = fs G ++ frm s.data.toList := by rw [fs_append, fs_cons, fs_nil, List.append_nil]
    have hroom : ¬ 1048576 < (mkB (fs G)).size + (mkB (frm s.data.toList)).size := by
      rw [size_mkB (frm s.data.toList), frm_length]
      omega
    by_cases hf0 : f = 0
    · have hw : wr (mkB (fs G)) y f false (mkB (frm s.data.toList)) = (mkB (fs G), y, f, true, 27) := by
        unfold wr
        rw [if_neg (by decide), if_neg hroom, if_pos hf0]
      have ha : ap (mkB (fs G)) y f false s.data.toList = (mkB (fs G), y, f, true, 27) := by unfold ap; rw [hw, if_neg (by simp)]
      rw [ha]
      exact .inr ⟨by simp, h1, h2, rfl, .inr ⟨rfl, hs, [], .inl rfl, by rw [List.append_nil]⟩⟩
    · by_cases hf1 : f > 0
      · have hw : wr (mkB (fs G)) y f false (mkB (frm s.data.toList)) = (mkB (fs G ++ frm s.data.toList), y, wrap64 (f - 1), false, 0) := by
          unfold wr
          rw [if_neg (by simp), if_neg hroom, if_neg hf0, if_pos hf1, hfr]
        have ha : ap (mkB (fs G)) y f false s.data.toList = sy (mkB (fs G ++ frm s.data.toList)) y (wrap64 (f - 1)) false := by unfold ap; rw [hw, if_pos rfl]
        by_cases hg0 : wrap64 (f - 1) = 0
        · have hsy : sy (mkB (fs G ++ frm s.data.toList)) y (wrap64 (f - 1)) false = (mkB (fs G ++ frm s.data.toList), y, wrap64 (f - 1), true, 27) := by
            unfold sy
            rw [if_neg (by decide), if_pos hg0]
          rw [ha, hsy]
          exact .inr ⟨by simp, h1, h2, rfl, .inr ⟨rfl, hs, _, .inr rfl, rfl⟩⟩
        · have hsy : ∃ g : Int, sy (mkB (fs G ++ frm s.data.toList)) y (wrap64 (f - 1)) false = (mkB (fs G ++ frm s.data.toList), ((mkB (fs G ++ frm s.data.toList)).size : Int), g, false, 0) := by
            unfold sy
            rw [if_neg (by decide), if_neg hg0]
            split
            · exact ⟨_, rfl⟩
            · exact ⟨_, rfl⟩
          obtain ⟨g, hsy⟩ := hsy
          rw [ha, hsy]
          exact .inl ⟨rfl, hall, by rw [size_mkB, hfa], rfl, .inl ⟨rfl, by rw [hfa]⟩⟩
      · have hw : wr (mkB (fs G)) y f false (mkB (frm s.data.toList)) = (mkB (fs G ++ frm s.data.toList), y, f, false, 0) := by
          unfold wr
          rw [if_neg (by simp), if_neg hroom, if_neg hf0, if_neg hf1, hfr]
        have ha : ap (mkB (fs G)) y f false s.data.toList = (mkB (fs G ++ frm s.data.toList), ((mkB (fs G ++ frm s.data.toList)).size : Int), f, false, 0) := by
          unfold ap
          rw [hw, if_pos rfl]
          unfold sy
          rw [if_neg (by simp), if_neg hf0, if_neg hf1]
        rw [ha]
        exact .inl ⟨rfl, hall, by rw [size_mkB, hfa], rfl, .inl ⟨rfl, by rw [hfa]⟩⟩
  · cases h
theorem down_step (d : ByteArray) (y f : Int) (p : List UInt8) : ap d y f true p = (d, y, f, true, 27) := by
  have hw : wr d y f true (mkB (frm p)) = (d, y, f, true, 27) := by unfold wr; rw [if_pos rfl]
  unfold ap
  rw [hw, if_neg (by simp)]
/-- What is read behind the crash. -/
theorem inv_read {G : List (List UInt8)} {more : ByteArray} {failed : Bool} {d : ByteArray} {y : Int} {w : Bool} (h : Inv G more failed d y w) (keep : Int) :
    (scan (d.data.toList.take (crashN d y keep))).1 = G ∨ (failed = true ∧ (scan (d.data.toList.take (crashN d y keep))).1 = G ++ [more.data.toList]) := by
  obtain ⟨h1, h2, _, h4⟩ := h
  have h32 : ∀ p ∈ G, p.length ≤ 32768 := fun p hp => Nat.le_trans (h1 p hp) (by omega)
  rcases h4 with ⟨_, rfl⟩ | ⟨hf, hm, r, hr, rfl⟩
  · left
    have hc : crashN (mkB (fs G)) y keep = (fs G).length := by
      unfold crashN
      rw [h2, size_mkB, Int.toNat_natCast]
      omega
    rw [hc, data_mkB, List.take_length]
    have := scan_frames G [] h32 readOne_nil
    rw [List.append_nil] at this
    rw [this]
  · have hc : (fs G).length ≤ crashN (mkB (fs G ++ r)) y keep := by
      unfold crashN
      rw [h2, size_mkB, Int.toNat_natCast, List.length_append]
      omega
    rw [data_mkB, List.take_append, List.take_of_length_le hc]
    generalize crashN (mkB (fs G ++ r)) y keep - (fs G).length = q
    rcases hr with rfl | rfl
    · left
      rw [List.take_nil]
      rw [scan_frames G [] h32 readOne_nil]
    · by_cases hq : q < 8 + more.data.toList.length
      · left
        rw [scan_frames G _ h32 (readOne_cut _ q (by omega) hq)]
      · right
        refine ⟨hf, ?_⟩
        rw [List.take_of_length_le (by rw [frm_length]; omega)]
        have := scan_frames (G ++ [more.data.toList]) [] (by
          intro p hp
          rcases List.mem_append.1 hp with hp | hp
          · exact h32 p hp
          · rw [List.mem_singleton.1 hp]; omega) readOne_nil
        rw [fs_append, fs_cons, fs_nil, List.append_nil, List.append_nil] at this
        rw [this]
theorem mkB_inj {a b : List UInt8} (h : mkB a = mkB b) : a = b := by
  have := congrArg (fun s : ByteArray => s.data.toList) h
  simpa [data_mkB] using this
/-- The end: a crash, and what is read. -/
theorem crashes_end (l : List ByteArray) (keep : Int) (i : Int) (G : List (List UInt8)) (hG : G.length ≤ 20) (more : ByteArray) (failed : Bool) (d : ByteArray) (y f : Int) (w : Bool) (h : Inv G more failed d y w) :
    Ev (fun k => ddilaw16_WalCrashes.j1 k l keep (G.map mkB) more failed i false d y f w) true := by
  have hz := inv_size h
  have hr := inv_read h keep
  have hw := h.2.2.1
  have hcl := crashN_le d y keep
  have hdz := size_data d
  refine Ev_shift 1 (f := fun k => ddilaw16_WalCrashes.j1 (k + 1) l keep (G.map mkB) more failed i false d y f w) (fun k => rfl) ?_
  simp only [ddilaw16_WalCrashes.j1, if_neg (show ¬ (false = true) by decide), crash_w d y f w keep (by omega), Option.bind_some]
  have hcs : (mkB (d.data.toList.take (crashN d y keep))).size = crashN d y keep := by rw [size_mkB, List.length_take]; omega
  have hop := op_w (mkB (d.data.toList.take (crashN d y keep))) ((crashN d y keep : Nat) : Int) (-1) false (by omega)
  have hopv : op (mkB (d.data.toList.take (crashN d y keep))) ((crashN d y keep : Nat) : Int) (-1) false = (mkB ((d.data.toList.take (crashN d y keep)).take (scan (d.data.toList.take (crashN d y keep))).2), ((scan (d.data.toList.take (crashN d y keep))).2 : Int), -1, false, (scan (d.data.toList.take (crashN d y keep))).1.map mkB, 0) := by
    unfold op
    rw [if_neg (by decide), data_mkB]
  rw [hopv] at hop
  have hsl := scan_le (d.data.toList.take (crashN d y keep))
  generalize d.data.toList.take (crashN d y keep) = t at hr hop hsl hcs
  refine Ev.bind hop ?_
  have hsz : ((scan t).2 : Int) = ((mkB (t.take (scan t).2)).size : Int) := by rw [size_mkB, List.length_take]; omega
  simp only [if_true, if_neg (show ¬ (false = true) by decide), if_pos hsz]
  generalize (scan t).1 = got at hr
  refine Ev_shift 1 (f := fun k => ddilaw16_WalCrashes.j2 (k + 1) (G.map mkB) more failed (got.map mkB) false d y f w) (fun k => rfl) ?_
  simp only [ddilaw16_WalCrashes.j2, if_neg (show ¬ (false = true) by decide)]
  have hlen : wrap64 (((G.map mkB).length : Int) + 1) = ((G.length + 1 : Nat) : Int) := by rw [List.length_map, wrap_id (by omega) (by omega)]; omega
  have plain : got = G → Ev (fun k => ddilaw16_WalCrashes.j3 k (G.map mkB) more failed (got.map mkB) false d y f w) true := by
    rintro rfl
    refine Ev_shift 1 (f := fun k => ddilaw16_WalCrashes.j3 (k + 1) (got.map mkB) more failed (got.map mkB) false d y f w) (fun k => rfl) ?_
    simp only [ddilaw16_WalCrashes.j3, if_neg (show ¬ (false = true) by decide)]
    refine Ev.bind (texts_same _ (by rw [List.length_map]; omega)) ?_
    simp only [if_true, hw, beq_self_eq_true]
    exact Ev.bind awake_ev (Ev_const rfl)
  rcases hr with hr | ⟨hf, hr⟩
  · by_cases hfl : failed = true
    · simp only [if_pos hfl]
      have : (((got.map mkB).length : Int) == wrap64 (((G.map mkB).length : Int) + 1)) = false := by
        rw [hlen, hr, List.length_map, beq_eq_false_iff_ne]
        omega
      rw [this]
      exact plain hr
    · simp only [if_neg hfl]
      exact plain hr
  · simp only [if_pos hf]
    have hl1 : (((got.map mkB).length : Int) == wrap64 (((G.map mkB).length : Int) + 1)) = true := by
      rw [hlen, hr, List.length_map, List.length_append, List.length_singleton, beq_iff_eq]
    rw [hl1]
    refine Ev_shift 1 (f := fun k => ddilaw16_WalCrashes.j3 (k + 1) (G.map mkB) more failed (got.map mkB) true d y f w) (fun k => rfl) ?_
    have hgl : (got.map mkB).length = G.length + 1 := by rw [hr, List.length_map, List.length_append, List.length_singleton]
    have hat : rdOf ByteArray.empty (got.map mkB) (((G.map mkB).length : Nat) : Int) = more := by
      rw [rd_get _ _ (by rw [hgl, List.length_map]; omega)]
      simp only [hr, List.map_append, List.map_cons, List.map_nil]
      rw [List.getElem_append_right (by simp)]
      simp [mkB_data]
    have htk : (got.map mkB).take (((G.map mkB).length : Int)).toNat = G.map mkB := by
      rw [hr, List.map_append, Int.toNat_natCast, List.take_left' rfl]
    simp only [ddilaw16_WalCrashes.j3, if_true, hat, htk, if_pos (show (0 : Int) ≤ ((G.map mkB).length : Int) by omega), if_pos (show ((G.map mkB).length : Int) < ((got.map mkB).length : Int) by rw [hgl, List.length_map]; omega),
      if_pos (show ((G.map mkB).length : Int) ≤ ((got.map mkB).length : Int) by rw [hgl, List.length_map]; omega)]
    refine Ev.bind (texts_same _ (by rw [List.length_map]; omega)) ?_
    simp only [if_true]
    exact Ev.bind awake_ev (Ev_const rfl)
theorem crashes_from (l : List ByteArray) (_hl : l.length ≤ 4611686018427387904) (keep : Int) : ∀ (n i : Nat), i + n = 20 → ∀ (G : List (List UInt8)) (more : ByteArray) (failed : Bool) (d : ByteArray) (y f : Int) (w : Bool), G.length ≤ i → Inv G more failed d y w →
    Ev (fun k => ddilaw16_WalCrashes.l0 k l keep (G.map mkB) more failed (i : Int) d y f w) true := by
  intro n
  induction n with
  | zero =>
    intro i hi G more failed d y f w hG h
    have e := crashes_end l keep i G (by omega) more failed d y f w h
    by_cases hlt : i < l.length
    · exact Ev_shift 1 (fun k => by rw [ddilaw16_WalCrashes.l0, if_pos (by omega), decide_eq_false (by omega)]) e
    · exact Ev_shift 1 (fun k => by rw [ddilaw16_WalCrashes.l0, if_neg (by omega)]) e
  | succ n ih =>
    intro i hi G more failed d y f w hG h
    by_cases hlt : i < l.length
    · have hw64 : wrap64 ((i : Int) + 1) = ((i + 1 : Nat) : Int) := by rw [wrap_id (by omega) (by omega)]; omega
      refine Ev_shift 1 (f := fun k => ddilaw16_WalCrashes.j1 k l keep (G.map mkB) more failed i true d y f w) (fun k => by rw [ddilaw16_WalCrashes.l0, if_pos (by omega), decide_eq_true (by omega)]) ?_
      refine Ev_shift 1 (f := fun k => ddilaw16_WalCrashes.j1 (k + 1) l keep (G.map mkB) more failed i true d y f w) (fun k => rfl) ?_
      have hcut := cut_eq l[i] 200
      rw [show ((200 : Nat) : Int) = 200 from rfl] at hcut
      have htl : ((l[i]).data.toList.take 200).length ≤ 200 := by rw [List.length_take]; omega
      simp only [ddilaw16_WalCrashes.j1, if_true, if_pos (show (0 : Int) ≤ (i : Int) by omega), if_pos (show (i : Int) < (l.length : Int) by omega), rd_get l i hlt, hcut, Option.bind_some, hw64]
      generalize hs : mkB ((l[i]).data.toList.take 200) = s
      have hsd : s.data.toList.length ≤ 200 := by rw [← hs, data_mkB]; exact htl
      have hsz := size_data s
      have hdz := inv_size h
      refine Ev.bind (ap_w d y f w s (by omega) (by omega)) ?_
      cases failed with
      | false =>
        have hw := h.2.2.1
        subst hw
        rcases inv_step (f := f) h (by omega) s hsd with ⟨he, hi2⟩ | ⟨he, hi2⟩
        · simp only [if_pos he, if_neg (show ¬ (false = true) by decide), if_pos (show (G.map mkB).length < 8796093022208 by rw [List.length_map]; omega)]
          have := ih (i + 1) (by omega) (G ++ [s.data.toList]) more false _ _ (ap d y f false s.data.toList).2.2.1 _ (by simp; omega) hi2
          rw [List.map_append, List.map_cons, List.map_nil, mkB_data] at this
          exact this
        · simp only [if_neg he, if_neg (show ¬ (false = true) by decide)]
          exact ih (i + 1) (by omega) G s true _ _ (ap d y f false s.data.toList).2.2.1 _ (by omega) hi2
      | true =>
        have hw := h.2.2.1
        subst hw
        rw [down_step]
        simp only [if_neg (show ¬ ((27 : Int) = 0) by decide), if_true]
        exact ih (i + 1) (by omega) G more true d y f true (by omega) h
    · exact Ev_shift 1 (fun k => by rw [ddilaw16_WalCrashes.l0, if_neg (by omega)]) (crashes_end l keep i G (by omega) more failed d y f w h)
theorem walCrashes : ddilaw16_WalCrashes.Pure := by
  intro l fuse keep hl _ _
  refine Ev.rounds (?_ : Ev (fun k => ddilaw16_WalCrashes.f k l fuse keep) true)
  unfold ddilaw16_WalCrashes.f
  have h : Inv [] (⟨#[]⟩ : ByteArray) false (⟨#[]⟩ : ByteArray) 0 false := ⟨by simp, rfl, rfl, .inl ⟨rfl, rfl⟩⟩
  exact crashes_from l (by have := hl.1; omega) keep 20 0 rfl [] _ false _ 0 fuse false (Nat.le_refl _) h
end Go.Proofs.Ytmeamllhhgcpgaa.Ma
