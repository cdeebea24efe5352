/- The lease table's check: the program's and the reference's are one test (no condition but the sizes). -/
import Derived.Test.YtpcjablkjaiapaaDoorQAd1
import Derived.Test.YtpcjablkjaiapaaDoorCdp
import Derived.Test.YtpcjablkjaiapaaDoorCadr
namespace Go.Proofs.YtpcjablkjaiapaaDoor.Ma
open Go.RowKit Go.Proofs.YtpcjablkjaiapaaDoorW.PrintWords Go.Proofs.YtpcjablkjaiapaaDoorW.PrintLast Go.Proofs.YtpcjablkjaiapaaDoorW.PrintMore Go.Proofs.YtpcjablkjaiapaaDoor.XP Go.Proofs.YtpcjablkjaiapaaDoor.QA Go.Proofs.YtpcjablkjaiapaaDoor.Cm
set_option linter.unusedVariables false
set_option linter.unusedSimpArgs false
def vis (c : UInt8) : Bool := decide (33 ≤ c.toNat) && decide (c.toNat ≤ 126)
def szB (n : Nat) : Bool := decide (1 ≤ n) && decide (n ≤ 32)
theorem vis_at (c : UInt8) {β : Type} (g : Bool → β) : (if (c.toNat : Int) < 33 then g true else g (decide ((c.toNat : Int) > 126))) = g (!vis c) := by
  unfold vis
  split
  · rw [decide_eq_false (show ¬ 33 ≤ c.toNat by omega)]; rfl
  · rw [decide_eq_true (show 33 ≤ c.toNat by omega), Bool.true_and]
    congr 1
    rw [Bool.eq_iff_iff]
    simp
    omega
theorem cli_from (s : ByteArray) (hs : s.size ≤ 140737488351232) : ∀ (r : List UInt8) (i : Nat), s.data.toList.drop i = r → Ev (fun k => lease_isClient.l0 k s (i : Int)) (r.all vis && szB s.size)
  | [], i, h => by
    have := size_end s i h
    refine Ev_shift 1 (f := fun _ => some (szB s.size)) (fun k => ?_) (Ev_const rfl)
    rw [lease_isClient.l0, if_neg (by omega)]
    unfold szB
    by_cases h1 : 1 ≤ s.size
    · rw [if_pos (by omega), decide_eq_true h1, Bool.true_and]
      congr 1
      rw [Bool.eq_iff_iff]
      simp
      omega
    · rw [if_neg (by omega), decide_eq_false h1]; rfl
  | c :: r, i, h => by
    obtain ⟨hi, hb, hr⟩ := bt_at_drop s i c r h
    have ih := cli_from s hs r (i + 1) hr
    refine Ev_shift 1 (f := fun k => lease_isClient.j1 k s (i : Int) (!vis c)) (fun k => ?_) ?_
    · rw [lease_isClient.l0, if_pos (by omega), if_pos (by omega), hb]
      exact vis_at c (fun b => lease_isClient.j1 k s (i : Int) b)
    · rw [List.all_cons]
      cases vis c with
      | false => exact Ev_shift 1 (f := fun _ => some false) (fun k => by rw [lease_isClient.j1]; rfl) (Ev_const rfl)
      | true =>
        rw [Bool.true_and]
        exact Ev_shift 1 (fun k => by rw [lease_isClient.j1, next i s.size hi (by omega)]; rfl) ih
def cliB (s : ByteArray) : Bool := s.data.toList.all vis && szB s.size
theorem cli_ev (s : ByteArray) (hs : s.size ≤ 140737488351232) : Ev (fun k => lease_isClient.f k s) (cliB s) := by
  unfold lease_isClient.f
  exact cli_from s hs s.data.toList 0 rfl
def hostB (s : ByteArray) : Bool := decide (s.data.toList = []) || nameB s.data.toList
theorem host_ev (s : ByteArray) (hs : s.size ≤ 140737488351232) : Ev (fun k => lease_isHost.f k s) (hostB s) := by
  unfold lease_isHost.f hostB
  rw [toL]
  by_cases h : s.data.toList = []
  · simp only [if_pos h, h, decide_true, Bool.true_or, if_true]
    exact Ev_const rfl
  · simp only [h, decide_false, Bool.false_or, if_false]
    exact Ev.bind (name_ev s hs) (Ev_const rfl)
def timeB (t : Int) : Bool := decide (0 ≤ t) && decide (t ≤ 4294967295)
theorem time_v (t : Int) : lease_isTime.f t = some (timeB t) := by
  unfold lease_isTime.f timeB
  by_cases h : t ≥ 0
  · rw [if_pos h, decide_eq_true h, Bool.true_and]
  · rw [if_neg h, decide_eq_false h]; rfl
theorem xid_v (t : Int) : lease_isXID.f t = some (timeB t) := by
  unfold lease_isXID.f timeB
  by_cases h : t ≥ 0
  · rw [if_pos h, decide_eq_true h, Bool.true_and]
    congr 1
    rw [Bool.eq_iff_iff]
    simp
    omega
  · rw [if_neg h, decide_eq_false h]; rfl
def adB (x : S25) : Bool := x.f0 || (decide (x.f1 = 0) && decide (x.f2 ≤ 4294967295))
theorem ad_v (x : S25) : addr_Valid.f x.f0 x.f1 x.f2 = some (adB x) := by
  unfold addr_Valid.f adB
  by_cases h : x.f0 = true
  · rw [if_pos h, h]; rfl
  · have : x.f0 = false := by simpa using h
    rw [if_neg h, this, Bool.false_or]
    by_cases h1 : x.f1 = 0
    · rw [if_pos h1, decide_eq_true h1, Bool.true_and]
    · rw [if_neg h1, decide_eq_false h1]; rfl
/-- A lease's own form: 3 the address, 1 the arguments, 2 the name, 0 in order. -/
def argB (x : S27) : Bool := decide (1 ≤ x.f2) && (decide (x.f2 ≤ 5) && (cliB x.f1 && (timeB x.f6 && (timeB x.f3 && (timeB x.f4 && decide (x.f3 ≤ x.f4))))))
def one (x : S27) : Int := if adB x.f0 = true then (if argB x = true then (if hostB x.f5 = true then 0 else 2) else 1) else 3
def upB : Option S25 → S25 → Bool
  | none, _ => true
  | some p, a => decide (cmp p a < 0)
def chk (p : Option S25) : List S27 → Int
  | [] => 0
  | x :: r => if adB x.f0 = true then (if upB p x.f0 = true then (if one x = 0 then chk (some x.f0) r else one x) else 7) else 3
end Go.Proofs.YtpcjablkjaiapaaDoor.Ma
