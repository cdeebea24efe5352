/- The log's checksum and frames: what the printed functions of package wal and of its reference come to, in plain Lean (no condition). -/
import Derived.Test.YtmeamllhhgcpgaaXP
import Derived.Test.YtmeamllhhgcpgaaQAx3
namespace Go.Proofs.Ytmeamllhhgcpgaa.Ma
open Go.RowKit Go.Proofs.YtmeamllhhgcpgaaW.PrintWords Go.Proofs.YtmeamllhhgcpgaaW.PrintLast Go.Proofs.YtmeamllhhgcpgaaW.PrintMore Go.Proofs.Ytmeamllhhgcpgaa.XP Go.Proofs.Ytmeamllhhgcpgaa.QA

/-- One bit of the checksum. -/
def step (x : Nat) : Nat := if x % 2 = 1 then (x / 2) ^^^ 2197175160 else x / 2
def steps : Nat → Nat → Nat
  | 0, x => x
  | j + 1, x => steps j (step x)
def byte (x b : Nat) : Nat := steps 8 (x ^^^ b)
def crc (x : Nat) (l : List UInt8) : Nat := l.foldl (fun x b => byte x b.toNat) x
def sum (l : List UInt8) : Nat := crc 4294967295 l ^^^ 4294967295

theorem step_lt {x : Nat} (h : x < 4294967296) : step x < 4294967296 := by
  unfold step
  split
  · exact Nat.xor_lt_two_pow (n := 32) (by omega) (by omega)
  · omega
theorem steps_lt : ∀ (j : Nat) {x : Nat}, x < 4294967296 → steps j x < 4294967296
  | 0, _, h => h
  | j + 1, _, h => steps_lt j (step_lt h)
theorem xor_byte_lt {x : Nat} (h : x < 4294967296) (b : UInt8) : x ^^^ b.toNat < 4294967296 :=
  Nat.xor_lt_two_pow (n := 32) h (by have := b.toNat_lt; omega)
theorem byte_lt {x : Nat} (h : x < 4294967296) (b : UInt8) : byte x b.toNat < 4294967296 := steps_lt 8 (xor_byte_lt h b)
theorem crc_lt : ∀ (l : List UInt8) {x : Nat}, x < 4294967296 → crc x l < 4294967296
  | [], _, h => h
  | b :: l, _, h => crc_lt l (byte_lt h b)
theorem sum_lt (l : List UInt8) : sum l < 4294967296 := Nat.xor_lt_two_pow (n := 32) (crc_lt l (by omega)) (by omega)
theorem crc_cons (x : Nat) (b : UInt8) (l : List UInt8) : crc x (b :: l) = crc (byte x b.toNat) l := rfl
theorem crc_append (x : Nat) (l m : List UInt8) : crc x (l ++ m) = crc (crc x l) m := List.foldl_append

/-! ### the program's checksum -/
theorem and_one (x : Nat) (h : x < 4294967296) : Go.bits .and .u32 (x : Int) 1 = ((x % 2 : Nat) : Int) := by
  have := n32_and x 1 h (by omega)
  rw [Nat.and_one_is_mod] at this
  exact this
theorem l2_run (s : ByteArray) (l : List ByteArray) (n a m p : Int) : ∀ (j : Nat) (x : Nat), x < 4294967296 → ∀ i : Int, i = 8 - j → 0 ≤ i → ∀ k,
    wal_checksum.l2 (k + j + 1) x s l n a m p i = wal_checksum.l1 k (steps j x : Nat) s l n a m (wrap64 (p + 1)) := by
  intro j
  induction j with
  | zero =>
    intro x hx i hi h0 k
    rw [wal_checksum.l2]
    rw [if_neg (by omega)]
    rfl
  | succ j ih =>
    intro x hx i hi h0 k
    rw [show k + (j + 1) + 1 = (k + j + 1) + 1 from by omega]
    rw [wal_checksum.l2]
    rw [if_pos (by omega), and_one x hx, wrap_id (by omega) (by omega)]
    have hs := step_lt hx
    by_cases ho : x % 2 = 1
    · rw [if_pos (by omega)]
      have he : Go.bits .xor .u32 ((x : Int) / 2) 2197175160 = ((step x : Nat) : Int) := by
        have := n32_xor (x / 2) 2197175160 (by omega) (by omega)
        unfold step
        rw [if_pos ho, ← this]
        rfl
      rw [he, ih (step x) hs (i + 1) (by omega) (by omega) k]
      rfl
    · rw [if_neg (by omega)]
      have he : (x : Int) / 2 = ((step x : Nat) : Int) := by
        unfold step
        rw [if_neg ho]
        omega
      rw [he, ih (step x) hs (i + 1) (by omega) (by omega) k]
      rfl
theorem l1_run (s : ByteArray) (l : List ByteArray) (n a : Int) (hs : s.size ≤ 9223372036854775806) : ∀ (d p : Nat), p + d = s.data.toList.length → ∀ (x : Nat), x < 4294967296 → ∀ k,
    wal_checksum.l1 (k + 10 * d + 1) x s l n a (s.size : Int) (p : Int) = wal_checksum.l0 k (crc x (s.data.toList.drop p) : Nat) l n (wrap64 (a + 1)) := by
  intro d
  induction d with
  | zero =>
    intro p hp x hx k
    have := size_data s
    rw [wal_checksum.l1]
    rw [if_neg (by omega), List.drop_of_length_le (by omega)]
    rfl
  | succ d ih =>
    intro p hp x hx k
    have hz := size_data s
    have hlt : p < s.data.toList.length := by omega
    rw [wal_checksum.l1]
    rw [if_pos (by omega), if_pos (by omega), if_pos (by omega), bt_get s p hlt]
    have hb := (s.data.toList[p]).toNat_lt
    have hx1 : Go.bits .xor .u32 (x : Int) (((s.data.toList[p]).toNat : Int) % 4294967296) = ((x ^^^ (s.data.toList[p]).toNat : Nat) : Int) := by
      rw [Int.emod_eq_of_lt (by omega) (by omega)]
      exact n32_xor x _ hx (by omega)
    rw [hx1, show k + 10 * (d + 1) = (k + 10 * d + 1) + 8 + 1 from by omega,
      l2_run s l n a s.size p 8 _ (xor_byte_lt hx _) 0 (by omega) (by omega), show steps 8 (x ^^^ (s.data.toList[p]).toNat) = byte x (s.data.toList[p]).toNat from rfl, wrap_id (by omega) (by omega), show (p : Int) + 1 = ((p + 1 : Nat) : Int) from by omega,
      ih (p + 1) (by omega) _ (byte_lt hx _) k]
    rw [List.drop_eq_getElem_cons hlt]
    rfl
theorem l0_ev (l : List ByteArray) (hl : l.length ≤ 9223372036854775806) (hs : ∀ s ∈ l, s.size ≤ 9223372036854775806) : ∀ (d p : Nat), p + d = l.length → ∀ (x : Nat), x < 4294967296 →
    Ev (fun k => wal_checksum.l0 k x l (l.length : Int) (p : Int)) ((crc x ((l.drop p).map (·.data.toList)).flatten ^^^ 4294967295 : Nat) : Int) := by
  intro d
  induction d with
  | zero =>
    intro p hp x hx
    refine Ev_shift 1 (f := fun _ => some _) (fun k => ?_) (Ev_const rfl)
    rw [wal_checksum.l0]
    rw [if_neg (by omega), List.drop_of_length_le (by omega)]
    have := n32_xor 4294967295 x (by omega) hx
    rw [Nat.xor_comm] at this
    exact congrArg some this
  | succ d ih =>
    intro p hp x hx
    have hlt : p < l.length := by omega
    have hrd : rdOf ByteArray.empty l (p : Int) = l[p] := by
      simp [rdOf, List.getD_eq_getElem?_getD, List.getElem?_eq_getElem hlt]
    have hsz := hs l[p] (List.getElem_mem hlt)
    refine Ev_shift (10 * (l[p]).data.toList.length + 2) (f := fun k => wal_checksum.l0 k (crc x (l[p]).data.toList : Nat) l (l.length : Int) ((p + 1 : Nat) : Int)) (fun k => ?_) ?_
    · rw [show k + (10 * (l[p]).data.toList.length + 2) = (k + 10 * (l[p]).data.toList.length + 1) + 1 from by omega]
      rw [wal_checksum.l0]
      rw [if_pos (by omega), if_pos (by omega), if_pos (by omega), hrd]
      have := l1_run l[p] l (l.length : Int) (p : Int) hsz (l[p]).data.toList.length 0 (by omega) x hx k
      rw [List.drop_zero, wrap_id (by omega) (by omega)] at this
      exact this
    · have := ih (p + 1) (by omega) _ (crc_lt (l[p]).data.toList hx)
      rw [List.drop_eq_getElem_cons hlt, List.map_cons, List.flatten_cons, crc_append]
      exact this
theorem checksum_ev (l : List ByteArray) (hl : l.length ≤ 9223372036854775806) (hs : ∀ s ∈ l, s.size ≤ 9223372036854775806) :
    Ev (fun k => wal_checksum.f k l) ((sum (l.map (·.data.toList)).flatten : Nat) : Int) := l0_ev l hl hs l.length 0 (by omega) 4294967295 (by omega)

/-! ### the reference's checksum -/
theorem r1_run (s : ByteArray) (p : Int) : ∀ (j : Nat) (x : Nat), x < 4294967296 → ∀ i : Int, i = 8 - j → 0 ≤ i → ∀ k,
    ddiref16_Sum.l1 (k + j + 1) s x p i = ddiref16_Sum.l0 k s (steps j x : Nat) (wrap64 (p + 1)) := by
  intro j
  induction j with
  | zero =>
    intro x hx i hi h0 k
    rw [ddiref16_Sum.l1]
    rw [if_neg (by omega)]
    rfl
  | succ j ih =>
    intro x hx i hi h0 k
    rw [show k + (j + 1) + 1 = (k + j + 1) + 1 from by omega]
    rw [ddiref16_Sum.l1]
    rw [if_pos (by omega), wrap_id (by omega) (by omega)]
    have hs := step_lt hx
    have hm : Int.tmod (x : Int) 2 = ((x % 2 : Nat) : Int) := rfl
    have hd : Int.tdiv (x : Int) 2 % 4294967296 = ((x / 2 : Nat) : Int) := by
      rw [show Int.tdiv (x : Int) 2 = ((x / 2 : Nat) : Int) from rfl]
      omega
    rw [hm, hd]
    by_cases ho : x % 2 = 1
    · rw [if_pos (by omega)]
      have he : Go.bits .xor .u32 ((x / 2 : Nat) : Int) 2197175160 = ((step x : Nat) : Int) := by
        have := n32_xor (x / 2) 2197175160 (by omega) (by omega)
        unfold step
        rw [if_pos ho, ← this]
        rfl
      rw [he, ih (step x) hs (i + 1) (by omega) (by omega) k]
      rfl
    · rw [if_neg (by omega)]
      have he : ((x / 2 : Nat) : Int) = ((step x : Nat) : Int) := by
        unfold step
        rw [if_neg ho]
      rw [he, ih (step x) hs (i + 1) (by omega) (by omega) k]
      rfl
theorem r0_run (s : ByteArray) (hs : s.size ≤ 9223372036854775806) : ∀ (d p : Nat), p + d = s.data.toList.length → ∀ (x : Nat), x < 4294967296 → ∀ k,
    ddiref16_Sum.l0 (k + 10 * d + 1) s x (p : Int) = some ((crc x (s.data.toList.drop p) ^^^ 4294967295 : Nat) : Int) := by
  intro d
  induction d with
  | zero =>
    intro p hp x hx k
    have := size_data s
    rw [ddiref16_Sum.l0]
    rw [if_neg (by omega), List.drop_of_length_le (by omega)]
    exact congrArg some (n32_xor x 4294967295 hx (by omega))
  | succ d ih =>
    intro p hp x hx k
    have hz := size_data s
    have hlt : p < s.data.toList.length := by omega
    rw [ddiref16_Sum.l0]
    rw [if_pos (by omega), if_pos (by omega), bt_get s p hlt]
    have hb := (s.data.toList[p]).toNat_lt
    have hx1 : Go.bits .xor .u32 (x : Int) (((s.data.toList[p]).toNat : Int) % 4294967296) = ((x ^^^ (s.data.toList[p]).toNat : Nat) : Int) := by
      rw [Int.emod_eq_of_lt (by omega) (by omega)]
      exact n32_xor x _ hx (by omega)
    rw [hx1, show k + 10 * (d + 1) = (k + 10 * d + 1) + 8 + 1 from by omega,
      r1_run s p 8 _ (xor_byte_lt hx _) 0 (by omega) (by omega), show steps 8 (x ^^^ (s.data.toList[p]).toNat) = byte x (s.data.toList[p]).toNat from rfl, wrap_id (by omega) (by omega), show (p : Int) + 1 = ((p + 1 : Nat) : Int) from by omega,
      ih (p + 1) (by omega) _ (byte_lt hx _) k]
    rw [List.drop_eq_getElem_cons hlt]
    rfl
theorem refsum_ev (s : ByteArray) (hs : s.size ≤ 9223372036854775806) : Ev (fun k => ddiref16_Sum.f k s) ((sum s.data.toList : Nat) : Int) :=
  Ev_shift (10 * s.data.toList.length + 1) (f := fun _ => some _) (fun k => by
    have := r0_run s hs s.data.toList.length 0 (by omega) 4294967295 (by omega) k
    rw [List.drop_zero] at this
    exact this) (Ev_const rfl)
end Go.Proofs.Ytmeamllhhgcpgaa.Ma
