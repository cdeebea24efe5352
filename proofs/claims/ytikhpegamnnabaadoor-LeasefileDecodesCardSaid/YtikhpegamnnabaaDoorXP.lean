/- Plain helpers for the pure statements: rounds, wrapping, bytes (no condition). -/
import Derived.Test.YtikhpegamnnabaaDoorWMore
import Derived.Laws.Strings
import Derived.Laws.Strings2
namespace Go.Proofs.YtikhpegamnnabaaDoor.XP
open Go.RowKit Go.Proofs.YtikhpegamnnabaaDoorW.PrintWords Go.Proofs.YtikhpegamnnabaaDoorW.PrintLast Go.Proofs.YtikhpegamnnabaaDoorW.PrintMore
set_option linter.unusedVariables false
set_option linter.unusedSimpArgs false

theorem Ev_shift {α : Type} {g f : Nat → Option α} {r : α} (c : Nat) (h : ∀ k, g (k + c) = f k) (e : Ev f r) : Ev g r := by
  obtain ⟨K, e⟩ := e
  refine ⟨K + c, fun n hn => ?_⟩
  obtain ⟨m, rfl⟩ : ∃ m, n = m + c := ⟨n - c, by omega⟩
  rw [h]
  exact e m (by omega)
theorem Ev_const {α : Type} {x : Option α} {r : α} (h : x = some r) : Ev (fun _ => x) r := ⟨0, fun _ _ => h⟩
theorem Ev_bind {α β : Type} {g : Nat → Option α} {f : Nat → α → Option β} {a : α} {r : β} (h : Ev g a) (k : Ev (fun n => f n a) r) : Ev (fun n => (g n).bind (f n)) r := Ev.bind h k
theorem wrap_id {x : Int} (h0 : -9223372036854775808 ≤ x) (h1 : x ≤ 9223372036854775807) : wrap64 x = x := by
  unfold wrap64
  omega
theorem toList_inj {a b : ByteArray} (h : a.toList = b.toList) : a = b := by
  rw [ByteArray.toList_eq, ByteArray.toList_eq] at h
  exact ByteArray.ext (Array.toList_inj.1 h)
theorem data_inj {a b : ByteArray} (h : a.data.toList = b.data.toList) : a = b := ByteArray.ext (Array.toList_inj.1 h)
theorem size_data (s : ByteArray) : s.size = s.data.toList.length := by rw [Array.length_toList]; rfl
theorem data_app (a b : ByteArray) : (a ++ b).data.toList = a.data.toList ++ b.data.toList := by rw [ByteArray.data_append, Array.toList_append]
theorem data_ext (s : ByteArray) (a b : Nat) : (s.extract a b).data.toList = (s.data.toList.drop a).take (b - a) := by
  obtain ⟨⟨l⟩⟩ := s
  have e := Go.ByteArray.extract_mk l a b
  rw [show (ByteArray.mk { toList := l }) = ByteArray.mk l.toArray from rfl, e]
theorem bt_get (s : ByteArray) (i : Nat) (h : i < s.data.toList.length) : bt s (i : Int) = ((s.data.toList[i]).toNat : Int) := by
  have h' : i < s.size := by rw [size_data]; exact h
  rw [← bt_at s i (by simpa using h')]
  simp
  rfl
theorem drop_at {α : Type} {l : List α} {i : Nat} {x : α} {r : List α} (h : l.drop i = x :: r) : ∃ hi : i < l.length, l[i] = x ∧ l.drop (i + 1) = r := by
  have hi : i < l.length := by
    rcases Nat.lt_or_ge i l.length with hi | hi
    · exact hi
    · rw [List.drop_eq_nil_of_le hi] at h; cases h
  rw [List.drop_eq_getElem_cons hi] at h
  injection h with h1 h2
  exact ⟨hi, h1, h2⟩
theorem drop_end {α : Type} {l : List α} {i : Nat} (h : l.drop i = []) : l.length ≤ i := by
  rcases Nat.lt_or_ge i l.length with hi | hi
  · rw [List.drop_eq_getElem_cons hi] at h; cases h
  · exact hi
theorem next (i n : Nat) (h : i < n) (hn : n ≤ 4611686018427387904) : wrap64 ((i : Int) + 1) = ((i + 1 : Nat) : Int) := by rw [wrap_id (by omega) (by omega)]; omega
theorem mn_len (m n : Nat) : mn (m : Int) (n : Int) = ((min m n : Nat) : Int) := by
  unfold mn
  split <;> omega
end Go.Proofs.YtikhpegamnnabaaDoor.XP
