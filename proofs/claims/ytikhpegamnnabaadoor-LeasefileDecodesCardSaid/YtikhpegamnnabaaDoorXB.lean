/- Words for calls of the library's string functions at one byte (no condition). -/
import Derived.Lib.Bytealg
import Derived.Lib.SplitLaws
namespace Go.Proofs.YtikhpegamnnabaaDoor.XB
def count (s sep : ByteArray) : Int := ((Go.Lib.countByte s.data.toList (sep.data.toList.getD 0 0) : Nat) : Int)
def index (s sep : ByteArray) : Int := Go.Lib.indexByte s.data.toList (sep.data.toList.getD 0 0)
def indexB (s : ByteArray) (c : Int) : Int := Go.Lib.indexByte s.data.toList c.toNat.toUInt8
theorem one_byte (sep : ByteArray) (h : sep.size = 1) : ∃ c : UInt8, sep = ⟨#[c]⟩ := Go.Lib.one_byte sep h
theorem index_self (s : ByteArray) (c : UInt8) (h : ([c] == s.toList) = true) : index s ⟨#[c]⟩ = 0 := by
  have e : s.data.toList = [c] := by rw [← Go.Lib.toList_data]; exact (beq_iff_eq.1 h).symm
  unfold index
  rw [e]
  simp [Go.Lib.indexByte]
theorem index_byte (s : ByteArray) (c : UInt8) : indexB s ((c.toNat : Nat) : Int) = index s ⟨#[c]⟩ := by
  unfold indexB index
  simp
end Go.Proofs.YtikhpegamnnabaaDoor.XB
