/- The lease table's check: the program's and the reference's are one test (no condition but the sizes). -/
import Derived.Test.YtpcjablkjaiapaaDoorQAd1
import Derived.Test.YtpcjablkjaiapaaDoorQAd2
import Derived.Test.YtpcjablkjaiapaaDoorCdp
import Derived.Test.YtpcjablkjaiapaaDoorCadr
namespace Go.Proofs.YtpcjablkjaiapaaDoor.Ma
open Go.RowKit Go.Proofs.YtpcjablkjaiapaaDoorW.PrintWords Go.Proofs.YtpcjablkjaiapaaDoorW.PrintLast Go.Proofs.YtpcjablkjaiapaaDoorW.PrintMore Go.Proofs.YtpcjablkjaiapaaDoor.XP Go.Proofs.YtpcjablkjaiapaaDoor.QA Go.Proofs.YtpcjablkjaiapaaDoor.Cm
set_option linter.unusedVariables false
set_option linter.unusedSimpArgs false
def vis (c : UInt8) : Bool := decide (33 ≤ c.toNat) && decide (c.toNat ≤ 126)
def szB (n : Nat) : Bool := decide (1 ≤ n) && decide (n ≤ 32)
def cliB (s : ByteArray) : Bool := s.data.toList.all vis && szB s.size
def hostB (s : ByteArray) : Bool := decide (s.data.toList = []) || nameB s.data.toList
def timeB (t : Int) : Bool := decide (0 ≤ t) && decide (t ≤ 4294967295)
def adB (x : S25) : Bool := x.f0 || (decide (x.f1 = 0) && decide (x.f2 ≤ 4294967295))
theorem ad_v (x : S25) : addr_Valid.f x.f0 x.f1 x.f2 = some (adB x) := by
  unfold addr_Valid.f adB
  by_cases h : x.f0 = true
  · rw [if_pos h, h]; rfl
  · have : x.f0 = false := by simpa using h
    rw [if_neg h, this, Bool.false_or]
    by_cases h1 : x.f1 = 0
    · rw [if_pos h1, decide_eq_true h1, Bool.true_and]
    · rw [if_neg h1, decide_eq_false h1]; rfl
/-- A lease's own form: 3 the address, 1 the arguments, 2 the name, 0 in order. -/
def argB (x : S27) : Bool := decide (1 ≤ x.f2) && (decide (x.f2 ≤ 5) && (cliB x.f1 && (timeB x.f6 && (timeB x.f3 && (timeB x.f4 && decide (x.f3 ≤ x.f4))))))
def one (x : S27) : Int := if adB x.f0 = true then (if argB x = true then (if hostB x.f5 = true then 0 else 2) else 1) else 3
end Go.Proofs.YtpcjablkjaiapaaDoor.Ma
