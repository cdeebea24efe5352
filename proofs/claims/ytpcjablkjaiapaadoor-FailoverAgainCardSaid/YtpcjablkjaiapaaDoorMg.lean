/- FailoverMerges: Merge and Serves give what the reference gives. -/
import Derived.Test.YtpcjablkjaiapaaDoorQAd1
import Derived.Test.YtpcjablkjaiapaaDoorMf
namespace Go.Proofs.YtpcjablkjaiapaaDoor.Ma
open Go.RowKit Go.Proofs.YtpcjablkjaiapaaDoorW.PrintWords Go.Proofs.YtpcjablkjaiapaaDoorW.PrintLast Go.Proofs.YtpcjablkjaiapaaDoorW.PrintMore Go.Proofs.YtpcjablkjaiapaaDoor.XP Go.Proofs.YtpcjablkjaiapaaDoor.QA Go.Proofs.YtpcjablkjaiapaaDoor.Cm
set_option linter.unusedVariables false
set_option linter.unusedSimpArgs false
theorem w12 : wrap64 (1 + 1) = 2 := by rw [wrap_id (by omega) (by omega)]; rfl
theorem mrg_len (l : List S27) (x : S27) : (mrgT l x).1.length ≤ l.length + 1 := by
  unfold mrgT
  split
  · split
    · split <;> simp
    · split
      · simp
      · show (ins x l).length ≤ _
        unfold ins
        have := pos_le x.f0 l
        simp
        omega
  · simp
def x0 : S27 := ⟨⟨false, 0, 1⟩, ⟨#[99]⟩, 2, 0, 5, ⟨#[]⟩, 0⟩
theorem x0_ok : okS27 x0 := by
  refine ⟨⟨?_, ?_⟩, ?_⟩ <;> decide
theorem first_ev : Ev (fun k => failover_Merge.f k ([] : List S27) false 0 1 (⟨#[99]⟩ : ByteArray) 2 0 5 (⟨#[]⟩ : ByteArray) 0) ([x0], true) := by
  have := merge_ev [] (by simp) List.Pairwise.nil x0 x0_ok
  have e : mrgT [] x0 = ([x0], true) := by
    unfold mrgT
    rw [if_pos (by decide +kernel)]
    rfl
  rw [e] at this
  exact this
end Go.Proofs.YtpcjablkjaiapaaDoor.Ma
