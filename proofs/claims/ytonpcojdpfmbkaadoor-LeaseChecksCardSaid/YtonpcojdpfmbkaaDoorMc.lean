/- LeaseChecks: the program's check and the reference's give one number, for every table. -/
import Derived.Test.YtonpcojdpfmbkaaDoorQAd1
import Derived.Test.YtonpcojdpfmbkaaDoorMb
namespace Go.Proofs.YtonpcojdpfmbkaaDoor.Ma
open Go.RowKit Go.Proofs.YtonpcojdpfmbkaaDoorW.PrintWords Go.Proofs.YtonpcojdpfmbkaaDoorW.PrintLast Go.Proofs.YtonpcojdpfmbkaaDoorW.PrintMore Go.Proofs.YtonpcojdpfmbkaaDoor.XP Go.Proofs.YtonpcojdpfmbkaaDoor.QA Go.Proofs.YtonpcojdpfmbkaaDoor.Cm
set_option linter.unusedVariables false
set_option linter.unusedSimpArgs false
theorem awake_ev : Ev (fun k => ddilaw38_awake.f k) true := ⟨60, fun k hk => at_rounds ddilaw38_awake.mono hk (by decide +kernel)⟩
theorem leaseChecks : ddilaw38_LeaseChecks.Pure := by
  intro l ⟨hl, _, ok⟩
  refine Ev.rounds (?_ : Ev (fun k => ddilaw38_LeaseChecks.f k l) true)
  unfold ddilaw38_LeaseChecks.f
  refine Ev.bind (check_ev l (by omega) ok) ?_
  refine Ev.bind (rcheck_ev l (by omega) ok) ?_
  simp only [if_true]
  exact Ev.bind awake_ev (Ev_const rfl)
end Go.Proofs.YtonpcojdpfmbkaaDoor.Ma
