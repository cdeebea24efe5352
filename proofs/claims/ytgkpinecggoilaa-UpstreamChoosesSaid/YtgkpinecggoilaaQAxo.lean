-- Written by this session's own program (wip/xprint) out of the translation; Lean checks it.
import Derived.Test.YtgkpinecggoilaaQAx0
import Derived.Test.YtgkpinecggoilaaXO
import Derived.Test.YtgkpinecggoilaaQAd1
import Derived.Test.YtgkpinecggoilaaQAd2
namespace Go.Proofs.Ytgkpinecggoilaa.QA
open Go.RowKit Go.Proofs.YtgkpinecggoilaaW.PrintWords Go.Proofs.YtgkpinecggoilaaW.PrintLast Go.Proofs.YtgkpinecggoilaaW.PrintMore
set_option linter.unusedVariables false
theorem oS25 : XO.Opens Try.prog 25 k25 okS25 := XO.Opens.imp_ (XO.Opens.struct Try.underlying25 (by kernel_rfl) (XO.OpensF.cons rfl (by kernel_rfl) (XO.Opens.bool Try.underlying4) (XO.OpensF.cons rfl (by kernel_rfl) (XO.Opens.int Try.underlying23) (XO.OpensF.last rfl (by kernel_rfl) (XO.Opens.int Try.underlying23)))) (fun x : S25 => (x.f0, x.f1, x.f2)) (fun p => ⟨p.1, p.2.1, p.2.2⟩) (fun _ => rfl)) (fun _ h => h)
theorem oS34 : XO.Opens Try.prog 34 k34 okS34 := XO.Opens.imp_ (XO.Opens.struct Try.underlying34 (by kernel_rfl) (XO.OpensF.cons rfl (by kernel_rfl) oS25 (XO.OpensF.cons rfl (by kernel_rfl) (XO.Opens.int Try.underlying3) (XO.OpensF.cons rfl (by kernel_rfl) (XO.Opens.int Try.underlying3) (XO.OpensF.last rfl (by kernel_rfl) (XO.Opens.int Try.underlying3))))) (fun x : S34 => (x.f0, x.f1, x.f2, x.f3)) (fun p => ⟨p.1, p.2.1, p.2.2.1, p.2.2.2⟩) (fun _ => rfl)) (fun _ h => h)
theorem oS27 : XO.Opens Try.prog 27 k27 okS27 := XO.Opens.imp_ (XO.Opens.struct Try.underlying27 (by kernel_rfl) (XO.OpensF.cons rfl (by kernel_rfl) oS25 (XO.OpensF.cons rfl (by kernel_rfl) (XO.Opens.bool Try.underlying4) (XO.OpensF.cons rfl (by kernel_rfl) (XO.Opens.int Try.underlying3) (XO.OpensF.last rfl (by kernel_rfl) (XO.Opens.int Try.underlying3))))) (fun x : S27 => (x.f0, x.f1, x.f2, x.f3)) (fun p => ⟨p.1, p.2.1, p.2.2.1, p.2.2.2⟩) (fun _ => rfl)) (fun _ h => h)
theorem oS42 : XO.Opens Try.prog 42 k42 okS42 := XO.Opens.imp_ (XO.Opens.struct Try.underlying42 (by kernel_rfl) (XO.OpensF.cons rfl (by kernel_rfl) (XO.Opens.slice (B := 24) Try.underlying40 (by kernel_rfl) (by kernel_rfl) oS25) (XO.OpensF.cons rfl (by kernel_rfl) (XO.Opens.slice (B := 24) Try.underlying40 (by kernel_rfl) (by kernel_rfl) oS25) (XO.OpensF.last rfl (by kernel_rfl) (XO.Opens.int Try.underlying3)))) (fun x : S42 => (x.f0, x.f1, x.f2)) (fun p => ⟨p.1, p.2.1, p.2.2⟩) (fun _ => rfl)) (fun _ h => h)
end Go.Proofs.Ytgkpinecggoilaa.QA
