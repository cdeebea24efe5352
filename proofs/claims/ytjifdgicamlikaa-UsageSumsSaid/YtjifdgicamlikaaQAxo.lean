import Derived.Test.YtjifdgicamlikaaQAx0
import Derived.Test.YtjifdgicamlikaaXO
import Derived.Test.YtjifdgicamlikaaQAd1
namespace Go.Proofs.Ytjifdgicamlikaa.QA
open Go.RowKit Go.Proofs.YtjifdgicamlikaaW.PrintWords Go.Proofs.YtjifdgicamlikaaW.PrintLast Go.Proofs.YtjifdgicamlikaaW.PrintMore
set_option linter.unusedVariables false
theorem oS29 : XO.Opens Try.prog 29 k29 okS29 := XO.Opens.imp_ (XO.Opens.struct Try.underlying29 (by kernel_rfl) (XO.OpensF.cons rfl (by kernel_rfl) (XO.Opens.bool Try.underlying4) (XO.OpensF.cons rfl (by kernel_rfl) (XO.Opens.int Try.underlying27) (XO.OpensF.last rfl (by kernel_rfl) (XO.Opens.int Try.underlying27)))) (fun x : S29 => (x.f0, x.f1, x.f2)) (fun p => ⟨p.1, p.2.1, p.2.2⟩) (fun _ => rfl)) (fun _ h => h)
theorem oS31 : XO.Opens Try.prog 31 k31 okS31 := XO.Opens.imp_ (XO.Opens.struct Try.underlying31 (by kernel_rfl) (XO.OpensF.cons rfl (by kernel_rfl) oS29 (XO.OpensF.last rfl (by kernel_rfl) (XO.Opens.int Try.underlying3))) (fun x : S31 => (x.f0, x.f1)) (fun p => ⟨p.1, p.2⟩) (fun _ => rfl)) (fun _ h => h)
end Go.Proofs.Ytjifdgicamlikaa.QA
