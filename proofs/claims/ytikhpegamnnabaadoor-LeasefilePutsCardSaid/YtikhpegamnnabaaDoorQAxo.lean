import Derived.Test.YtikhpegamnnabaaDoorQAx0
import Derived.Test.YtikhpegamnnabaaDoorXO
import Derived.Test.YtikhpegamnnabaaDoorQAd1
namespace Go.Proofs.YtikhpegamnnabaaDoor.QA
open Go.RowKit Go.Proofs.YtikhpegamnnabaaDoorW.PrintWords Go.Proofs.YtikhpegamnnabaaDoorW.PrintLast Go.Proofs.YtikhpegamnnabaaDoorW.PrintMore
set_option linter.unusedVariables false
theorem oS24 : XO.Opens Tryd.prog 24 k24 okS24 := XO.Opens.imp_ (XO.Opens.struct Tryd.underlying24 (by kernel_rfl) (XO.OpensF.cons rfl (by kernel_rfl) (XO.Opens.bool Tryd.underlying4) (XO.OpensF.cons rfl (by kernel_rfl) (XO.Opens.int Tryd.underlying22) (XO.OpensF.last rfl (by kernel_rfl) (XO.Opens.int Tryd.underlying22)))) (fun x : S24 => (x.f0, x.f1, x.f2)) (fun p => ⟨p.1, p.2.1, p.2.2⟩) (fun _ => rfl)) (fun _ h => h)
theorem oS26 : XO.Opens Tryd.prog 26 k26 okS26 := XO.Opens.imp_ (XO.Opens.struct Tryd.underlying26 (by kernel_rfl) (XO.OpensF.cons rfl (by kernel_rfl) oS24 (XO.OpensF.cons rfl (by kernel_rfl) (XO.Opens.string Tryd.underlying9) (XO.OpensF.cons rfl (by kernel_rfl) (XO.Opens.int Tryd.underlying3) (XO.OpensF.cons rfl (by kernel_rfl) (XO.Opens.int Tryd.underlying3) (XO.OpensF.cons rfl (by kernel_rfl) (XO.Opens.int Tryd.underlying3) (XO.OpensF.cons rfl (by kernel_rfl) (XO.Opens.string Tryd.underlying9) (XO.OpensF.last rfl (by kernel_rfl) (XO.Opens.int Tryd.underlying3)))))))) (fun x : S26 => (x.f0, x.f1, x.f2, x.f3, x.f4, x.f5, x.f6)) (fun p => ⟨p.1, p.2.1, p.2.2.1, p.2.2.2.1, p.2.2.2.2.1, p.2.2.2.2.2.1, p.2.2.2.2.2.2⟩) (fun _ => rfl)) (fun _ h => h)
end Go.Proofs.YtikhpegamnnabaaDoor.QA
