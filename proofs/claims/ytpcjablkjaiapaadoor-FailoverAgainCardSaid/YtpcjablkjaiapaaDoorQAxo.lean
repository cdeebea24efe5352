import Derived.Test.YtpcjablkjaiapaaDoorQAx0
import Derived.Test.YtpcjablkjaiapaaDoorXO
import Derived.Test.YtpcjablkjaiapaaDoorQAd1
namespace Go.Proofs.YtpcjablkjaiapaaDoor.QA
open Go.RowKit Go.Proofs.YtpcjablkjaiapaaDoorW.PrintWords Go.Proofs.YtpcjablkjaiapaaDoorW.PrintLast Go.Proofs.YtpcjablkjaiapaaDoorW.PrintMore
set_option linter.unusedVariables false
theorem oS25 : XO.Opens Tryd.prog 25 k25 okS25 := XO.Opens.imp_ (XO.Opens.struct Tryd.underlying25 (by kernel_rfl) (XO.OpensF.cons rfl (by kernel_rfl) (XO.Opens.bool Tryd.underlying4) (XO.OpensF.cons rfl (by kernel_rfl) (XO.Opens.int Tryd.underlying23) (XO.OpensF.last rfl (by kernel_rfl) (XO.Opens.int Tryd.underlying23)))) (fun x : S25 => (x.f0, x.f1, x.f2)) (fun p => ⟨p.1, p.2.1, p.2.2⟩) (fun _ => rfl)) (fun _ h => h)
theorem oS27 : XO.Opens Tryd.prog 27 k27 okS27 := XO.Opens.imp_ (XO.Opens.struct Tryd.underlying27 (by kernel_rfl) (XO.OpensF.cons rfl (by kernel_rfl) oS25 (XO.OpensF.cons rfl (by kernel_rfl) (XO.Opens.string Tryd.underlying9) (XO.OpensF.cons rfl (by kernel_rfl) (XO.Opens.int Tryd.underlying3) (XO.OpensF.cons rfl (by kernel_rfl) (XO.Opens.int Tryd.underlying3) (XO.OpensF.cons rfl (by kernel_rfl) (XO.Opens.int Tryd.underlying3) (XO.OpensF.cons rfl (by kernel_rfl) (XO.Opens.string Tryd.underlying9) (XO.OpensF.last rfl (by kernel_rfl) (XO.Opens.int Tryd.underlying3)))))))) (fun x : S27 => (x.f0, x.f1, x.f2, x.f3, x.f4, x.f5, x.f6)) (fun p => ⟨p.1, p.2.1, p.2.2.1, p.2.2.2.1, p.2.2.2.2.1, p.2.2.2.2.2.1, p.2.2.2.2.2.2⟩) (fun _ => rfl)) (fun _ h => h)
end Go.Proofs.YtpcjablkjaiapaaDoor.QA
