import Derived.Test.YtonpcojdpfmbkaaDoorQAx0
import Derived.Test.YtonpcojdpfmbkaaDoorXO
import Derived.Test.YtonpcojdpfmbkaaDoorQAd1
namespace Go.Proofs.YtonpcojdpfmbkaaDoor.QA
open Go.RowKit Go.Proofs.YtonpcojdpfmbkaaDoorW.PrintWords Go.Proofs.YtonpcojdpfmbkaaDoorW.PrintLast Go.Proofs.YtonpcojdpfmbkaaDoorW.PrintMore
set_option linter.unusedVariables false
theorem oS29 : XO.Opens Tryd.prog 29 k29 okS29 := XO.Opens.imp_ (XO.Opens.struct Tryd.underlying29 (by kernel_rfl) (XO.OpensF.cons rfl (by kernel_rfl) (XO.Opens.bool Tryd.underlying4) (XO.OpensF.cons rfl (by kernel_rfl) (XO.Opens.int Tryd.underlying27) (XO.OpensF.last rfl (by kernel_rfl) (XO.Opens.int Tryd.underlying27)))) (fun x : S29 => (x.f0, x.f1, x.f2)) (fun p => ⟨p.1, p.2.1, p.2.2⟩) (fun _ => rfl)) (fun _ h => h)
theorem oS31 : XO.Opens Tryd.prog 31 k31 okS31 := XO.Opens.imp_ (XO.Opens.struct Tryd.underlying31 (by kernel_rfl) (XO.OpensF.cons rfl (by kernel_rfl) oS29 (XO.OpensF.cons rfl (by kernel_rfl) (XO.Opens.string Tryd.underlying9) (XO.OpensF.cons rfl (by kernel_rfl) (XO.Opens.string Tryd.underlying9) (XO.OpensF.cons rfl (by kernel_rfl) (XO.Opens.int Tryd.underlying3) (XO.OpensF.cons rfl (by kernel_rfl) (XO.Opens.int Tryd.underlying3) (XO.OpensF.last rfl (by kernel_rfl) (XO.Opens.int Tryd.underlying3))))))) (fun x : S31 => (x.f0, x.f1, x.f2, x.f3, x.f4, x.f5)) (fun p => ⟨p.1, p.2.1, p.2.2.1, p.2.2.2.1, p.2.2.2.2.1, p.2.2.2.2.2⟩) (fun _ => rfl)) (fun _ h => h)
theorem oS52 : XO.Opens Tryd.prog 52 k52 okS52 := XO.Opens.imp_ (XO.Opens.struct Tryd.underlying52 (by kernel_rfl) (XO.OpensF.cons rfl (by kernel_rfl) (XO.Opens.int Tryd.underlying5) (XO.OpensF.last rfl (by kernel_rfl) oS31)) (fun x : S52 => (x.f0, x.f1)) (fun p => ⟨p.1, p.2⟩) (fun _ => rfl)) (fun _ h => h)
end Go.Proofs.YtonpcojdpfmbkaaDoor.QA
