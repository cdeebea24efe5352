import Derived.Test.YthjngcjhjnigjaaQAx0
import Derived.Test.YthjngcjhjnigjaaXO
import Derived.Test.YthjngcjhjnigjaaQAd1
namespace Go.Proofs.Ythjngcjhjnigjaa.QA
open Go.RowKit Go.Proofs.YthjngcjhjnigjaaW.PrintWords Go.Proofs.YthjngcjhjnigjaaW.PrintLast Go.Proofs.YthjngcjhjnigjaaW.PrintMore
set_option linter.unusedVariables false
theorem oS24 : XO.Opens Try.prog 24 k24 okS24 := XO.Opens.imp_ (XO.Opens.struct Try.underlying24 (by kernel_rfl) (XO.OpensF.cons rfl (by kernel_rfl) (XO.Opens.bool Try.underlying4) (XO.OpensF.cons rfl (by kernel_rfl) (XO.Opens.int Try.underlying22) (XO.OpensF.last rfl (by kernel_rfl) (XO.Opens.int Try.underlying22)))) (fun x : S24 => (x.f0, x.f1, x.f2)) (fun p => ⟨p.1, p.2.1, p.2.2⟩) (fun _ => rfl)) (fun _ h => h)
theorem oS26 : XO.Opens Try.prog 26 k26 okS26 := XO.Opens.imp_ (XO.Opens.struct Try.underlying26 (by kernel_rfl) (XO.OpensF.cons rfl (by kernel_rfl) oS24 (XO.OpensF.last rfl (by kernel_rfl) (XO.Opens.int Try.underlying3))) (fun x : S26 => (x.f0, x.f1)) (fun p => ⟨p.1, p.2⟩) (fun _ => rfl)) (fun _ h => h)
theorem oS28 : XO.Opens Try.prog 28 k28 okS28 := XO.Opens.imp_ (XO.Opens.struct Try.underlying28 (by kernel_rfl) (XO.OpensF.cons rfl (by kernel_rfl) oS26 (XO.OpensF.last rfl (by kernel_rfl) (XO.Opens.int Try.underlying3))) (fun x : S28 => (x.f0, x.f1)) (fun p => ⟨p.1, p.2⟩) (fun _ => rfl)) (fun _ h => h)
theorem oS70 : XO.Opens Try.prog 70 k70 okS70 := XO.Opens.imp_ (XO.Opens.struct Try.underlying70 (by kernel_rfl) (XO.OpensF.cons rfl (by kernel_rfl) oS26 (XO.OpensF.cons rfl (by kernel_rfl) (XO.Opens.string Try.underlying9) (XO.OpensF.last rfl (by kernel_rfl) (XO.Opens.int Try.underlying3)))) (fun x : S70 => (x.f0, x.f1, x.f2)) (fun p => ⟨p.1, p.2.1, p.2.2⟩) (fun _ => rfl)) (fun _ h => h)
theorem oS31 : XO.Opens Try.prog 31 k31 okS31 := XO.Opens.imp_ (XO.Opens.struct Try.underlying31 (by kernel_rfl) (XO.OpensF.cons rfl (by kernel_rfl) (XO.Opens.string Try.underlying9) (XO.OpensF.cons rfl (by kernel_rfl) oS26 (XO.OpensF.cons rfl (by kernel_rfl) (XO.Opens.int Try.underlying3) (XO.OpensF.last rfl (by kernel_rfl) (XO.Opens.int Try.underlying3))))) (fun x : S31 => (x.f0, x.f1, x.f2, x.f3)) (fun p => ⟨p.1, p.2.1, p.2.2.1, p.2.2.2⟩) (fun _ => rfl)) (fun _ h => h)
end Go.Proofs.Ythjngcjhjnigjaa.QA
