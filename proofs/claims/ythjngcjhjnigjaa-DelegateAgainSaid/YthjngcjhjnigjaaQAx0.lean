import Derived.Test.YthjngcjhjnigjaaQAd1
import Derived.Test.YthjngcjhjnigjaaProg
import Derived.Test.YthjngcjhjnigjaaXR
import Derived.Test.YthjngcjhjnigjaaXW
import Derived.Test.YthjngcjhjnigjaaWMore
import Derived.Below
import Derived.Deep.Draws
import Derived.Deep.AppendLies
import Derived.Maps.AppendAt
import Derived.OwnWalk
import Derived.Laws.BytesArg
import Derived.Laws.MakeOwn
import Derived.Laws.OwnMore
import Derived.Deep.OwnRows
import Derived.Tactics
import Derived.Lib.ConvBytes
import Derived.Laws.Slices
import Derived.WalkKit
import Derived.KernelRfl
import Derived.RowKit3
import Derived.Deep.LoopGhost
import Derived.Deep.QuietTactic
import Derived.BigQuiet
import Derived.WideLaws
import Derived.Deep.DeepCutAuto
import Derived.Deep.CutBlock
import Derived.Deep.RegionHeld3
import Derived.Laws.Rows
import Derived.Lib.AppendStr
import Derived.ArgAppend
import Derived.Laws.IdiomCopy
import Derived.OrdersHeld
import Derived.Laws.BitsLemmas
import Derived.RowKit
namespace Go.Proofs.Ythjngcjhjnigjaa.QA
open Go.RowKit Go.Proofs.YthjngcjhjnigjaaW.PrintWords Go.Proofs.YthjngcjhjnigjaaW.PrintLast Go.Proofs.YthjngcjhjnigjaaW.PrintMore
attribute [local go_sem] max2_int min2_int max_two min_two max_three min_three max_four min_four
attribute [local go_sem high] Go.Proofs.Ythjngcjhjnigjaa.XW.cell_setCell_lit
set_option linter.unusedVariables false
set_option linter.unusedSimpArgs false
def errW : Option Int → Value
 | none => .nilIface
 | some c => .iface 0 (.int .i64 c)
theorem errW_none : errW none = .nilIface := rfl
theorem errW_some (c : Int) : errW (some c) = .iface 0 (.int .i64 c) := rfl
theorem info61 : (Try.prog.info? 61).map (fun i => (i.zero,i.size,i.bytes)) = some (some (.agg #[(.bool false),(.int .u64 0),(.int .u64 0),(.int .i64 0),(.string ⟨#[]⟩),(.int .i64 0)]),6,56) := by kernel_rfl
def k24 : Kd S24 := Kd.iso (Kd.pair Kd.bool (Kd.pair (Kd.int .u64) (Kd.int .u64))) (fun x : S24 => (x.f0,x.f1,x.f2))
theorem k24_open {w : World} {x : S24} {cs : List Value} (h : k24.K w x cs) : cs = [.bool x.f0,.int .u64 x.f1,.int .u64 x.f2] := by
 obtain ⟨_,_,rfl,rfl,⟨_,_,rfl,rfl,rfl⟩⟩ := h;exact rfl
theorem k24_openM {w : World} {base : Nat} {ok : Nat → Prop} {x : S24} {cs : List Value} (h : k24.M w base ok x cs) : cs = [.bool x.f0,.int .u64 x.f1,.int .u64 x.f2] := by
 obtain ⟨_,_,rfl,rfl,⟨_,_,rfl,rfl,rfl⟩⟩ := h;exact rfl
theorem k24_mkM (w : World) (base : Nat) (ok : Nat → Prop) (x : S24)  : k24.M w base ok x [.bool x.f0,.int .u64 x.f1,.int .u64 x.f2] := ⟨[.bool x.f0],[.int .u64 x.f1,.int .u64 x.f2],rfl,rfl,⟨[.int .u64 x.f1],[.int .u64 x.f2],rfl,rfl,rfl⟩⟩
def k26 : Kd S26 := Kd.iso (Kd.pair k24 (Kd.int .i64)) (fun x : S26 => (x.f0,x.f1))
theorem k26_open {w : World} {x : S26} {cs : List Value} (h : k26.K w x cs) : cs = [.bool x.f0.f0,.int .u64 x.f0.f1,.int .u64 x.f0.f2,.int .i64 x.f1] := by
 obtain ⟨_,_,rfl,s0,rfl⟩ := h;obtain rfl := k24_open s0;exact rfl
theorem k26_openM {w : World} {base : Nat} {ok : Nat → Prop} {x : S26} {cs : List Value} (h : k26.M w base ok x cs) : cs = [.bool x.f0.f0,.int .u64 x.f0.f1,.int .u64 x.f0.f2,.int .i64 x.f1] := by
 obtain ⟨_,_,rfl,s0,rfl⟩ := h;obtain rfl := k24_openM s0;exact rfl
theorem k26_mkM (w : World) (base : Nat) (ok : Nat → Prop) (x : S26)  : k26.M w base ok x [.bool x.f0.f0,.int .u64 x.f0.f1,.int .u64 x.f0.f2,.int .i64 x.f1] := ⟨[.bool x.f0.f0,.int .u64 x.f0.f1,.int .u64 x.f0.f2],[.int .i64 x.f1],rfl,(k24_mkM w base ok x.f0 ),rfl⟩
def k70 : Kd S70 := Kd.iso (Kd.pair k26 (Kd.pair Kd.string (Kd.int .i64))) (fun x : S70 => (x.f0,x.f1,x.f2))
theorem k70_open {w : World} {x : S70} {cs : List Value} (h : k70.K w x cs) : cs = [.bool x.f0.f0.f0,.int .u64 x.f0.f0.f1,.int .u64 x.f0.f0.f2,.int .i64 x.f0.f1,.string x.f1,.int .i64 x.f2] := by
 obtain ⟨_,_,rfl,s0,⟨_,_,rfl,rfl,rfl⟩⟩ := h;obtain rfl := k26_open s0;exact rfl
theorem at_T70 {w : World} {A : Option Addr} {n : Nat} {xs : List S70} (h : Kd.C k70 w A n xs) (i : Int) (h0 : 0 ≤ i) (h1 : i < n) : ∃ ad ,A = some ad ∧ w.cell? (ad.add (i.toNat * 6)) = some (.bool (rd_T70 xs i).f0.f0.f0) ∧ w.cell? ⟨(ad.add (i.toNat * 6)).block,(ad.add (i.toNat * 6)).off + 1,none⟩ = some (.int .u64 (rd_T70 xs i).f0.f0.f1) ∧ w.cell? ⟨(ad.add (i.toNat * 6)).block,(ad.add (i.toNat * 6)).off + 2,none⟩ = some (.int .u64 (rd_T70 xs i).f0.f0.f2) ∧ w.cell? ⟨(ad.add (i.toNat * 6)).block,(ad.add (i.toNat * 6)).off + 3,none⟩ = some (.int .i64 (rd_T70 xs i).f0.f1) ∧ w.cell? ⟨(ad.add (i.toNat * 6)).block,(ad.add (i.toNat * 6)).off + 4,none⟩ = some (.string (rd_T70 xs i).f1) ∧ w.cell? ⟨(ad.add (i.toNat * 6)).block,(ad.add (i.toNat * 6)).off + 5,none⟩ = some (.int .i64 (rd_T70 xs i).f2) := by
 obtain ⟨ad,c,e,_,hK,hc0⟩ := Kd.C_get h z70 i h0 h1;have hc : ∀ j u,c[j]? = some u → w.cell? (ad.add (i.toNat * 6 + j)) = some u := hc0;obtain rfl := k70_open hK;exact ⟨ad,e,hc 0 _ rfl,by rw [← add_field _ _ 1 (by omega)];exact hc 1 _ rfl,by rw [← add_field _ _ 2 (by omega)];exact hc 2 _ rfl,by rw [← add_field _ _ 3 (by omega)];exact hc 3 _ rfl,by rw [← add_field _ _ 4 (by omega)];exact hc 4 _ rfl,by rw [← add_field _ _ 5 (by omega)];exact hc 5 _ rfl⟩
def k61 : Kd S61 := Kd.iso (Kd.pair k26 (Kd.pair Kd.string (Kd.int .i64))) (fun x : S61 => (x.f0,x.f1,x.f2))
theorem k61_open {w : World} {x : S61} {cs : List Value} (h : k61.K w x cs) : cs = [.bool x.f0.f0.f0,.int .u64 x.f0.f0.f1,.int .u64 x.f0.f0.f2,.int .i64 x.f0.f1,.string x.f1,.int .i64 x.f2] := by
 obtain ⟨_,_,rfl,s0,⟨_,_,rfl,rfl,rfl⟩⟩ := h;obtain rfl := k26_open s0;exact rfl
theorem k61_openM {w : World} {base : Nat} {ok : Nat → Prop} {x : S61} {cs : List Value} (h : k61.M w base ok x cs) : cs = [.bool x.f0.f0.f0,.int .u64 x.f0.f0.f1,.int .u64 x.f0.f0.f2,.int .i64 x.f0.f1,.string x.f1,.int .i64 x.f2] := by
 obtain ⟨_,_,rfl,s0,⟨_,_,rfl,rfl,rfl⟩⟩ := h;obtain rfl := k26_openM s0;exact rfl
theorem k61_mkM (w : World) (base : Nat) (ok : Nat → Prop) (x : S61)  : k61.M w base ok x [.bool x.f0.f0.f0,.int .u64 x.f0.f0.f1,.int .u64 x.f0.f0.f2,.int .i64 x.f0.f1,.string x.f1,.int .i64 x.f2] := ⟨[.bool x.f0.f0.f0,.int .u64 x.f0.f0.f1,.int .u64 x.f0.f0.f2,.int .i64 x.f0.f1],[.string x.f1,.int .i64 x.f2],rfl,(k26_mkM w base ok x.f0 ),⟨[.string x.f1],[.int .i64 x.f2],rfl,rfl,rfl⟩⟩
theorem at_T61 {w : World} {A : Option Addr} {n : Nat} {xs : List S61} (h : Kd.C k61 w A n xs) (i : Int) (h0 : 0 ≤ i) (h1 : i < n) : ∃ ad ,A = some ad ∧ w.cell? (ad.add (i.toNat * 6)) = some (.bool (rd_T61 xs i).f0.f0.f0) ∧ w.cell? ⟨(ad.add (i.toNat * 6)).block,(ad.add (i.toNat * 6)).off + 1,none⟩ = some (.int .u64 (rd_T61 xs i).f0.f0.f1) ∧ w.cell? ⟨(ad.add (i.toNat * 6)).block,(ad.add (i.toNat * 6)).off + 2,none⟩ = some (.int .u64 (rd_T61 xs i).f0.f0.f2) ∧ w.cell? ⟨(ad.add (i.toNat * 6)).block,(ad.add (i.toNat * 6)).off + 3,none⟩ = some (.int .i64 (rd_T61 xs i).f0.f1) ∧ w.cell? ⟨(ad.add (i.toNat * 6)).block,(ad.add (i.toNat * 6)).off + 4,none⟩ = some (.string (rd_T61 xs i).f1) ∧ w.cell? ⟨(ad.add (i.toNat * 6)).block,(ad.add (i.toNat * 6)).off + 5,none⟩ = some (.int .i64 (rd_T61 xs i).f2) := by
 obtain ⟨ad,c,e,_,hK,hc0⟩ := Kd.C_get h z61 i h0 h1;have hc : ∀ j u,c[j]? = some u → w.cell? (ad.add (i.toNat * 6 + j)) = some u := hc0;obtain rfl := k61_open hK;exact ⟨ad,e,hc 0 _ rfl,by rw [← add_field _ _ 1 (by omega)];exact hc 1 _ rfl,by rw [← add_field _ _ 2 (by omega)];exact hc 2 _ rfl,by rw [← add_field _ _ 3 (by omega)];exact hc 3 _ rfl,by rw [← add_field _ _ 4 (by omega)];exact hc 4 _ rfl,by rw [← add_field _ _ 5 (by omega)];exact hc 5 _ rfl⟩
def k28 : Kd S28 := Kd.iso (Kd.pair k26 (Kd.int .i64)) (fun x : S28 => (x.f0,x.f1))
theorem k28_open {w : World} {x : S28} {cs : List Value} (h : k28.K w x cs) : cs = [.bool x.f0.f0.f0,.int .u64 x.f0.f0.f1,.int .u64 x.f0.f0.f2,.int .i64 x.f0.f1,.int .i64 x.f1] := by
 obtain ⟨_,_,rfl,s0,rfl⟩ := h;obtain rfl := k26_open s0;exact rfl
def k31 : Kd S31 := Kd.iso (Kd.pair Kd.string (Kd.pair k26 (Kd.pair (Kd.int .i64) (Kd.int .i64)))) (fun x : S31 => (x.f0,x.f1,x.f2,x.f3))
theorem k31_open {w : World} {x : S31} {cs : List Value} (h : k31.K w x cs) : cs = [.string x.f0,.bool x.f1.f0.f0,.int .u64 x.f1.f0.f1,.int .u64 x.f1.f0.f2,.int .i64 x.f1.f1,.int .i64 x.f2,.int .i64 x.f3] := by
 obtain ⟨_,_,rfl,rfl,⟨_,_,rfl,s1,⟨_,_,rfl,rfl,rfl⟩⟩⟩ := h;obtain rfl := k26_open s1;exact rfl
end Go.Proofs.Ythjngcjhjnigjaa.QA
