import Derived.Test.YtjifdgicamlikaaQAd1
import Derived.Test.YtjifdgicamlikaaProg
import Derived.Test.YtjifdgicamlikaaXR
import Derived.Test.YtjifdgicamlikaaXW
import Derived.Test.YtjifdgicamlikaaWMore
import Derived.Below
import Derived.Deep.Draws
import Derived.Deep.AppendLies
import Derived.Maps.AppendAt
import Derived.OwnWalk
import Derived.Laws.BytesArg
import Derived.Laws.MakeOwn
import Derived.Laws.OwnMore
import Derived.Deep.OwnRows
import Derived.Tactics
import Derived.Lib.ConvBytes
import Derived.Laws.Slices
import Derived.WalkKit
import Derived.KernelRfl
import Derived.RowKit3
import Derived.Deep.LoopGhost
import Derived.Deep.QuietTactic
import Derived.BigQuiet
import Derived.WideLaws
import Derived.Deep.DeepCutAuto
import Derived.Deep.CutBlock
import Derived.Deep.RegionHeld3
import Derived.Laws.Rows
import Derived.Lib.AppendStr
import Derived.ArgAppend
import Derived.Laws.IdiomCopy
import Derived.OrdersHeld
import Derived.Laws.BitsLemmas
import Derived.RowKit
namespace Go.Proofs.Ytjifdgicamlikaa.QA
open Go.RowKit Go.Proofs.YtjifdgicamlikaaW.PrintWords Go.Proofs.YtjifdgicamlikaaW.PrintLast Go.Proofs.YtjifdgicamlikaaW.PrintMore
attribute [local go_sem] max2_int min2_int max_two min_two max_three min_three max_four min_four
attribute [local go_sem high] Go.Proofs.Ytjifdgicamlikaa.XW.cell_setCell_lit
set_option linter.unusedVariables false
set_option linter.unusedSimpArgs false
def errW : Option Int → Value
 | none => .nilIface
 | some c => .iface 0 (.int .i64 c)
theorem errW_none : errW none = .nilIface := rfl
theorem errW_some (c : Int) : errW (some c) = .iface 0 (.int .i64 c) := rfl
theorem info9 : (Try.prog.info? 9).map (fun i => (i.zero,i.size,i.bytes)) = some (some (.string ⟨#[]⟩),1,16) := by kernel_rfl
theorem info29 : (Try.prog.info? 29).map (fun i => (i.zero,i.size,i.bytes)) = some (some (.agg #[(.bool false),(.int .u64 0),(.int .u64 0)]),3,24) := by kernel_rfl
theorem info31 : (Try.prog.info? 31).map (fun i => (i.zero,i.size,i.bytes)) = some (some (.agg #[(.bool false),(.int .u64 0),(.int .u64 0),(.int .i64 0)]),4,32) := by kernel_rfl
theorem info36 : (Try.prog.info? 36).map (fun i => (i.zero,i.size,i.bytes)) = some (some (.agg #[(.bool false),(.int .u64 0),(.int .u64 0),(.int .i64 0),(.int .u64 0),(.int .u64 0),(.int .i64 0)]),7,56) := by kernel_rfl
theorem info60 : (Try.prog.info? 60).map (fun i => (i.zero,i.size,i.bytes)) = some (some (.agg #[(.bool false),(.int .u64 0),(.int .u64 0),(.int .i64 0),(.int .i64 0),(.string ⟨#[]⟩),(.string ⟨#[]⟩),(.int .i64 0)]),8,80) := by kernel_rfl
theorem info73 : (Try.prog.info? 73).map (fun i => (i.zero,i.size,i.bytes)) = some (some (.agg #[(.string ⟨#[]⟩),(.bool false),(.int .u64 0),(.int .u64 0),(.int .i64 0)]),5,48) := by kernel_rfl
def k29 : Kd S29 := Kd.iso (Kd.pair Kd.bool (Kd.pair (Kd.int .u64) (Kd.int .u64))) (fun x : S29 => (x.f0,x.f1,x.f2))
theorem k29_open {w : World} {x : S29} {cs : List Value} (h : k29.K w x cs) : cs = [.bool x.f0,.int .u64 x.f1,.int .u64 x.f2] := by
 obtain ⟨_,_,rfl,rfl,⟨_,_,rfl,rfl,rfl⟩⟩ := h;exact rfl
theorem k29_openM {w : World} {base : Nat} {ok : Nat → Prop} {x : S29} {cs : List Value} (h : k29.M w base ok x cs) : cs = [.bool x.f0,.int .u64 x.f1,.int .u64 x.f2] := by
 obtain ⟨_,_,rfl,rfl,⟨_,_,rfl,rfl,rfl⟩⟩ := h;exact rfl
theorem k29_mkM (w : World) (base : Nat) (ok : Nat → Prop) (x : S29)  : k29.M w base ok x [.bool x.f0,.int .u64 x.f1,.int .u64 x.f2] := ⟨[.bool x.f0],[.int .u64 x.f1,.int .u64 x.f2],rfl,rfl,⟨[.int .u64 x.f1],[.int .u64 x.f2],rfl,rfl,rfl⟩⟩
theorem at_T29 {w : World} {A : Option Addr} {n : Nat} {xs : List S29} (h : Kd.C k29 w A n xs) (i : Int) (h0 : 0 ≤ i) (h1 : i < n) : ∃ ad ,A = some ad ∧ w.cell? (ad.add (i.toNat * 3)) = some (.bool (rd_T29 xs i).f0) ∧ w.cell? ⟨(ad.add (i.toNat * 3)).block,(ad.add (i.toNat * 3)).off + 1,none⟩ = some (.int .u64 (rd_T29 xs i).f1) ∧ w.cell? ⟨(ad.add (i.toNat * 3)).block,(ad.add (i.toNat * 3)).off + 2,none⟩ = some (.int .u64 (rd_T29 xs i).f2) := by
 obtain ⟨ad,c,e,_,hK,hc0⟩ := Kd.C_get h z29 i h0 h1;have hc : ∀ j u,c[j]? = some u → w.cell? (ad.add (i.toNat * 3 + j)) = some u := hc0;obtain rfl := k29_open hK;exact ⟨ad,e,hc 0 _ rfl,by rw [← add_field _ _ 1 (by omega)];exact hc 1 _ rfl,by rw [← add_field _ _ 2 (by omega)];exact hc 2 _ rfl⟩
def k31 : Kd S31 := Kd.iso (Kd.pair k29 (Kd.int .i64)) (fun x : S31 => (x.f0,x.f1))
theorem k31_open {w : World} {x : S31} {cs : List Value} (h : k31.K w x cs) : cs = [.bool x.f0.f0,.int .u64 x.f0.f1,.int .u64 x.f0.f2,.int .i64 x.f1] := by
 obtain ⟨_,_,rfl,s0,rfl⟩ := h;obtain rfl := k29_open s0;exact rfl
theorem k31_openM {w : World} {base : Nat} {ok : Nat → Prop} {x : S31} {cs : List Value} (h : k31.M w base ok x cs) : cs = [.bool x.f0.f0,.int .u64 x.f0.f1,.int .u64 x.f0.f2,.int .i64 x.f1] := by
 obtain ⟨_,_,rfl,s0,rfl⟩ := h;obtain rfl := k29_openM s0;exact rfl
theorem k31_mkM (w : World) (base : Nat) (ok : Nat → Prop) (x : S31)  : k31.M w base ok x [.bool x.f0.f0,.int .u64 x.f0.f1,.int .u64 x.f0.f2,.int .i64 x.f1] := ⟨[.bool x.f0.f0,.int .u64 x.f0.f1,.int .u64 x.f0.f2],[.int .i64 x.f1],rfl,(k29_mkM w base ok x.f0 ),rfl⟩
theorem at_T31 {w : World} {A : Option Addr} {n : Nat} {xs : List S31} (h : Kd.C k31 w A n xs) (i : Int) (h0 : 0 ≤ i) (h1 : i < n) : ∃ ad ,A = some ad ∧ w.cell? (ad.add (i.toNat * 4)) = some (.bool (rd_T31 xs i).f0.f0) ∧ w.cell? ⟨(ad.add (i.toNat * 4)).block,(ad.add (i.toNat * 4)).off + 1,none⟩ = some (.int .u64 (rd_T31 xs i).f0.f1) ∧ w.cell? ⟨(ad.add (i.toNat * 4)).block,(ad.add (i.toNat * 4)).off + 2,none⟩ = some (.int .u64 (rd_T31 xs i).f0.f2) ∧ w.cell? ⟨(ad.add (i.toNat * 4)).block,(ad.add (i.toNat * 4)).off + 3,none⟩ = some (.int .i64 (rd_T31 xs i).f1) := by
 obtain ⟨ad,c,e,_,hK,hc0⟩ := Kd.C_get h z31 i h0 h1;have hc : ∀ j u,c[j]? = some u → w.cell? (ad.add (i.toNat * 4 + j)) = some u := hc0;obtain rfl := k31_open hK;exact ⟨ad,e,hc 0 _ rfl,by rw [← add_field _ _ 1 (by omega)];exact hc 1 _ rfl,by rw [← add_field _ _ 2 (by omega)];exact hc 2 _ rfl,by rw [← add_field _ _ 3 (by omega)];exact hc 3 _ rfl⟩
def k60 : Kd S60 := Kd.iso (Kd.pair k31 (Kd.pair (Kd.int .i64) (Kd.pair Kd.string (Kd.pair Kd.string (Kd.int .i64))))) (fun x : S60 => (x.f0,x.f1,x.f2,x.f3,x.f4))
theorem k60_open {w : World} {x : S60} {cs : List Value} (h : k60.K w x cs) : cs = [.bool x.f0.f0.f0,.int .u64 x.f0.f0.f1,.int .u64 x.f0.f0.f2,.int .i64 x.f0.f1,.int .i64 x.f1,.string x.f2,.string x.f3,.int .i64 x.f4] := by
 obtain ⟨_,_,rfl,s0,⟨_,_,rfl,rfl,⟨_,_,rfl,rfl,⟨_,_,rfl,rfl,rfl⟩⟩⟩⟩ := h;obtain rfl := k31_open s0;exact rfl
theorem k60_openM {w : World} {base : Nat} {ok : Nat → Prop} {x : S60} {cs : List Value} (h : k60.M w base ok x cs) : cs = [.bool x.f0.f0.f0,.int .u64 x.f0.f0.f1,.int .u64 x.f0.f0.f2,.int .i64 x.f0.f1,.int .i64 x.f1,.string x.f2,.string x.f3,.int .i64 x.f4] := by
 obtain ⟨_,_,rfl,s0,⟨_,_,rfl,rfl,⟨_,_,rfl,rfl,⟨_,_,rfl,rfl,rfl⟩⟩⟩⟩ := h;obtain rfl := k31_openM s0;exact rfl
theorem k60_mkM (w : World) (base : Nat) (ok : Nat → Prop) (x : S60)  : k60.M w base ok x [.bool x.f0.f0.f0,.int .u64 x.f0.f0.f1,.int .u64 x.f0.f0.f2,.int .i64 x.f0.f1,.int .i64 x.f1,.string x.f2,.string x.f3,.int .i64 x.f4] := ⟨[.bool x.f0.f0.f0,.int .u64 x.f0.f0.f1,.int .u64 x.f0.f0.f2,.int .i64 x.f0.f1],[.int .i64 x.f1,.string x.f2,.string x.f3,.int .i64 x.f4],rfl,(k31_mkM w base ok x.f0 ),⟨[.int .i64 x.f1],[.string x.f2,.string x.f3,.int .i64 x.f4],rfl,rfl,⟨[.string x.f2],[.string x.f3,.int .i64 x.f4],rfl,rfl,⟨[.string x.f3],[.int .i64 x.f4],rfl,rfl,rfl⟩⟩⟩⟩
theorem at_T60 {w : World} {A : Option Addr} {n : Nat} {xs : List S60} (h : Kd.C k60 w A n xs) (i : Int) (h0 : 0 ≤ i) (h1 : i < n) : ∃ ad ,A = some ad ∧ w.cell? (ad.add (i.toNat * 8)) = some (.bool (rd_T60 xs i).f0.f0.f0) ∧ w.cell? ⟨(ad.add (i.toNat * 8)).block,(ad.add (i.toNat * 8)).off + 1,none⟩ = some (.int .u64 (rd_T60 xs i).f0.f0.f1) ∧ w.cell? ⟨(ad.add (i.toNat * 8)).block,(ad.add (i.toNat * 8)).off + 2,none⟩ = some (.int .u64 (rd_T60 xs i).f0.f0.f2) ∧ w.cell? ⟨(ad.add (i.toNat * 8)).block,(ad.add (i.toNat * 8)).off + 3,none⟩ = some (.int .i64 (rd_T60 xs i).f0.f1) ∧ w.cell? ⟨(ad.add (i.toNat * 8)).block,(ad.add (i.toNat * 8)).off + 4,none⟩ = some (.int .i64 (rd_T60 xs i).f1) ∧ w.cell? ⟨(ad.add (i.toNat * 8)).block,(ad.add (i.toNat * 8)).off + 5,none⟩ = some (.string (rd_T60 xs i).f2) ∧ w.cell? ⟨(ad.add (i.toNat * 8)).block,(ad.add (i.toNat * 8)).off + 6,none⟩ = some (.string (rd_T60 xs i).f3) ∧ w.cell? ⟨(ad.add (i.toNat * 8)).block,(ad.add (i.toNat * 8)).off + 7,none⟩ = some (.int .i64 (rd_T60 xs i).f4) := by
 obtain ⟨ad,c,e,_,hK,hc0⟩ := Kd.C_get h z60 i h0 h1;have hc : ∀ j u,c[j]? = some u → w.cell? (ad.add (i.toNat * 8 + j)) = some u := hc0;obtain rfl := k60_open hK;exact ⟨ad,e,hc 0 _ rfl,by rw [← add_field _ _ 1 (by omega)];exact hc 1 _ rfl,by rw [← add_field _ _ 2 (by omega)];exact hc 2 _ rfl,by rw [← add_field _ _ 3 (by omega)];exact hc 3 _ rfl,by rw [← add_field _ _ 4 (by omega)];exact hc 4 _ rfl,by rw [← add_field _ _ 5 (by omega)];exact hc 5 _ rfl,by rw [← add_field _ _ 6 (by omega)];exact hc 6 _ rfl,by rw [← add_field _ _ 7 (by omega)];exact hc 7 _ rfl⟩
def k73 : Kd S73 := Kd.iso (Kd.pair Kd.string (Kd.pair k29 (Kd.int .i64))) (fun x : S73 => (x.f0,x.f1,x.f2))
theorem k73_open {w : World} {x : S73} {cs : List Value} (h : k73.K w x cs) : cs = [.string x.f0,.bool x.f1.f0,.int .u64 x.f1.f1,.int .u64 x.f1.f2,.int .i64 x.f2] := by
 obtain ⟨_,_,rfl,rfl,⟨_,_,rfl,s1,rfl⟩⟩ := h;obtain rfl := k29_open s1;exact rfl
theorem k73_mkM (w : World) (base : Nat) (ok : Nat → Prop) (x : S73)  : k73.M w base ok x [.string x.f0,.bool x.f1.f0,.int .u64 x.f1.f1,.int .u64 x.f1.f2,.int .i64 x.f2] := ⟨[.string x.f0],[.bool x.f1.f0,.int .u64 x.f1.f1,.int .u64 x.f1.f2,.int .i64 x.f2],rfl,rfl,⟨[.bool x.f1.f0,.int .u64 x.f1.f1,.int .u64 x.f1.f2],[.int .i64 x.f2],rfl,(k29_mkM w base ok x.f1 ),rfl⟩⟩
theorem at_T73 {w : World} {A : Option Addr} {n : Nat} {xs : List S73} (h : Kd.C k73 w A n xs) (i : Int) (h0 : 0 ≤ i) (h1 : i < n) : ∃ ad ,A = some ad ∧ w.cell? (ad.add (i.toNat * 5)) = some (.string (rd_T73 xs i).f0) ∧ w.cell? ⟨(ad.add (i.toNat * 5)).block,(ad.add (i.toNat * 5)).off + 1,none⟩ = some (.bool (rd_T73 xs i).f1.f0) ∧ w.cell? ⟨(ad.add (i.toNat * 5)).block,(ad.add (i.toNat * 5)).off + 2,none⟩ = some (.int .u64 (rd_T73 xs i).f1.f1) ∧ w.cell? ⟨(ad.add (i.toNat * 5)).block,(ad.add (i.toNat * 5)).off + 3,none⟩ = some (.int .u64 (rd_T73 xs i).f1.f2) ∧ w.cell? ⟨(ad.add (i.toNat * 5)).block,(ad.add (i.toNat * 5)).off + 4,none⟩ = some (.int .i64 (rd_T73 xs i).f2) := by
 obtain ⟨ad,c,e,_,hK,hc0⟩ := Kd.C_get h z73 i h0 h1;have hc : ∀ j u,c[j]? = some u → w.cell? (ad.add (i.toNat * 5 + j)) = some u := hc0;obtain rfl := k73_open hK;exact ⟨ad,e,hc 0 _ rfl,by rw [← add_field _ _ 1 (by omega)];exact hc 1 _ rfl,by rw [← add_field _ _ 2 (by omega)];exact hc 2 _ rfl,by rw [← add_field _ _ 3 (by omega)];exact hc 3 _ rfl,by rw [← add_field _ _ 4 (by omega)];exact hc 4 _ rfl⟩
def k36 : Kd S36 := Kd.iso (Kd.pair k31 (Kd.pair (Kd.int .u64) (Kd.pair (Kd.int .u64) (Kd.int .i64)))) (fun x : S36 => (x.f0,x.f1,x.f2,x.f3))
theorem k36_open {w : World} {x : S36} {cs : List Value} (h : k36.K w x cs) : cs = [.bool x.f0.f0.f0,.int .u64 x.f0.f0.f1,.int .u64 x.f0.f0.f2,.int .i64 x.f0.f1,.int .u64 x.f1,.int .u64 x.f2,.int .i64 x.f3] := by
 obtain ⟨_,_,rfl,s0,⟨_,_,rfl,rfl,⟨_,_,rfl,rfl,rfl⟩⟩⟩ := h;obtain rfl := k31_open s0;exact rfl
theorem k36_mkM (w : World) (base : Nat) (ok : Nat → Prop) (x : S36)  : k36.M w base ok x [.bool x.f0.f0.f0,.int .u64 x.f0.f0.f1,.int .u64 x.f0.f0.f2,.int .i64 x.f0.f1,.int .u64 x.f1,.int .u64 x.f2,.int .i64 x.f3] := ⟨[.bool x.f0.f0.f0,.int .u64 x.f0.f0.f1,.int .u64 x.f0.f0.f2,.int .i64 x.f0.f1],[.int .u64 x.f1,.int .u64 x.f2,.int .i64 x.f3],rfl,(k31_mkM w base ok x.f0 ),⟨[.int .u64 x.f1],[.int .u64 x.f2,.int .i64 x.f3],rfl,rfl,⟨[.int .u64 x.f2],[.int .i64 x.f3],rfl,rfl,rfl⟩⟩⟩
theorem at_T36 {w : World} {A : Option Addr} {n : Nat} {xs : List S36} (h : Kd.C k36 w A n xs) (i : Int) (h0 : 0 ≤ i) (h1 : i < n) : ∃ ad ,A = some ad ∧ w.cell? (ad.add (i.toNat * 7)) = some (.bool (rd_T36 xs i).f0.f0.f0) ∧ w.cell? ⟨(ad.add (i.toNat * 7)).block,(ad.add (i.toNat * 7)).off + 1,none⟩ = some (.int .u64 (rd_T36 xs i).f0.f0.f1) ∧ w.cell? ⟨(ad.add (i.toNat * 7)).block,(ad.add (i.toNat * 7)).off + 2,none⟩ = some (.int .u64 (rd_T36 xs i).f0.f0.f2) ∧ w.cell? ⟨(ad.add (i.toNat * 7)).block,(ad.add (i.toNat * 7)).off + 3,none⟩ = some (.int .i64 (rd_T36 xs i).f0.f1) ∧ w.cell? ⟨(ad.add (i.toNat * 7)).block,(ad.add (i.toNat * 7)).off + 4,none⟩ = some (.int .u64 (rd_T36 xs i).f1) ∧ w.cell? ⟨(ad.add (i.toNat * 7)).block,(ad.add (i.toNat * 7)).off + 5,none⟩ = some (.int .u64 (rd_T36 xs i).f2) ∧ w.cell? ⟨(ad.add (i.toNat * 7)).block,(ad.add (i.toNat * 7)).off + 6,none⟩ = some (.int .i64 (rd_T36 xs i).f3) := by
 obtain ⟨ad,c,e,_,hK,hc0⟩ := Kd.C_get h z36 i h0 h1;have hc : ∀ j u,c[j]? = some u → w.cell? (ad.add (i.toNat * 7 + j)) = some u := hc0;obtain rfl := k36_open hK;exact ⟨ad,e,hc 0 _ rfl,by rw [← add_field _ _ 1 (by omega)];exact hc 1 _ rfl,by rw [← add_field _ _ 2 (by omega)];exact hc 2 _ rfl,by rw [← add_field _ _ 3 (by omega)];exact hc 3 _ rfl,by rw [← add_field _ _ 4 (by omega)];exact hc 4 _ rfl,by rw [← add_field _ _ 5 (by omega)];exact hc 5 _ rfl,by rw [← add_field _ _ 6 (by omega)];exact hc 6 _ rfl⟩
end Go.Proofs.Ytjifdgicamlikaa.QA
