import Derived.Test.YtngfffoeaghhhaaDoorQAd
import Derived.Test.YtngfffoeaghhhaaDoorProg
import Derived.Test.YtngfffoeaghhhaaDoorXR
import Derived.Test.YtngfffoeaghhhaaDoorXW
import Derived.Test.YtngfffoeaghhhaaDoorWMore
import Derived.Below
import Derived.Deep.Draws
import Derived.Deep.AppendLies
import Derived.Maps.AppendAt
import Derived.OwnWalk
import Derived.Laws.BytesArg
import Derived.Laws.MakeOwn
import Derived.Laws.OwnMore
import Derived.Deep.OwnRows
import Derived.Tactics
import Derived.Lib.ConvBytes
import Derived.Laws.Slices
import Derived.WalkKit
import Derived.KernelRfl
import Derived.RowKit3
import Derived.Deep.LoopGhost
import Derived.Deep.QuietTactic
import Derived.BigQuiet
import Derived.WideLaws
import Derived.Deep.DeepCutAuto
import Derived.Deep.CutBlock
import Derived.Deep.RegionHeld3
import Derived.Laws.Rows
import Derived.Lib.AppendStr
import Derived.ArgAppend
import Derived.Laws.IdiomCopy
import Derived.OrdersHeld
import Derived.Laws.BitsLemmas
import Derived.RowKit
namespace Go.Proofs.YtngfffoeaghhhaaDoor.QA
open Go.RowKit Go.Proofs.YtngfffoeaghhhaaDoorW.PrintWords Go.Proofs.YtngfffoeaghhhaaDoorW.PrintLast Go.Proofs.YtngfffoeaghhhaaDoorW.PrintMore
attribute [local go_sem] max2_int min2_int max_two min_two max_three min_three max_four min_four
attribute [local go_sem high] Go.Proofs.YtngfffoeaghhhaaDoor.XW.cell_setCell_lit
set_option linter.unusedVariables false
set_option linter.unusedSimpArgs false
def errW : Option Int → Value
 | none => .nilIface
 | some c => .iface 0 (.int .i64 c)
theorem errW_none : errW none = .nilIface := rfl
theorem errW_some (c : Int) : errW (some c) = .iface 0 (.int .i64 c) := rfl
theorem info9 : (Tryd.prog.info? 9).map (fun i => (i.zero,i.size,i.bytes)) = some (some (.string ⟨#[]⟩),1,16) := by kernel_rfl
theorem info49 : (Tryd.prog.info? 49).map (fun i => (i.zero,i.size,i.bytes)) = some (some (.agg #[(.bool false),(.int .u64 0),(.int .u64 0),(.int .i64 0),(.string ⟨#[]⟩),(.slice none 0 0),(.slice none 0 0),(.slice none 0 0),(.int .i64 0)]),9,128) := by kernel_rfl
theorem info59 : (Tryd.prog.info? 59).map (fun i => (i.zero,i.size,i.bytes)) = some (some (.agg #[(.int .i64 0),(.string ⟨#[]⟩)]),2,24) := by kernel_rfl
theorem info75 : (Tryd.prog.info? 75).map (fun i => (i.zero,i.size,i.bytes)) = some (some (.agg #[(.bool false),(.int .u64 0),(.int .u64 0),(.bool false),(.int .u64 0),(.int .u64 0)]),6,48) := by kernel_rfl
theorem info81 : (Tryd.prog.info? 81).map (fun i => (i.zero,i.size,i.bytes)) = some (some (.agg #[(.string ⟨#[]⟩),(.bool false),(.int .u64 0),(.int .u64 0),(.string ⟨#[]⟩)]),5,56) := by kernel_rfl
def k59 : Kd S59 := Kd.iso (Kd.pair (Kd.int .i64) Kd.string) (fun x : S59 => (x.f0,x.f1))
theorem k59_heap : Kd.Heap k59 := Kd.heap_iso _ (Kd.heap_pair (Kd.heap_int .i64) Kd.heap_string)
theorem k59_open {w : World} {x : S59} {cs : List Value} (h : k59.K w x cs) : cs = [.int .i64 x.f0,.string x.f1] := by
 obtain ⟨_,_,rfl,rfl,rfl⟩ := h;exact rfl
theorem k59_openM {w : World} {base : Nat} {ok : Nat → Prop} {x : S59} {cs : List Value} (h : k59.M w base ok x cs) : cs = [.int .i64 x.f0,.string x.f1] := by
 obtain ⟨_,_,rfl,rfl,rfl⟩ := h;exact rfl
theorem k59_mkM (w : World) (base : Nat) (ok : Nat → Prop) (x : S59)  : k59.M w base ok x [.int .i64 x.f0,.string x.f1] := ⟨[.int .i64 x.f0],[.string x.f1],rfl,rfl,rfl⟩
theorem at_T59 {w : World} {A : Option Addr} {n : Nat} {xs : List S59} (h : Kd.C k59 w A n xs) (i : Int) (h0 : 0 ≤ i) (h1 : i < n) : ∃ ad ,A = some ad ∧ w.cell? (ad.add (i.toNat * 2)) = some (.int .i64 (rd_T59 xs i).f0) ∧ w.cell? ⟨(ad.add (i.toNat * 2)).block,(ad.add (i.toNat * 2)).off + 1,none⟩ = some (.string (rd_T59 xs i).f1) := by
 obtain ⟨ad,c,e,_,hK,hc0⟩ := Kd.C_get h z59 i h0 h1;have hc : ∀ j u,c[j]? = some u → w.cell? (ad.add (i.toNat * 2 + j)) = some u := hc0;obtain rfl := k59_open hK;exact ⟨ad,e,hc 0 _ rfl,by rw [← add_field _ _ 1 (by omega)];exact hc 1 _ rfl⟩
def k24 : Kd S24 := Kd.iso (Kd.pair Kd.bool (Kd.pair (Kd.int .u64) (Kd.int .u64))) (fun x : S24 => (x.f0,x.f1,x.f2))
theorem k24_heap : Kd.Heap k24 := Kd.heap_iso _ (Kd.heap_pair Kd.heap_bool (Kd.heap_pair (Kd.heap_int .u64) (Kd.heap_int .u64)))
theorem k24_open {w : World} {x : S24} {cs : List Value} (h : k24.K w x cs) : cs = [.bool x.f0,.int .u64 x.f1,.int .u64 x.f2] := by
 obtain ⟨_,_,rfl,rfl,⟨_,_,rfl,rfl,rfl⟩⟩ := h;exact rfl
theorem k24_mk (w : World) (x : S24)  : k24.K w x [.bool x.f0,.int .u64 x.f1,.int .u64 x.f2] := ⟨[.bool x.f0],[.int .u64 x.f1,.int .u64 x.f2],rfl,rfl,⟨[.int .u64 x.f1],[.int .u64 x.f2],rfl,rfl,rfl⟩⟩
def k75 : Kd S75 := Kd.iso (Kd.pair k24 k24) (fun x : S75 => (x.f0,x.f1))
theorem k75_heap : Kd.Heap k75 := Kd.heap_iso _ (Kd.heap_pair k24_heap k24_heap)
theorem k75_open {w : World} {x : S75} {cs : List Value} (h : k75.K w x cs) : cs = [.bool x.f0.f0,.int .u64 x.f0.f1,.int .u64 x.f0.f2,.bool x.f1.f0,.int .u64 x.f1.f1,.int .u64 x.f1.f2] := by
 obtain ⟨_,_,rfl,s0,s3⟩ := h;obtain rfl := k24_open s0;obtain rfl := k24_open s3;exact rfl
theorem at_T75 {w : World} {A : Option Addr} {n : Nat} {xs : List S75} (h : Kd.C k75 w A n xs) (i : Int) (h0 : 0 ≤ i) (h1 : i < n) : ∃ ad ,A = some ad ∧ w.cell? (ad.add (i.toNat * 6)) = some (.bool (rd_T75 xs i).f0.f0) ∧ w.cell? ⟨(ad.add (i.toNat * 6)).block,(ad.add (i.toNat * 6)).off + 1,none⟩ = some (.int .u64 (rd_T75 xs i).f0.f1) ∧ w.cell? ⟨(ad.add (i.toNat * 6)).block,(ad.add (i.toNat * 6)).off + 2,none⟩ = some (.int .u64 (rd_T75 xs i).f0.f2) ∧ w.cell? ⟨(ad.add (i.toNat * 6)).block,(ad.add (i.toNat * 6)).off + 3,none⟩ = some (.bool (rd_T75 xs i).f1.f0) ∧ w.cell? ⟨(ad.add (i.toNat * 6)).block,(ad.add (i.toNat * 6)).off + 4,none⟩ = some (.int .u64 (rd_T75 xs i).f1.f1) ∧ w.cell? ⟨(ad.add (i.toNat * 6)).block,(ad.add (i.toNat * 6)).off + 5,none⟩ = some (.int .u64 (rd_T75 xs i).f1.f2) := by
 obtain ⟨ad,c,e,_,hK,hc0⟩ := Kd.C_get h z75 i h0 h1;have hc : ∀ j u,c[j]? = some u → w.cell? (ad.add (i.toNat * 6 + j)) = some u := hc0;obtain rfl := k75_open hK;exact ⟨ad,e,hc 0 _ rfl,by rw [← add_field _ _ 1 (by omega)];exact hc 1 _ rfl,by rw [← add_field _ _ 2 (by omega)];exact hc 2 _ rfl,by rw [← add_field _ _ 3 (by omega)];exact hc 3 _ rfl,by rw [← add_field _ _ 4 (by omega)];exact hc 4 _ rfl,by rw [← add_field _ _ 5 (by omega)];exact hc 5 _ rfl⟩
def k81 : Kd S81 := Kd.iso (Kd.pair Kd.string (Kd.pair k24 Kd.string)) (fun x : S81 => (x.f0,x.f1,x.f2))
theorem k81_heap : Kd.Heap k81 := Kd.heap_iso _ (Kd.heap_pair Kd.heap_string (Kd.heap_pair k24_heap Kd.heap_string))
theorem k81_open {w : World} {x : S81} {cs : List Value} (h : k81.K w x cs) : cs = [.string x.f0,.bool x.f1.f0,.int .u64 x.f1.f1,.int .u64 x.f1.f2,.string x.f2] := by
 obtain ⟨_,_,rfl,rfl,⟨_,_,rfl,s1,rfl⟩⟩ := h;obtain rfl := k24_open s1;exact rfl
theorem at_T81 {w : World} {A : Option Addr} {n : Nat} {xs : List S81} (h : Kd.C k81 w A n xs) (i : Int) (h0 : 0 ≤ i) (h1 : i < n) : ∃ ad ,A = some ad ∧ w.cell? (ad.add (i.toNat * 5)) = some (.string (rd_T81 xs i).f0) ∧ w.cell? ⟨(ad.add (i.toNat * 5)).block,(ad.add (i.toNat * 5)).off + 1,none⟩ = some (.bool (rd_T81 xs i).f1.f0) ∧ w.cell? ⟨(ad.add (i.toNat * 5)).block,(ad.add (i.toNat * 5)).off + 2,none⟩ = some (.int .u64 (rd_T81 xs i).f1.f1) ∧ w.cell? ⟨(ad.add (i.toNat * 5)).block,(ad.add (i.toNat * 5)).off + 3,none⟩ = some (.int .u64 (rd_T81 xs i).f1.f2) ∧ w.cell? ⟨(ad.add (i.toNat * 5)).block,(ad.add (i.toNat * 5)).off + 4,none⟩ = some (.string (rd_T81 xs i).f2) := by
 obtain ⟨ad,c,e,_,hK,hc0⟩ := Kd.C_get h z81 i h0 h1;have hc : ∀ j u,c[j]? = some u → w.cell? (ad.add (i.toNat * 5 + j)) = some u := hc0;obtain rfl := k81_open hK;exact ⟨ad,e,hc 0 _ rfl,by rw [← add_field _ _ 1 (by omega)];exact hc 1 _ rfl,by rw [← add_field _ _ 2 (by omega)];exact hc 2 _ rfl,by rw [← add_field _ _ 3 (by omega)];exact hc 3 _ rfl,by rw [← add_field _ _ 4 (by omega)];exact hc 4 _ rfl⟩
def k45 : Kd S45 := Kd.iso (Kd.pair k24 (Kd.int .i64)) (fun x : S45 => (x.f0,x.f1))
theorem k45_heap : Kd.Heap k45 := Kd.heap_iso _ (Kd.heap_pair k24_heap (Kd.heap_int .i64))
theorem k45_open {w : World} {x : S45} {cs : List Value} (h : k45.K w x cs) : cs = [.bool x.f0.f0,.int .u64 x.f0.f1,.int .u64 x.f0.f2,.int .i64 x.f1] := by
 obtain ⟨_,_,rfl,s0,rfl⟩ := h;obtain rfl := k24_open s0;exact rfl
theorem k45_mk (w : World) (x : S45)  : k45.K w x [.bool x.f0.f0,.int .u64 x.f0.f1,.int .u64 x.f0.f2,.int .i64 x.f1] := ⟨[.bool x.f0.f0,.int .u64 x.f0.f1,.int .u64 x.f0.f2],[.int .i64 x.f1],rfl,(k24_mk w x.f0 ),rfl⟩
def k49 : Kd S49 := Kd.iso (Kd.pair k45 (Kd.pair Kd.string (Kd.pair (Kd.slice 75 k75) (Kd.pair (Kd.slice 81 k81) (Kd.pair (Kd.slice 59 k59) (Kd.int .i64)))))) (fun x : S49 => (x.f0,x.f1,x.f2,x.f3,x.f4,x.f5))
theorem k49_heap : Kd.Heap k49 := Kd.heap_iso _ (Kd.heap_pair k45_heap (Kd.heap_pair Kd.heap_string (Kd.heap_pair (Kd.heap_slice 75 k75_heap) (Kd.heap_pair (Kd.heap_slice 81 k81_heap) (Kd.heap_pair (Kd.heap_slice 59 k59_heap) (Kd.heap_int .i64))))))
theorem k49_open {w : World} {x : S49} {cs : List Value} (h : k49.K w x cs) : ∃ A5 c5 A6 c6 A7 c7,cs = [.bool x.f0.f0.f0,.int .u64 x.f0.f0.f1,.int .u64 x.f0.f0.f2,.int .i64 x.f0.f1,.string x.f1,.slice A5 x.f2.length c5,.slice A6 x.f3.length c6,.slice A7 x.f4.length c7,.int .i64 x.f5] ∧ x.f2.length ≤ c5 ∧ k75.C w A5 x.f2.length x.f2 ∧ x.f3.length ≤ c6 ∧ k81.C w A6 x.f3.length x.f3 ∧ x.f4.length ≤ c7 ∧ k59.C w A7 x.f4.length x.f4 := by
 obtain ⟨_,_,rfl,s0,⟨_,_,rfl,rfl,⟨_,_,rfl,⟨A5,c5,rfl,l5,g5⟩,⟨_,_,rfl,⟨A6,c6,rfl,l6,g6⟩,⟨_,_,rfl,⟨A7,c7,rfl,l7,g7⟩,rfl⟩⟩⟩⟩⟩ := h;obtain rfl := k45_open s0;exact ⟨A5,c5,A6,c6,A7,c7,rfl,l5,g5,l6,g6,l7,g7⟩
theorem k49_mk (w : World) (x : S49) {A5 : Option Addr} {c5 : Nat} (l5 : x.f2.length ≤ c5) (g5 : k75.C w A5 x.f2.length x.f2) {A6 : Option Addr} {c6 : Nat} (l6 : x.f3.length ≤ c6) (g6 : k81.C w A6 x.f3.length x.f3) {A7 : Option Addr} {c7 : Nat} (l7 : x.f4.length ≤ c7) (g7 : k59.C w A7 x.f4.length x.f4) : k49.K w x [.bool x.f0.f0.f0,.int .u64 x.f0.f0.f1,.int .u64 x.f0.f0.f2,.int .i64 x.f0.f1,.string x.f1,.slice A5 x.f2.length c5,.slice A6 x.f3.length c6,.slice A7 x.f4.length c7,.int .i64 x.f5] := ⟨[.bool x.f0.f0.f0,.int .u64 x.f0.f0.f1,.int .u64 x.f0.f0.f2,.int .i64 x.f0.f1],[.string x.f1,.slice A5 x.f2.length c5,.slice A6 x.f3.length c6,.slice A7 x.f4.length c7,.int .i64 x.f5],rfl,(k45_mk w x.f0 ),⟨[.string x.f1],[.slice A5 x.f2.length c5,.slice A6 x.f3.length c6,.slice A7 x.f4.length c7,.int .i64 x.f5],rfl,rfl,⟨[.slice A5 x.f2.length c5],[.slice A6 x.f3.length c6,.slice A7 x.f4.length c7,.int .i64 x.f5],rfl,⟨A5,c5,rfl,l5,g5⟩,⟨[.slice A6 x.f3.length c6],[.slice A7 x.f4.length c7,.int .i64 x.f5],rfl,⟨A6,c6,rfl,l6,g6⟩,⟨[.slice A7 x.f4.length c7],[.int .i64 x.f5],rfl,⟨A7,c7,rfl,l7,g7⟩,rfl⟩⟩⟩⟩⟩
theorem k49_openF {W : World} {ok : Nat → Prop} {x : S49} {cs : List Value} (h : Kd.FK k49 W ok x cs) : ∃ A5 c5 A6 c6 A7 c7,cs = [.bool x.f0.f0.f0,.int .u64 x.f0.f0.f1,.int .u64 x.f0.f0.f2,.int .i64 x.f0.f1,.string x.f1,.slice A5 x.f2.length c5,.slice A6 x.f3.length c6,.slice A7 x.f4.length c7,.int .i64 x.f5] ∧ x.f2.length ≤ c5 ∧ Kd.F k75 W ok A5 x.f2.length x.f2 ∧ x.f3.length ≤ c6 ∧ Kd.F k81 W ok A6 x.f3.length x.f3 ∧ x.f4.length ≤ c7 ∧ Kd.F k59 W ok A7 x.f4.length x.f4 := by
 obtain ⟨A5,c5,A6,c6,A7,c7,rfl,l5,_,l6,_,l7,_⟩ := k49_open (Kd.FK_now h);exact ⟨A5,c5,A6,c6,A7,c7,rfl,l5,(fun W' hW => by obtain ⟨A5_,c5_,A6_,c6_,A7_,c7_,he,l5_,g5_,l6_,g6_,l7_,g7_⟩ := k49_open (h W' hW);injection (Option.some.inj (show some (Value.slice A5 x.f2.length c5) = some (Value.slice A5_ x.f2.length c5_) from congrArg (fun l => l[5]?) he)) with ha_ _ _;rw [ha_];exact g5_),l6,(fun W' hW => by obtain ⟨A5_,c5_,A6_,c6_,A7_,c7_,he,l5_,g5_,l6_,g6_,l7_,g7_⟩ := k49_open (h W' hW);injection (Option.some.inj (show some (Value.slice A6 x.f3.length c6) = some (Value.slice A6_ x.f3.length c6_) from congrArg (fun l => l[6]?) he)) with ha_ _ _;rw [ha_];exact g6_),l7,(fun W' hW => by obtain ⟨A5_,c5_,A6_,c6_,A7_,c7_,he,l5_,g5_,l6_,g6_,l7_,g7_⟩ := k49_open (h W' hW);injection (Option.some.inj (show some (Value.slice A7 x.f4.length c7) = some (Value.slice A7_ x.f4.length c7_) from congrArg (fun l => l[7]?) he)) with ha_ _ _;rw [ha_];exact g7_)⟩
theorem k49_mkF (W : World) (ok : Nat → Prop) (x : S49) {A5 : Option Addr} {c5 : Nat} (l5 : x.f2.length ≤ c5) (g5 : Kd.F k75 W ok A5 x.f2.length x.f2) {A6 : Option Addr} {c6 : Nat} (l6 : x.f3.length ≤ c6) (g6 : Kd.F k81 W ok A6 x.f3.length x.f3) {A7 : Option Addr} {c7 : Nat} (l7 : x.f4.length ≤ c7) (g7 : Kd.F k59 W ok A7 x.f4.length x.f4) : Kd.FK k49 W ok x [.bool x.f0.f0.f0,.int .u64 x.f0.f0.f1,.int .u64 x.f0.f0.f2,.int .i64 x.f0.f1,.string x.f1,.slice A5 x.f2.length c5,.slice A6 x.f3.length c6,.slice A7 x.f4.length c7,.int .i64 x.f5] := fun W2 hW => k49_mk W2 x l5 (g5 W2 hW) l6 (g6 W2 hW) l7 (g7 W2 hW)
theorem at_T49 {w : World} {A : Option Addr} {n : Nat} {xs : List S49} (h : Kd.C k49 w A n xs) (i : Int) (h0 : 0 ≤ i) (h1 : i < n) : ∃ ad A5 c5 A6 c6 A7 c7,A = some ad ∧ w.cell? (ad.add (i.toNat * 9)) = some (.bool (rd_T49 xs i).f0.f0.f0) ∧ w.cell? ⟨(ad.add (i.toNat * 9)).block,(ad.add (i.toNat * 9)).off + 1,none⟩ = some (.int .u64 (rd_T49 xs i).f0.f0.f1) ∧ w.cell? ⟨(ad.add (i.toNat * 9)).block,(ad.add (i.toNat * 9)).off + 2,none⟩ = some (.int .u64 (rd_T49 xs i).f0.f0.f2) ∧ w.cell? ⟨(ad.add (i.toNat * 9)).block,(ad.add (i.toNat * 9)).off + 3,none⟩ = some (.int .i64 (rd_T49 xs i).f0.f1) ∧ w.cell? ⟨(ad.add (i.toNat * 9)).block,(ad.add (i.toNat * 9)).off + 4,none⟩ = some (.string (rd_T49 xs i).f1) ∧ w.cell? ⟨(ad.add (i.toNat * 9)).block,(ad.add (i.toNat * 9)).off + 5,none⟩ = some (.slice A5 (rd_T49 xs i).f2.length c5) ∧ w.cell? ⟨(ad.add (i.toNat * 9)).block,(ad.add (i.toNat * 9)).off + 6,none⟩ = some (.slice A6 (rd_T49 xs i).f3.length c6) ∧ w.cell? ⟨(ad.add (i.toNat * 9)).block,(ad.add (i.toNat * 9)).off + 7,none⟩ = some (.slice A7 (rd_T49 xs i).f4.length c7) ∧ w.cell? ⟨(ad.add (i.toNat * 9)).block,(ad.add (i.toNat * 9)).off + 8,none⟩ = some (.int .i64 (rd_T49 xs i).f5) ∧ (rd_T49 xs i).f2.length ≤ c5 ∧ k75.C w A5 (rd_T49 xs i).f2.length (rd_T49 xs i).f2 ∧ (rd_T49 xs i).f3.length ≤ c6 ∧ k81.C w A6 (rd_T49 xs i).f3.length (rd_T49 xs i).f3 ∧ (rd_T49 xs i).f4.length ≤ c7 ∧ k59.C w A7 (rd_T49 xs i).f4.length (rd_T49 xs i).f4 := by
 obtain ⟨ad,c,e,_,hK,hc0⟩ := Kd.C_get h z49 i h0 h1;have hc : ∀ j u,c[j]? = some u → w.cell? (ad.add (i.toNat * 9 + j)) = some u := hc0;obtain ⟨A5,c5,A6,c6,A7,c7,rfl,l5,g5,l6,g6,l7,g7⟩ := k49_open hK;exact ⟨ad,A5,c5,A6,c6,A7,c7,e,hc 0 _ rfl,by rw [← add_field _ _ 1 (by omega)];exact hc 1 _ rfl,by rw [← add_field _ _ 2 (by omega)];exact hc 2 _ rfl,by rw [← add_field _ _ 3 (by omega)];exact hc 3 _ rfl,by rw [← add_field _ _ 4 (by omega)];exact hc 4 _ rfl,by rw [← add_field _ _ 5 (by omega)];exact hc 5 _ rfl,by rw [← add_field _ _ 6 (by omega)];exact hc 6 _ rfl,by rw [← add_field _ _ 7 (by omega)];exact hc 7 _ rfl,by rw [← add_field _ _ 8 (by omega)];exact hc 8 _ rfl,l5,g5,l6,g6,l7,g7⟩
def k27 : Kd S27 := Kd.iso (Kd.pair (Kd.int .i64) (Kd.pair (Kd.int .i64) (Kd.pair (Kd.int .i64) (Kd.pair Kd.string (Kd.pair k24 (Kd.pair k24 (Kd.pair k24 (Kd.pair Kd.bool (Kd.slice 59 k59))))))))) (fun x : S27 => (x.f0,x.f1,x.f2,x.f3,x.f4,x.f5,x.f6,x.f7,x.f8))
theorem k27_open {w : World} {x : S27} {cs : List Value} (h : k27.K w x cs) : ∃ A14 c14,cs = [.int .i64 x.f0,.int .i64 x.f1,.int .i64 x.f2,.string x.f3,.bool x.f4.f0,.int .u64 x.f4.f1,.int .u64 x.f4.f2,.bool x.f5.f0,.int .u64 x.f5.f1,.int .u64 x.f5.f2,.bool x.f6.f0,.int .u64 x.f6.f1,.int .u64 x.f6.f2,.bool x.f7,.slice A14 x.f8.length c14] ∧ x.f8.length ≤ c14 ∧ k59.C w A14 x.f8.length x.f8 := by
 obtain ⟨_,_,rfl,rfl,⟨_,_,rfl,rfl,⟨_,_,rfl,rfl,⟨_,_,rfl,rfl,⟨_,_,rfl,s4,⟨_,_,rfl,s7,⟨_,_,rfl,s10,⟨_,_,rfl,rfl,⟨A14,c14,rfl,l14,g14⟩⟩⟩⟩⟩⟩⟩⟩⟩ := h;obtain rfl := k24_open s4;obtain rfl := k24_open s7;obtain rfl := k24_open s10;exact ⟨A14,c14,rfl,l14,g14⟩
end Go.Proofs.YtngfffoeaghhhaaDoor.QA
