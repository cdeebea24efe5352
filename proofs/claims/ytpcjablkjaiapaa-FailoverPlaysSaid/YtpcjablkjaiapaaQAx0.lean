-- Written by this session's own program (wip/xprint) out of the translation; Lean checks it.
import Derived.Test.YtpcjablkjaiapaaQAd1
import Derived.Test.YtpcjablkjaiapaaProg
import Derived.Below
import Derived.Deep.Draws
import Derived.Deep.AppendLies
import Derived.Maps.AppendAt
import Derived.OwnWalk
import Derived.Laws.BytesArg
import Derived.Laws.MakeOwn
import Derived.Laws.OwnMore
import Derived.Deep.OwnRows
import Derived.Tactics
import Derived.Lib.ConvBytes
import Derived.Laws.Slices
import Derived.WalkKit
import Derived.KernelRfl
import Derived.RowKit3
import Derived.Deep.LoopGhost
import Derived.Deep.QuietTactic
import Derived.BigQuiet
import Derived.WideLaws
import Derived.Deep.DeepCutAuto
import Derived.Deep.CutBlock
import Derived.Deep.RegionHeld3
import Derived.Laws.Rows
import Derived.Lib.AppendStr
import Derived.ArgAppend
import Derived.Laws.IdiomCopy
import Derived.OrdersHeld
import Derived.Laws.BitsLemmas
import Derived.RowKit
import Derived.Test.YtpcjablkjaiapaaXR
import Derived.Test.YtpcjablkjaiapaaXW
import Derived.Test.YtpcjablkjaiapaaWMore
namespace Go.Proofs.Ytpcjablkjaiapaa.QA
open Go.RowKit Go.Proofs.YtpcjablkjaiapaaW.PrintWords Go.Proofs.YtpcjablkjaiapaaW.PrintLast Go.Proofs.YtpcjablkjaiapaaW.PrintMore
attribute [local go_sem] max2_int min2_int max_two min_two max_three min_three max_four min_four   -- for this text's walks alone
attribute [local go_sem high] Go.Proofs.Ytpcjablkjaiapaa.XW.cell_setCell_lit
set_option linter.unusedVariables false
set_option linter.unusedSimpArgs false
def errW : Option Int → Value
 | none => .nilIface
 | some c => .iface 0 (.int .i64 c)
theorem errW_none : errW none = .nilIface := rfl
theorem errW_some (c : Int) : errW (some c) = .iface 0 (.int .i64 c) := rfl
theorem info3 : (Try.prog.info? 3).map (fun i => (i.zero,i.size,i.bytes)) = some (some (.int .i64 0),1,8) := by kernel_rfl
theorem info9 : (Try.prog.info? 9).map (fun i => (i.zero,i.size,i.bytes)) = some (some (.string ⟨#[]⟩),1,16) := by kernel_rfl
theorem info55 : (Try.prog.info? 55).map (fun i => (i.zero,i.size,i.bytes)) = some (some (.agg #[(.string ⟨#[]⟩),(.bool false),(.int .u64 0),(.int .u64 0),(.string ⟨#[]⟩)]),5,56) := by kernel_rfl
theorem info57 : (Try.prog.info? 57).map (fun i => (i.zero,i.size,i.bytes)) = some (some (.agg #[(.int .i64 0),(.string ⟨#[]⟩)]),2,24) := by kernel_rfl
theorem info64 : (Try.prog.info? 64).map (fun i => (i.zero,i.size,i.bytes)) = some (some (.agg #[(.bool false),(.int .u64 0),(.int .u64 0),(.bool false),(.int .u64 0),(.int .u64 0)]),6,48) := by kernel_rfl
-- the values' own types
/-! #### struct type 26 -/
def k26 : Kd S26 := Kd.iso (Kd.pair Kd.bool (Kd.pair (Kd.int .u64) (Kd.int .u64))) (fun x : S26 => (x.f0,x.f1,x.f2))
theorem k26_heap : Kd.Heap k26 := Kd.heap_iso _ (Kd.heap_pair Kd.heap_bool (Kd.heap_pair (Kd.heap_int .u64) (Kd.heap_int .u64)))
theorem k26_open {w : World} {x : S26} {cs : List Value} (h : k26.K w x cs) : cs = [.bool x.f0,.int .u64 x.f1,.int .u64 x.f2] := by
 obtain ⟨_,_,rfl,rfl,⟨_,_,rfl,rfl,rfl⟩⟩ := h;exact rfl
theorem k26_openM {w : World} {base : Nat} {ok : Nat → Prop} {x : S26} {cs : List Value} (h : k26.M w base ok x cs) : cs = [.bool x.f0,.int .u64 x.f1,.int .u64 x.f2] := by
 obtain ⟨_,_,rfl,rfl,⟨_,_,rfl,rfl,rfl⟩⟩ := h;exact rfl
theorem k26_mk (w : World) (x : S26)  : k26.K w x [.bool x.f0,.int .u64 x.f1,.int .u64 x.f2] := ⟨[.bool x.f0],[.int .u64 x.f1,.int .u64 x.f2],rfl,rfl,⟨[.int .u64 x.f1],[.int .u64 x.f2],rfl,rfl,rfl⟩⟩
theorem k26_mkM (w : World) (base : Nat) (ok : Nat → Prop) (x : S26)  : k26.M w base ok x [.bool x.f0,.int .u64 x.f1,.int .u64 x.f2] := ⟨[.bool x.f0],[.int .u64 x.f1,.int .u64 x.f2],rfl,rfl,⟨[.int .u64 x.f1],[.int .u64 x.f2],rfl,rfl,rfl⟩⟩
theorem k26_mkF (W : World) (ok : Nat → Prop) (x : S26) : Kd.FK k26 W ok x [.bool x.f0,.int .u64 x.f1,.int .u64 x.f2] := fun W2 _ => k26_mk W2 x
theorem at_T26 {w : World} {A : Option Addr} {n : Nat} {xs : List S26} (h : Kd.C k26 w A n xs) (i : Int) (h0 : 0 ≤ i) (h1 : i < n) : ∃ ad ,A = some ad ∧ w.cell? (ad.add (i.toNat * 3)) = some (.bool (rd_T26 xs i).f0) ∧ w.cell? ⟨(ad.add (i.toNat * 3)).block,(ad.add (i.toNat * 3)).off + 1,none⟩ = some (.int .u64 (rd_T26 xs i).f1) ∧ w.cell? ⟨(ad.add (i.toNat * 3)).block,(ad.add (i.toNat * 3)).off + 2,none⟩ = some (.int .u64 (rd_T26 xs i).f2) := by
 obtain ⟨ad,c,e,_,hK,hc0⟩ := Kd.C_get h z26 i h0 h1;have hc : ∀ j u,c[j]? = some u → w.cell? (ad.add (i.toNat * 3 + j)) = some u := hc0;obtain rfl := k26_open hK;exact ⟨ad,e,hc 0 _ rfl,by rw [← add_field _ _ 1 (by omega)];exact hc 1 _ rfl,by rw [← add_field _ _ 2 (by omega)];exact hc 2 _ rfl⟩
/-! #### struct type 64 -/
def k64 : Kd S64 := Kd.iso (Kd.pair k26 k26) (fun x : S64 => (x.f0,x.f1))
theorem k64_heap : Kd.Heap k64 := Kd.heap_iso _ (Kd.heap_pair k26_heap k26_heap)
theorem k64_open {w : World} {x : S64} {cs : List Value} (h : k64.K w x cs) : cs = [.bool x.f0.f0,.int .u64 x.f0.f1,.int .u64 x.f0.f2,.bool x.f1.f0,.int .u64 x.f1.f1,.int .u64 x.f1.f2] := by
 obtain ⟨_,_,rfl,s0,s3⟩ := h;obtain rfl := k26_open s0;obtain rfl := k26_open s3;exact rfl
theorem k64_openM {w : World} {base : Nat} {ok : Nat → Prop} {x : S64} {cs : List Value} (h : k64.M w base ok x cs) : cs = [.bool x.f0.f0,.int .u64 x.f0.f1,.int .u64 x.f0.f2,.bool x.f1.f0,.int .u64 x.f1.f1,.int .u64 x.f1.f2] := by
 obtain ⟨_,_,rfl,s0,s3⟩ := h;obtain rfl := k26_openM s0;obtain rfl := k26_openM s3;exact rfl
theorem k64_mk (w : World) (x : S64)  : k64.K w x [.bool x.f0.f0,.int .u64 x.f0.f1,.int .u64 x.f0.f2,.bool x.f1.f0,.int .u64 x.f1.f1,.int .u64 x.f1.f2] := ⟨[.bool x.f0.f0,.int .u64 x.f0.f1,.int .u64 x.f0.f2],[.bool x.f1.f0,.int .u64 x.f1.f1,.int .u64 x.f1.f2],rfl,(k26_mk w x.f0 ),(k26_mk w x.f1 )⟩
theorem k64_mkM (w : World) (base : Nat) (ok : Nat → Prop) (x : S64)  : k64.M w base ok x [.bool x.f0.f0,.int .u64 x.f0.f1,.int .u64 x.f0.f2,.bool x.f1.f0,.int .u64 x.f1.f1,.int .u64 x.f1.f2] := ⟨[.bool x.f0.f0,.int .u64 x.f0.f1,.int .u64 x.f0.f2],[.bool x.f1.f0,.int .u64 x.f1.f1,.int .u64 x.f1.f2],rfl,(k26_mkM w base ok x.f0 ),(k26_mkM w base ok x.f1 )⟩
theorem k64_mkF (W : World) (ok : Nat → Prop) (x : S64) : Kd.FK k64 W ok x [.bool x.f0.f0,.int .u64 x.f0.f1,.int .u64 x.f0.f2,.bool x.f1.f0,.int .u64 x.f1.f1,.int .u64 x.f1.f2] := fun W2 _ => k64_mk W2 x
theorem at_T64 {w : World} {A : Option Addr} {n : Nat} {xs : List S64} (h : Kd.C k64 w A n xs) (i : Int) (h0 : 0 ≤ i) (h1 : i < n) : ∃ ad ,A = some ad ∧ w.cell? (ad.add (i.toNat * 6)) = some (.bool (rd_T64 xs i).f0.f0) ∧ w.cell? ⟨(ad.add (i.toNat * 6)).block,(ad.add (i.toNat * 6)).off + 1,none⟩ = some (.int .u64 (rd_T64 xs i).f0.f1) ∧ w.cell? ⟨(ad.add (i.toNat * 6)).block,(ad.add (i.toNat * 6)).off + 2,none⟩ = some (.int .u64 (rd_T64 xs i).f0.f2) ∧ w.cell? ⟨(ad.add (i.toNat * 6)).block,(ad.add (i.toNat * 6)).off + 3,none⟩ = some (.bool (rd_T64 xs i).f1.f0) ∧ w.cell? ⟨(ad.add (i.toNat * 6)).block,(ad.add (i.toNat * 6)).off + 4,none⟩ = some (.int .u64 (rd_T64 xs i).f1.f1) ∧ w.cell? ⟨(ad.add (i.toNat * 6)).block,(ad.add (i.toNat * 6)).off + 5,none⟩ = some (.int .u64 (rd_T64 xs i).f1.f2) := by
 obtain ⟨ad,c,e,_,hK,hc0⟩ := Kd.C_get h z64 i h0 h1;have hc : ∀ j u,c[j]? = some u → w.cell? (ad.add (i.toNat * 6 + j)) = some u := hc0;obtain rfl := k64_open hK;exact ⟨ad,e,hc 0 _ rfl,by rw [← add_field _ _ 1 (by omega)];exact hc 1 _ rfl,by rw [← add_field _ _ 2 (by omega)];exact hc 2 _ rfl,by rw [← add_field _ _ 3 (by omega)];exact hc 3 _ rfl,by rw [← add_field _ _ 4 (by omega)];exact hc 4 _ rfl,by rw [← add_field _ _ 5 (by omega)];exact hc 5 _ rfl⟩
/-! #### struct type 55 -/
def k55 : Kd S55 := Kd.iso (Kd.pair Kd.string (Kd.pair k26 Kd.string)) (fun x : S55 => (x.f0,x.f1,x.f2))
theorem k55_heap : Kd.Heap k55 := Kd.heap_iso _ (Kd.heap_pair Kd.heap_string (Kd.heap_pair k26_heap Kd.heap_string))
theorem k55_open {w : World} {x : S55} {cs : List Value} (h : k55.K w x cs) : cs = [.string x.f0,.bool x.f1.f0,.int .u64 x.f1.f1,.int .u64 x.f1.f2,.string x.f2] := by
 obtain ⟨_,_,rfl,rfl,⟨_,_,rfl,s1,rfl⟩⟩ := h;obtain rfl := k26_open s1;exact rfl
theorem k55_openM {w : World} {base : Nat} {ok : Nat → Prop} {x : S55} {cs : List Value} (h : k55.M w base ok x cs) : cs = [.string x.f0,.bool x.f1.f0,.int .u64 x.f1.f1,.int .u64 x.f1.f2,.string x.f2] := by
 obtain ⟨_,_,rfl,rfl,⟨_,_,rfl,s1,rfl⟩⟩ := h;obtain rfl := k26_openM s1;exact rfl
theorem k55_mk (w : World) (x : S55)  : k55.K w x [.string x.f0,.bool x.f1.f0,.int .u64 x.f1.f1,.int .u64 x.f1.f2,.string x.f2] := ⟨[.string x.f0],[.bool x.f1.f0,.int .u64 x.f1.f1,.int .u64 x.f1.f2,.string x.f2],rfl,rfl,⟨[.bool x.f1.f0,.int .u64 x.f1.f1,.int .u64 x.f1.f2],[.string x.f2],rfl,(k26_mk w x.f1 ),rfl⟩⟩
theorem k55_mkM (w : World) (base : Nat) (ok : Nat → Prop) (x : S55)  : k55.M w base ok x [.string x.f0,.bool x.f1.f0,.int .u64 x.f1.f1,.int .u64 x.f1.f2,.string x.f2] := ⟨[.string x.f0],[.bool x.f1.f0,.int .u64 x.f1.f1,.int .u64 x.f1.f2,.string x.f2],rfl,rfl,⟨[.bool x.f1.f0,.int .u64 x.f1.f1,.int .u64 x.f1.f2],[.string x.f2],rfl,(k26_mkM w base ok x.f1 ),rfl⟩⟩
theorem k55_mkF (W : World) (ok : Nat → Prop) (x : S55) : Kd.FK k55 W ok x [.string x.f0,.bool x.f1.f0,.int .u64 x.f1.f1,.int .u64 x.f1.f2,.string x.f2] := fun W2 _ => k55_mk W2 x
theorem at_T55 {w : World} {A : Option Addr} {n : Nat} {xs : List S55} (h : Kd.C k55 w A n xs) (i : Int) (h0 : 0 ≤ i) (h1 : i < n) : ∃ ad ,A = some ad ∧ w.cell? (ad.add (i.toNat * 5)) = some (.string (rd_T55 xs i).f0) ∧ w.cell? ⟨(ad.add (i.toNat * 5)).block,(ad.add (i.toNat * 5)).off + 1,none⟩ = some (.bool (rd_T55 xs i).f1.f0) ∧ w.cell? ⟨(ad.add (i.toNat * 5)).block,(ad.add (i.toNat * 5)).off + 2,none⟩ = some (.int .u64 (rd_T55 xs i).f1.f1) ∧ w.cell? ⟨(ad.add (i.toNat * 5)).block,(ad.add (i.toNat * 5)).off + 3,none⟩ = some (.int .u64 (rd_T55 xs i).f1.f2) ∧ w.cell? ⟨(ad.add (i.toNat * 5)).block,(ad.add (i.toNat * 5)).off + 4,none⟩ = some (.string (rd_T55 xs i).f2) := by
 obtain ⟨ad,c,e,_,hK,hc0⟩ := Kd.C_get h z55 i h0 h1;have hc : ∀ j u,c[j]? = some u → w.cell? (ad.add (i.toNat * 5 + j)) = some u := hc0;obtain rfl := k55_open hK;exact ⟨ad,e,hc 0 _ rfl,by rw [← add_field _ _ 1 (by omega)];exact hc 1 _ rfl,by rw [← add_field _ _ 2 (by omega)];exact hc 2 _ rfl,by rw [← add_field _ _ 3 (by omega)];exact hc 3 _ rfl,by rw [← add_field _ _ 4 (by omega)];exact hc 4 _ rfl⟩
/-! #### struct type 57 -/
def k57 : Kd S57 := Kd.iso (Kd.pair (Kd.int .i64) Kd.string) (fun x : S57 => (x.f0,x.f1))
theorem k57_heap : Kd.Heap k57 := Kd.heap_iso _ (Kd.heap_pair (Kd.heap_int .i64) Kd.heap_string)
theorem k57_open {w : World} {x : S57} {cs : List Value} (h : k57.K w x cs) : cs = [.int .i64 x.f0,.string x.f1] := by
 obtain ⟨_,_,rfl,rfl,rfl⟩ := h;exact rfl
theorem k57_openM {w : World} {base : Nat} {ok : Nat → Prop} {x : S57} {cs : List Value} (h : k57.M w base ok x cs) : cs = [.int .i64 x.f0,.string x.f1] := by
 obtain ⟨_,_,rfl,rfl,rfl⟩ := h;exact rfl
theorem k57_mk (w : World) (x : S57)  : k57.K w x [.int .i64 x.f0,.string x.f1] := ⟨[.int .i64 x.f0],[.string x.f1],rfl,rfl,rfl⟩
theorem k57_mkM (w : World) (base : Nat) (ok : Nat → Prop) (x : S57)  : k57.M w base ok x [.int .i64 x.f0,.string x.f1] := ⟨[.int .i64 x.f0],[.string x.f1],rfl,rfl,rfl⟩
theorem k57_mkF (W : World) (ok : Nat → Prop) (x : S57) : Kd.FK k57 W ok x [.int .i64 x.f0,.string x.f1] := fun W2 _ => k57_mk W2 x
theorem at_T57 {w : World} {A : Option Addr} {n : Nat} {xs : List S57} (h : Kd.C k57 w A n xs) (i : Int) (h0 : 0 ≤ i) (h1 : i < n) : ∃ ad ,A = some ad ∧ w.cell? (ad.add (i.toNat * 2)) = some (.int .i64 (rd_T57 xs i).f0) ∧ w.cell? ⟨(ad.add (i.toNat * 2)).block,(ad.add (i.toNat * 2)).off + 1,none⟩ = some (.string (rd_T57 xs i).f1) := by
 obtain ⟨ad,c,e,_,hK,hc0⟩ := Kd.C_get h z57 i h0 h1;have hc : ∀ j u,c[j]? = some u → w.cell? (ad.add (i.toNat * 2 + j)) = some u := hc0;obtain rfl := k57_open hK;exact ⟨ad,e,hc 0 _ rfl,by rw [← add_field _ _ 1 (by omega)];exact hc 1 _ rfl⟩
/-! #### struct type 23 -/
def k23 : Kd S23 := Kd.iso (Kd.pair Kd.bool (Kd.pair (Kd.int .i64) (Kd.pair (Kd.int .i64) (Kd.int .i64)))) (fun x : S23 => (x.f0,x.f1,x.f2,x.f3))
theorem k23_heap : Kd.Heap k23 := Kd.heap_iso _ (Kd.heap_pair Kd.heap_bool (Kd.heap_pair (Kd.heap_int .i64) (Kd.heap_pair (Kd.heap_int .i64) (Kd.heap_int .i64))))
theorem k23_open {w : World} {x : S23} {cs : List Value} (h : k23.K w x cs) : cs = [.bool x.f0,.int .i64 x.f1,.int .i64 x.f2,.int .i64 x.f3] := by
 obtain ⟨_,_,rfl,rfl,⟨_,_,rfl,rfl,⟨_,_,rfl,rfl,rfl⟩⟩⟩ := h;exact rfl
theorem k23_openM {w : World} {base : Nat} {ok : Nat → Prop} {x : S23} {cs : List Value} (h : k23.M w base ok x cs) : cs = [.bool x.f0,.int .i64 x.f1,.int .i64 x.f2,.int .i64 x.f3] := by
 obtain ⟨_,_,rfl,rfl,⟨_,_,rfl,rfl,⟨_,_,rfl,rfl,rfl⟩⟩⟩ := h;exact rfl
theorem k23_mk (w : World) (x : S23)  : k23.K w x [.bool x.f0,.int .i64 x.f1,.int .i64 x.f2,.int .i64 x.f3] := ⟨[.bool x.f0],[.int .i64 x.f1,.int .i64 x.f2,.int .i64 x.f3],rfl,rfl,⟨[.int .i64 x.f1],[.int .i64 x.f2,.int .i64 x.f3],rfl,rfl,⟨[.int .i64 x.f2],[.int .i64 x.f3],rfl,rfl,rfl⟩⟩⟩
theorem k23_mkM (w : World) (base : Nat) (ok : Nat → Prop) (x : S23)  : k23.M w base ok x [.bool x.f0,.int .i64 x.f1,.int .i64 x.f2,.int .i64 x.f3] := ⟨[.bool x.f0],[.int .i64 x.f1,.int .i64 x.f2,.int .i64 x.f3],rfl,rfl,⟨[.int .i64 x.f1],[.int .i64 x.f2,.int .i64 x.f3],rfl,rfl,⟨[.int .i64 x.f2],[.int .i64 x.f3],rfl,rfl,rfl⟩⟩⟩
theorem k23_mkF (W : World) (ok : Nat → Prop) (x : S23) : Kd.FK k23 W ok x [.bool x.f0,.int .i64 x.f1,.int .i64 x.f2,.int .i64 x.f3] := fun W2 _ => k23_mk W2 x
theorem at_T23 {w : World} {A : Option Addr} {n : Nat} {xs : List S23} (h : Kd.C k23 w A n xs) (i : Int) (h0 : 0 ≤ i) (h1 : i < n) : ∃ ad ,A = some ad ∧ w.cell? (ad.add (i.toNat * 4)) = some (.bool (rd_T23 xs i).f0) ∧ w.cell? ⟨(ad.add (i.toNat * 4)).block,(ad.add (i.toNat * 4)).off + 1,none⟩ = some (.int .i64 (rd_T23 xs i).f1) ∧ w.cell? ⟨(ad.add (i.toNat * 4)).block,(ad.add (i.toNat * 4)).off + 2,none⟩ = some (.int .i64 (rd_T23 xs i).f2) ∧ w.cell? ⟨(ad.add (i.toNat * 4)).block,(ad.add (i.toNat * 4)).off + 3,none⟩ = some (.int .i64 (rd_T23 xs i).f3) := by
 obtain ⟨ad,c,e,_,hK,hc0⟩ := Kd.C_get h z23 i h0 h1;have hc : ∀ j u,c[j]? = some u → w.cell? (ad.add (i.toNat * 4 + j)) = some u := hc0;obtain rfl := k23_open hK;exact ⟨ad,e,hc 0 _ rfl,by rw [← add_field _ _ 1 (by omega)];exact hc 1 _ rfl,by rw [← add_field _ _ 2 (by omega)];exact hc 2 _ rfl,by rw [← add_field _ _ 3 (by omega)];exact hc 3 _ rfl⟩
/-! #### struct type 28 -/
def k28 : Kd S28 := Kd.iso (Kd.pair k26 (Kd.int .i64)) (fun x : S28 => (x.f0,x.f1))
theorem k28_heap : Kd.Heap k28 := Kd.heap_iso _ (Kd.heap_pair k26_heap (Kd.heap_int .i64))
theorem k28_open {w : World} {x : S28} {cs : List Value} (h : k28.K w x cs) : cs = [.bool x.f0.f0,.int .u64 x.f0.f1,.int .u64 x.f0.f2,.int .i64 x.f1] := by
 obtain ⟨_,_,rfl,s0,rfl⟩ := h;obtain rfl := k26_open s0;exact rfl
theorem k28_openM {w : World} {base : Nat} {ok : Nat → Prop} {x : S28} {cs : List Value} (h : k28.M w base ok x cs) : cs = [.bool x.f0.f0,.int .u64 x.f0.f1,.int .u64 x.f0.f2,.int .i64 x.f1] := by
 obtain ⟨_,_,rfl,s0,rfl⟩ := h;obtain rfl := k26_openM s0;exact rfl
theorem k28_mk (w : World) (x : S28)  : k28.K w x [.bool x.f0.f0,.int .u64 x.f0.f1,.int .u64 x.f0.f2,.int .i64 x.f1] := ⟨[.bool x.f0.f0,.int .u64 x.f0.f1,.int .u64 x.f0.f2],[.int .i64 x.f1],rfl,(k26_mk w x.f0 ),rfl⟩
theorem k28_mkM (w : World) (base : Nat) (ok : Nat → Prop) (x : S28)  : k28.M w base ok x [.bool x.f0.f0,.int .u64 x.f0.f1,.int .u64 x.f0.f2,.int .i64 x.f1] := ⟨[.bool x.f0.f0,.int .u64 x.f0.f1,.int .u64 x.f0.f2],[.int .i64 x.f1],rfl,(k26_mkM w base ok x.f0 ),rfl⟩
theorem k28_mkF (W : World) (ok : Nat → Prop) (x : S28) : Kd.FK k28 W ok x [.bool x.f0.f0,.int .u64 x.f0.f1,.int .u64 x.f0.f2,.int .i64 x.f1] := fun W2 _ => k28_mk W2 x
theorem at_T28 {w : World} {A : Option Addr} {n : Nat} {xs : List S28} (h : Kd.C k28 w A n xs) (i : Int) (h0 : 0 ≤ i) (h1 : i < n) : ∃ ad ,A = some ad ∧ w.cell? (ad.add (i.toNat * 4)) = some (.bool (rd_T28 xs i).f0.f0) ∧ w.cell? ⟨(ad.add (i.toNat * 4)).block,(ad.add (i.toNat * 4)).off + 1,none⟩ = some (.int .u64 (rd_T28 xs i).f0.f1) ∧ w.cell? ⟨(ad.add (i.toNat * 4)).block,(ad.add (i.toNat * 4)).off + 2,none⟩ = some (.int .u64 (rd_T28 xs i).f0.f2) ∧ w.cell? ⟨(ad.add (i.toNat * 4)).block,(ad.add (i.toNat * 4)).off + 3,none⟩ = some (.int .i64 (rd_T28 xs i).f1) := by
 obtain ⟨ad,c,e,_,hK,hc0⟩ := Kd.C_get h z28 i h0 h1;have hc : ∀ j u,c[j]? = some u → w.cell? (ad.add (i.toNat * 4 + j)) = some u := hc0;obtain rfl := k28_open hK;exact ⟨ad,e,hc 0 _ rfl,by rw [← add_field _ _ 1 (by omega)];exact hc 1 _ rfl,by rw [← add_field _ _ 2 (by omega)];exact hc 2 _ rfl,by rw [← add_field _ _ 3 (by omega)];exact hc 3 _ rfl⟩
theorem at_L10 {w : World} {A : Option Addr} {n : Nat} {xs : List (List S64)} (h : Kd.C (Kd.slice 64 k64) w A n xs) (i : Int) (h0 : 0 ≤ i) (h1 : i < n) : ∃ ad A0 c0,A = some ad ∧ w.cell? (ad.add i.toNat) = some (.slice A0 (rd_L10 xs i).length c0) ∧ (rd_L10 xs i).length ≤ c0 ∧ k64.C w A0 (rd_L10 xs i).length (rd_L10 xs i) := by
 obtain ⟨ad,c,e,_,hK,hc0⟩ := Kd.C_get h ([] : List S64) i h0 h1;have hc : ∀ j u,c[j]? = some u → w.cell? (ad.add (i.toNat * 1 + j)) = some u := hc0;obtain ⟨A0,c0,rfl,l0,g0⟩ := hK;exact ⟨ad,A0,c0,e,by have hq := hc 0 _ rfl;rwa [Nat.mul_one,Nat.add_zero] at hq,l0,g0⟩
theorem at_L11 {w : World} {A : Option Addr} {n : Nat} {xs : List (List S55)} (h : Kd.C (Kd.slice 55 k55) w A n xs) (i : Int) (h0 : 0 ≤ i) (h1 : i < n) : ∃ ad A0 c0,A = some ad ∧ w.cell? (ad.add i.toNat) = some (.slice A0 (rd_L11 xs i).length c0) ∧ (rd_L11 xs i).length ≤ c0 ∧ k55.C w A0 (rd_L11 xs i).length (rd_L11 xs i) := by
 obtain ⟨ad,c,e,_,hK,hc0⟩ := Kd.C_get h ([] : List S55) i h0 h1;have hc : ∀ j u,c[j]? = some u → w.cell? (ad.add (i.toNat * 1 + j)) = some u := hc0;obtain ⟨A0,c0,rfl,l0,g0⟩ := hK;exact ⟨ad,A0,c0,e,by have hq := hc 0 _ rfl;rwa [Nat.mul_one,Nat.add_zero] at hq,l0,g0⟩
theorem at_L12 {w : World} {A : Option Addr} {n : Nat} {xs : List (List S57)} (h : Kd.C (Kd.slice 57 k57) w A n xs) (i : Int) (h0 : 0 ≤ i) (h1 : i < n) : ∃ ad A0 c0,A = some ad ∧ w.cell? (ad.add i.toNat) = some (.slice A0 (rd_L12 xs i).length c0) ∧ (rd_L12 xs i).length ≤ c0 ∧ k57.C w A0 (rd_L12 xs i).length (rd_L12 xs i) := by
 obtain ⟨ad,c,e,_,hK,hc0⟩ := Kd.C_get h ([] : List S57) i h0 h1;have hc : ∀ j u,c[j]? = some u → w.cell? (ad.add (i.toNat * 1 + j)) = some u := hc0;obtain ⟨A0,c0,rfl,l0,g0⟩ := hK;exact ⟨ad,A0,c0,e,by have hq := hc 0 _ rfl;rwa [Nat.mul_one,Nat.add_zero] at hq,l0,g0⟩
/-! #### struct type 33 -/
def k33 : Kd S33 := Kd.iso (Kd.pair k28 (Kd.pair Kd.string (Kd.pair (Kd.slice 64 k64) (Kd.pair (Kd.slice 55 k55) (Kd.pair (Kd.slice 57 k57) (Kd.int .i64)))))) (fun x : S33 => (x.f0,x.f1,x.f2,x.f3,x.f4,x.f5))
theorem k33_heap : Kd.Heap k33 := Kd.heap_iso _ (Kd.heap_pair k28_heap (Kd.heap_pair Kd.heap_string (Kd.heap_pair (Kd.heap_slice 64 k64_heap) (Kd.heap_pair (Kd.heap_slice 55 k55_heap) (Kd.heap_pair (Kd.heap_slice 57 k57_heap) (Kd.heap_int .i64))))))
theorem k33_open {w : World} {x : S33} {cs : List Value} (h : k33.K w x cs) : ∃ A5 c5 A6 c6 A7 c7,cs = [.bool x.f0.f0.f0,.int .u64 x.f0.f0.f1,.int .u64 x.f0.f0.f2,.int .i64 x.f0.f1,.string x.f1,.slice A5 x.f2.length c5,.slice A6 x.f3.length c6,.slice A7 x.f4.length c7,.int .i64 x.f5] ∧ x.f2.length ≤ c5 ∧ k64.C w A5 x.f2.length x.f2 ∧ x.f3.length ≤ c6 ∧ k55.C w A6 x.f3.length x.f3 ∧ x.f4.length ≤ c7 ∧ k57.C w A7 x.f4.length x.f4 := by
 obtain ⟨_,_,rfl,s0,⟨_,_,rfl,rfl,⟨_,_,rfl,⟨A5,c5,rfl,l5,g5⟩,⟨_,_,rfl,⟨A6,c6,rfl,l6,g6⟩,⟨_,_,rfl,⟨A7,c7,rfl,l7,g7⟩,rfl⟩⟩⟩⟩⟩ := h;obtain rfl := k28_open s0;exact ⟨A5,c5,A6,c6,A7,c7,rfl,l5,g5,l6,g6,l7,g7⟩
theorem k33_openM {w : World} {base : Nat} {ok : Nat → Prop} {x : S33} {cs : List Value} (h : k33.M w base ok x cs) : ∃ v5 v6 v7,cs = [.bool x.f0.f0.f0,.int .u64 x.f0.f0.f1,.int .u64 x.f0.f0.f2,.int .i64 x.f0.f1,.string x.f1,v5,v6,v7,.int .i64 x.f5] ∧ k64.R 64 w base ok v5 x.f2 ∧ k55.R 55 w base ok v6 x.f3 ∧ k57.R 57 w base ok v7 x.f4 := by
 obtain ⟨_,_,rfl,s0,⟨_,_,rfl,rfl,⟨_,_,rfl,⟨v5,rfl,g5⟩,⟨_,_,rfl,⟨v6,rfl,g6⟩,⟨_,_,rfl,⟨v7,rfl,g7⟩,rfl⟩⟩⟩⟩⟩ := h;obtain rfl := k28_openM s0;exact ⟨v5,v6,v7,rfl,g5,g6,g7⟩
theorem k33_mk (w : World) (x : S33) {A5 : Option Addr} {c5 : Nat} (l5 : x.f2.length ≤ c5) (g5 : k64.C w A5 x.f2.length x.f2) {A6 : Option Addr} {c6 : Nat} (l6 : x.f3.length ≤ c6) (g6 : k55.C w A6 x.f3.length x.f3) {A7 : Option Addr} {c7 : Nat} (l7 : x.f4.length ≤ c7) (g7 : k57.C w A7 x.f4.length x.f4) : k33.K w x [.bool x.f0.f0.f0,.int .u64 x.f0.f0.f1,.int .u64 x.f0.f0.f2,.int .i64 x.f0.f1,.string x.f1,.slice A5 x.f2.length c5,.slice A6 x.f3.length c6,.slice A7 x.f4.length c7,.int .i64 x.f5] := ⟨[.bool x.f0.f0.f0,.int .u64 x.f0.f0.f1,.int .u64 x.f0.f0.f2,.int .i64 x.f0.f1],[.string x.f1,.slice A5 x.f2.length c5,.slice A6 x.f3.length c6,.slice A7 x.f4.length c7,.int .i64 x.f5],rfl,(k28_mk w x.f0 ),⟨[.string x.f1],[.slice A5 x.f2.length c5,.slice A6 x.f3.length c6,.slice A7 x.f4.length c7,.int .i64 x.f5],rfl,rfl,⟨[.slice A5 x.f2.length c5],[.slice A6 x.f3.length c6,.slice A7 x.f4.length c7,.int .i64 x.f5],rfl,⟨A5,c5,rfl,l5,g5⟩,⟨[.slice A6 x.f3.length c6],[.slice A7 x.f4.length c7,.int .i64 x.f5],rfl,⟨A6,c6,rfl,l6,g6⟩,⟨[.slice A7 x.f4.length c7],[.int .i64 x.f5],rfl,⟨A7,c7,rfl,l7,g7⟩,rfl⟩⟩⟩⟩⟩
theorem k33_mkM (w : World) (base : Nat) (ok : Nat → Prop) (x : S33) {v5 : Value} (g5 : k64.R 64 w base ok v5 x.f2) {v6 : Value} (g6 : k55.R 55 w base ok v6 x.f3) {v7 : Value} (g7 : k57.R 57 w base ok v7 x.f4) : k33.M w base ok x [.bool x.f0.f0.f0,.int .u64 x.f0.f0.f1,.int .u64 x.f0.f0.f2,.int .i64 x.f0.f1,.string x.f1,v5,v6,v7,.int .i64 x.f5] := ⟨[.bool x.f0.f0.f0,.int .u64 x.f0.f0.f1,.int .u64 x.f0.f0.f2,.int .i64 x.f0.f1],[.string x.f1,v5,v6,v7,.int .i64 x.f5],rfl,(k28_mkM w base ok x.f0 ),⟨[.string x.f1],[v5,v6,v7,.int .i64 x.f5],rfl,rfl,⟨[v5],[v6,v7,.int .i64 x.f5],rfl,⟨v5,rfl,g5⟩,⟨[v6],[v7,.int .i64 x.f5],rfl,⟨v6,rfl,g6⟩,⟨[v7],[.int .i64 x.f5],rfl,⟨v7,rfl,g7⟩,rfl⟩⟩⟩⟩⟩
theorem k33_openF {W : World} {ok : Nat → Prop} {x : S33} {cs : List Value} (h : Kd.FK k33 W ok x cs) : ∃ A5 c5 A6 c6 A7 c7,cs = [.bool x.f0.f0.f0,.int .u64 x.f0.f0.f1,.int .u64 x.f0.f0.f2,.int .i64 x.f0.f1,.string x.f1,.slice A5 x.f2.length c5,.slice A6 x.f3.length c6,.slice A7 x.f4.length c7,.int .i64 x.f5] ∧ x.f2.length ≤ c5 ∧ Kd.F k64 W ok A5 x.f2.length x.f2 ∧ x.f3.length ≤ c6 ∧ Kd.F k55 W ok A6 x.f3.length x.f3 ∧ x.f4.length ≤ c7 ∧ Kd.F k57 W ok A7 x.f4.length x.f4 := by
 obtain ⟨A5,c5,A6,c6,A7,c7,rfl,l5,_,l6,_,l7,_⟩ := k33_open (Kd.FK_now h);exact ⟨A5,c5,A6,c6,A7,c7,rfl,l5,(fun W' hW => by obtain ⟨A5_,c5_,A6_,c6_,A7_,c7_,he,l5_,g5_,l6_,g6_,l7_,g7_⟩ := k33_open (h W' hW);injection (Option.some.inj (show some (Value.slice A5 x.f2.length c5) = some (Value.slice A5_ x.f2.length c5_) from congrArg (fun l => l[5]?) he)) with ha_ _ _;rw [ha_];exact g5_),l6,(fun W' hW => by obtain ⟨A5_,c5_,A6_,c6_,A7_,c7_,he,l5_,g5_,l6_,g6_,l7_,g7_⟩ := k33_open (h W' hW);injection (Option.some.inj (show some (Value.slice A6 x.f3.length c6) = some (Value.slice A6_ x.f3.length c6_) from congrArg (fun l => l[6]?) he)) with ha_ _ _;rw [ha_];exact g6_),l7,(fun W' hW => by obtain ⟨A5_,c5_,A6_,c6_,A7_,c7_,he,l5_,g5_,l6_,g6_,l7_,g7_⟩ := k33_open (h W' hW);injection (Option.some.inj (show some (Value.slice A7 x.f4.length c7) = some (Value.slice A7_ x.f4.length c7_) from congrArg (fun l => l[7]?) he)) with ha_ _ _;rw [ha_];exact g7_)⟩
theorem k33_mkF (W : World) (ok : Nat → Prop) (x : S33) {A5 : Option Addr} {c5 : Nat} (l5 : x.f2.length ≤ c5) (g5 : Kd.F k64 W ok A5 x.f2.length x.f2) {A6 : Option Addr} {c6 : Nat} (l6 : x.f3.length ≤ c6) (g6 : Kd.F k55 W ok A6 x.f3.length x.f3) {A7 : Option Addr} {c7 : Nat} (l7 : x.f4.length ≤ c7) (g7 : Kd.F k57 W ok A7 x.f4.length x.f4) : Kd.FK k33 W ok x [.bool x.f0.f0.f0,.int .u64 x.f0.f0.f1,.int .u64 x.f0.f0.f2,.int .i64 x.f0.f1,.string x.f1,.slice A5 x.f2.length c5,.slice A6 x.f3.length c6,.slice A7 x.f4.length c7,.int .i64 x.f5] := fun W2 hW => k33_mk W2 x l5 (g5 W2 hW) l6 (g6 W2 hW) l7 (g7 W2 hW)
theorem at_T33 {w : World} {A : Option Addr} {n : Nat} {xs : List S33} (h : Kd.C k33 w A n xs) (i : Int) (h0 : 0 ≤ i) (h1 : i < n) : ∃ ad A5 c5 A6 c6 A7 c7,A = some ad ∧ w.cell? (ad.add (i.toNat * 9)) = some (.bool (rd_T33 xs i).f0.f0.f0) ∧ w.cell? ⟨(ad.add (i.toNat * 9)).block,(ad.add (i.toNat * 9)).off + 1,none⟩ = some (.int .u64 (rd_T33 xs i).f0.f0.f1) ∧ w.cell? ⟨(ad.add (i.toNat * 9)).block,(ad.add (i.toNat * 9)).off + 2,none⟩ = some (.int .u64 (rd_T33 xs i).f0.f0.f2) ∧ w.cell? ⟨(ad.add (i.toNat * 9)).block,(ad.add (i.toNat * 9)).off + 3,none⟩ = some (.int .i64 (rd_T33 xs i).f0.f1) ∧ w.cell? ⟨(ad.add (i.toNat * 9)).block,(ad.add (i.toNat * 9)).off + 4,none⟩ = some (.string (rd_T33 xs i).f1) ∧ w.cell? ⟨(ad.add (i.toNat * 9)).block,(ad.add (i.toNat * 9)).off + 5,none⟩ = some (.slice A5 (rd_T33 xs i).f2.length c5) ∧ w.cell? ⟨(ad.add (i.toNat * 9)).block,(ad.add (i.toNat * 9)).off + 6,none⟩ = some (.slice A6 (rd_T33 xs i).f3.length c6) ∧ w.cell? ⟨(ad.add (i.toNat * 9)).block,(ad.add (i.toNat * 9)).off + 7,none⟩ = some (.slice A7 (rd_T33 xs i).f4.length c7) ∧ w.cell? ⟨(ad.add (i.toNat * 9)).block,(ad.add (i.toNat * 9)).off + 8,none⟩ = some (.int .i64 (rd_T33 xs i).f5) ∧ (rd_T33 xs i).f2.length ≤ c5 ∧ k64.C w A5 (rd_T33 xs i).f2.length (rd_T33 xs i).f2 ∧ (rd_T33 xs i).f3.length ≤ c6 ∧ k55.C w A6 (rd_T33 xs i).f3.length (rd_T33 xs i).f3 ∧ (rd_T33 xs i).f4.length ≤ c7 ∧ k57.C w A7 (rd_T33 xs i).f4.length (rd_T33 xs i).f4 := by
 obtain ⟨ad,c,e,_,hK,hc0⟩ := Kd.C_get h z33 i h0 h1;have hc : ∀ j u,c[j]? = some u → w.cell? (ad.add (i.toNat * 9 + j)) = some u := hc0;obtain ⟨A5,c5,A6,c6,A7,c7,rfl,l5,g5,l6,g6,l7,g7⟩ := k33_open hK;exact ⟨ad,A5,c5,A6,c6,A7,c7,e,hc 0 _ rfl,by rw [← add_field _ _ 1 (by omega)];exact hc 1 _ rfl,by rw [← add_field _ _ 2 (by omega)];exact hc 2 _ rfl,by rw [← add_field _ _ 3 (by omega)];exact hc 3 _ rfl,by rw [← add_field _ _ 4 (by omega)];exact hc 4 _ rfl,by rw [← add_field _ _ 5 (by omega)];exact hc 5 _ rfl,by rw [← add_field _ _ 6 (by omega)];exact hc 6 _ rfl,by rw [← add_field _ _ 7 (by omega)];exact hc 7 _ rfl,by rw [← add_field _ _ 8 (by omega)];exact hc 8 _ rfl,l5,g5,l6,g6,l7,g7⟩
/-! #### struct type 35 -/
def k35 : Kd S35 := Kd.iso (Kd.pair k26 (Kd.int .i64)) (fun x : S35 => (x.f0,x.f1))
theorem k35_heap : Kd.Heap k35 := Kd.heap_iso _ (Kd.heap_pair k26_heap (Kd.heap_int .i64))
theorem k35_open {w : World} {x : S35} {cs : List Value} (h : k35.K w x cs) : cs = [.bool x.f0.f0,.int .u64 x.f0.f1,.int .u64 x.f0.f2,.int .i64 x.f1] := by
 obtain ⟨_,_,rfl,s0,rfl⟩ := h;obtain rfl := k26_open s0;exact rfl
theorem k35_openM {w : World} {base : Nat} {ok : Nat → Prop} {x : S35} {cs : List Value} (h : k35.M w base ok x cs) : cs = [.bool x.f0.f0,.int .u64 x.f0.f1,.int .u64 x.f0.f2,.int .i64 x.f1] := by
 obtain ⟨_,_,rfl,s0,rfl⟩ := h;obtain rfl := k26_openM s0;exact rfl
theorem k35_mk (w : World) (x : S35)  : k35.K w x [.bool x.f0.f0,.int .u64 x.f0.f1,.int .u64 x.f0.f2,.int .i64 x.f1] := ⟨[.bool x.f0.f0,.int .u64 x.f0.f1,.int .u64 x.f0.f2],[.int .i64 x.f1],rfl,(k26_mk w x.f0 ),rfl⟩
theorem k35_mkM (w : World) (base : Nat) (ok : Nat → Prop) (x : S35)  : k35.M w base ok x [.bool x.f0.f0,.int .u64 x.f0.f1,.int .u64 x.f0.f2,.int .i64 x.f1] := ⟨[.bool x.f0.f0,.int .u64 x.f0.f1,.int .u64 x.f0.f2],[.int .i64 x.f1],rfl,(k26_mkM w base ok x.f0 ),rfl⟩
theorem k35_mkF (W : World) (ok : Nat → Prop) (x : S35) : Kd.FK k35 W ok x [.bool x.f0.f0,.int .u64 x.f0.f1,.int .u64 x.f0.f2,.int .i64 x.f1] := fun W2 _ => k35_mk W2 x
theorem at_T35 {w : World} {A : Option Addr} {n : Nat} {xs : List S35} (h : Kd.C k35 w A n xs) (i : Int) (h0 : 0 ≤ i) (h1 : i < n) : ∃ ad ,A = some ad ∧ w.cell? (ad.add (i.toNat * 4)) = some (.bool (rd_T35 xs i).f0.f0) ∧ w.cell? ⟨(ad.add (i.toNat * 4)).block,(ad.add (i.toNat * 4)).off + 1,none⟩ = some (.int .u64 (rd_T35 xs i).f0.f1) ∧ w.cell? ⟨(ad.add (i.toNat * 4)).block,(ad.add (i.toNat * 4)).off + 2,none⟩ = some (.int .u64 (rd_T35 xs i).f0.f2) ∧ w.cell? ⟨(ad.add (i.toNat * 4)).block,(ad.add (i.toNat * 4)).off + 3,none⟩ = some (.int .i64 (rd_T35 xs i).f1) := by
 obtain ⟨ad,c,e,_,hK,hc0⟩ := Kd.C_get h z35 i h0 h1;have hc : ∀ j u,c[j]? = some u → w.cell? (ad.add (i.toNat * 4 + j)) = some u := hc0;obtain rfl := k35_open hK;exact ⟨ad,e,hc 0 _ rfl,by rw [← add_field _ _ 1 (by omega)];exact hc 1 _ rfl,by rw [← add_field _ _ 2 (by omega)];exact hc 2 _ rfl,by rw [← add_field _ _ 3 (by omega)];exact hc 3 _ rfl⟩
/-! #### struct type 49 -/
def k49 : Kd S49 := Kd.iso (Kd.pair (Kd.int .u8) (Kd.pair (Kd.int .i64) (Kd.int .i64))) (fun x : S49 => (x.f0,x.f1,x.f2))
theorem k49_heap : Kd.Heap k49 := Kd.heap_iso _ (Kd.heap_pair (Kd.heap_int .u8) (Kd.heap_pair (Kd.heap_int .i64) (Kd.heap_int .i64)))
theorem k49_open {w : World} {x : S49} {cs : List Value} (h : k49.K w x cs) : cs = [.int .u8 x.f0,.int .i64 x.f1,.int .i64 x.f2] := by
 obtain ⟨_,_,rfl,rfl,⟨_,_,rfl,rfl,rfl⟩⟩ := h;exact rfl
theorem k49_openM {w : World} {base : Nat} {ok : Nat → Prop} {x : S49} {cs : List Value} (h : k49.M w base ok x cs) : cs = [.int .u8 x.f0,.int .i64 x.f1,.int .i64 x.f2] := by
 obtain ⟨_,_,rfl,rfl,⟨_,_,rfl,rfl,rfl⟩⟩ := h;exact rfl
theorem k49_mk (w : World) (x : S49)  : k49.K w x [.int .u8 x.f0,.int .i64 x.f1,.int .i64 x.f2] := ⟨[.int .u8 x.f0],[.int .i64 x.f1,.int .i64 x.f2],rfl,rfl,⟨[.int .i64 x.f1],[.int .i64 x.f2],rfl,rfl,rfl⟩⟩
theorem k49_mkM (w : World) (base : Nat) (ok : Nat → Prop) (x : S49)  : k49.M w base ok x [.int .u8 x.f0,.int .i64 x.f1,.int .i64 x.f2] := ⟨[.int .u8 x.f0],[.int .i64 x.f1,.int .i64 x.f2],rfl,rfl,⟨[.int .i64 x.f1],[.int .i64 x.f2],rfl,rfl,rfl⟩⟩
theorem k49_mkF (W : World) (ok : Nat → Prop) (x : S49) : Kd.FK k49 W ok x [.int .u8 x.f0,.int .i64 x.f1,.int .i64 x.f2] := fun W2 _ => k49_mk W2 x
theorem at_T49 {w : World} {A : Option Addr} {n : Nat} {xs : List S49} (h : Kd.C k49 w A n xs) (i : Int) (h0 : 0 ≤ i) (h1 : i < n) : ∃ ad ,A = some ad ∧ w.cell? (ad.add (i.toNat * 3)) = some (.int .u8 (rd_T49 xs i).f0) ∧ w.cell? ⟨(ad.add (i.toNat * 3)).block,(ad.add (i.toNat * 3)).off + 1,none⟩ = some (.int .i64 (rd_T49 xs i).f1) ∧ w.cell? ⟨(ad.add (i.toNat * 3)).block,(ad.add (i.toNat * 3)).off + 2,none⟩ = some (.int .i64 (rd_T49 xs i).f2) := by
 obtain ⟨ad,c,e,_,hK,hc0⟩ := Kd.C_get h z49 i h0 h1;have hc : ∀ j u,c[j]? = some u → w.cell? (ad.add (i.toNat * 3 + j)) = some u := hc0;obtain rfl := k49_open hK;exact ⟨ad,e,hc 0 _ rfl,by rw [← add_field _ _ 1 (by omega)];exact hc 1 _ rfl,by rw [← add_field _ _ 2 (by omega)];exact hc 2 _ rfl⟩
end Go.Proofs.Ytpcjablkjaiapaa.QA
