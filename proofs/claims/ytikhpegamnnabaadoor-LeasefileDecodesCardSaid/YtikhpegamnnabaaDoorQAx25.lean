import Derived.Test.YtikhpegamnnabaaDoorQAd1
import Derived.Test.YtikhpegamnnabaaDoorQAx0
import Derived.Test.YtikhpegamnnabaaDoorQAx4
import Derived.Test.YtikhpegamnnabaaDoorQAx23
import Derived.Test.YtikhpegamnnabaaDoorXS
import Derived.Test.YtikhpegamnnabaaDoorXL
namespace Go.Proofs.YtikhpegamnnabaaDoor.QA
open Go.RowKit Go.Proofs.YtikhpegamnnabaaDoorW.PrintWords Go.Proofs.YtikhpegamnnabaaDoorW.PrintLast Go.Proofs.YtikhpegamnnabaaDoorW.PrintMore
attribute [local go_sem] max2_int min2_int max_two min_two max_three min_three max_four min_four
attribute [local go_sem high] Go.Proofs.YtikhpegamnnabaaDoor.XW.cell_setCell_lit
set_option linter.unusedVariables false
set_option linter.unusedSimpArgs false
set_option maxHeartbeats 8000000 in
set_option maxRecDepth 100000 in
theorem slices_Insert.none_ (P0_ P2_ : Nat → Prop) (A0 : Option Addr) (c0 : Nat) (A2 : Option Addr) (c2 : Nat) (l0 : List (S26)) (i : Nat) (w0 w : World) (hB : Below w0.heap.size w0 w) (hc0 : l0.length ≤ c0) (ho0 : Kd.R k26 26 w w0.heap.size P0_ (.slice A0 l0.length c0) l0) (hi : i ≤ l0.length) :
  Calls Tryd.prog 45 #[(.slice A0 l0.length c0),.int .i64 i,(.slice A2 0 c2)] w fun e w' => ∃ v0_ : Value,e = .returned (v0_) ∧ Kd.R k26 26 w' w0.heap.size (fun k_ => ((P0_ k_ ∨ P2_ k_) ∨ w.heap.size ≤ k_)) v0_ (l0) ∧ Below w0.heap.size w0 w' ∧ Kept w w' (fun k_ => P0_ k_ ∨ P2_ k_) := by
 have hic : i ≤ c0 := by omega
 have HO := Aside0.mk ho0;have HB := Aside0.mk hB;clear ho0 hB;go_enter Tryd.func45,Tryd.ntmps45;go_wp2
 all_goals (go_ret;refine ⟨_,rfl,?_,HB.out,Kept.refl _ _⟩;first | exact Kd.R_mono HO.out (fun _ h => .inl (.inl h)) | ((obtain rfl : c0 = i := by omega);exact Kd.R_mono HO.out (fun _ h => .inl (.inl h))))
set_option maxHeartbeats 8000000 in
set_option maxRecDepth 100000 in
theorem slices_Insert.end_ (P0_ P2_ : Nat → Prop) (A0 : Option Addr) (c0 : Nat) (A2 : Addr) (c2 : Nat) (l0 l2 : List (S26)) (w0 w : World) (hB : Below w0.heap.size w0 w) (hc0 : l0.length ≤ c0) (ho0 : Kd.R k26 26 w w0.heap.size P0_ (.slice A0 l0.length c0) l0) (hn0 : A0 = none → l0.length = 0 ∧ c0 = 0) (hm : 0 < l2.length) (hr2 : Kd.C k26 w (some A2) l2.length l2) (hl : (l0.length + l2.length) * 88 ≤ 140737488355328) :
  Calls Tryd.prog 45 #[(.slice A0 l0.length c0),.int .i64 l0.length,(.slice (some A2) l2.length c2)] w fun e w' => ∃ v0_ : Value,e = .returned (v0_) ∧ Kd.R k26 26 w' w0.heap.size (fun k_ => ((P0_ k_ ∨ P2_ k_) ∨ w.heap.size ≤ k_)) v0_ (l0 ++ l2) ∧ Below w0.heap.size w0 w' ∧ Kept w w' (fun k_ => P0_ k_ ∨ P2_ k_) := by
 have hz1 : ¬ ((l2.length : Int) = 0) := by omega
 have hu28 := Tryd.underlying35;have HO := Aside0.mk (show Kd.R k26 26 w w0.heap.size (fun k_ => (P0_ k_ ∨ P2_ k_) ∨ w.heap.size ≤ k_) (.slice A0 l0.length c0) l0 from Kd.R_mono ho0 (fun _ h => .inl (.inl h)));have HR := Aside0.mk hr2;have HL := Aside0.mk hl;have HB := Aside0.mk hB;have HS := Aside0.mk hB.size;have HO0 := Aside0.mk ho0;clear ho0 hB hr2 hl
 cases A0 with
 | none =>
  obtain ⟨h1,h2⟩ := hn0 rfl;obtain rfl : l0 = [] := List.length_eq_zero_iff.1 h1;subst h2;clear hn0;go_enter Tryd.func45,Tryd.ntmps45;go_wp2_with (first | ((with_reducible refine gate_builtin (b := .append) (xs := #[.tmp 23,.tmp 24]) rfl ?_);at_builtin;refine Kd.R_append_rows k26 (Rr := k26.K w) (w0 := w0) w0.heap.size rfl (.tmp 23) (.tmp 24) 35 26 (.agg #[(.bool false),(.int .u64 0),(.int .u64 0),(.string ⟨#[]⟩),(.int .i64 0),(.int .i64 0),(.int .i64 0),(.string ⟨#[]⟩),(.int .i64 0)]) 88 rfl Tryd.underlying35 info26 rfl (by decide) (by omega) (.slice none 0 0) ([] : List (S26)) l2 _ _ _ (fun k_ => (P0_ k_ ∨ P2_ k_) ∨ w.heap.size ≤ k_) (fun _ => False) rfl rfl HO.out HR.out (fun x cs h => by obtain rfl := k26_open h;exact k26_mkM _ _ _ x) (fun _ h => h.elim) (fun _ h => .inr h) HB.out HS.out HL.out ?_;intro v1 w1 ho hb hg hat;have HO1 := Aside0.mk ho;have HB1 := Aside0.mk hb;have HG1 := Aside0.mk hg;clear ho hb hg hat))
  all_goals (go_ret;exact ⟨v1,rfl,HO1.out,HB1.out,Kept.of_grown HG1.out (Kept.refl _ _) (fun k_ e_ => .inl (.inl (HO0.out.1 k_ e_)))⟩)
 | some a =>
  obtain ⟨ab,ao,asp⟩ := a;clear hn0;go_enter Tryd.func45,Tryd.ntmps45;go_wp2_with (first | ((with_reducible refine gate_builtin (b := .append) (xs := #[.tmp 23,.tmp 24]) rfl ?_);at_builtin;refine Kd.R_append_rows k26 (Rr := k26.K w) (w0 := w0) w0.heap.size rfl (.tmp 23) (.tmp 24) 35 26 (.agg #[(.bool false),(.int .u64 0),(.int .u64 0),(.string ⟨#[]⟩),(.int .i64 0),(.int .i64 0),(.int .i64 0),(.string ⟨#[]⟩),(.int .i64 0)]) 88 rfl Tryd.underlying35 info26 rfl (by decide) (by omega) (.slice (some ⟨ab,ao,asp⟩) l0.length c0) l0 l2 _ _ _ (fun k_ => (P0_ k_ ∨ P2_ k_) ∨ w.heap.size ≤ k_) (fun _ => False) rfl rfl HO.out HR.out (fun x cs h => by obtain rfl := k26_open h;exact k26_mkM _ _ _ x) (fun _ h => h.elim) (fun _ h => .inr h) HB.out HS.out HL.out ?_;intro v1 w1 ho hb hg hat;have HO1 := Aside0.mk ho;have HB1 := Aside0.mk hb;have HG1 := Aside0.mk hg;clear ho hb hg hat))
  all_goals (go_ret;exact ⟨v1,rfl,HO1.out,HB1.out,Kept.of_grown HG1.out (Kept.refl _ _) (fun k_ e_ => .inl (.inl (HO0.out.1 k_ e_)))⟩)
set_option maxHeartbeats 8000000 in
set_option maxRecDepth 100000 in
theorem slices_Insert.shift_ (P0_ P2_ : Nat → Prop) (g cap vb cap2 : Nat) (cur cur2 : Array Value) (l0 l2 : List (S26)) (i : Nat) (w0 w : World) (hB : Below w0.heap.size w0 w) (ho0 : Kd.R k26 26 w w0.heap.size P0_ (.slice (some ⟨g,0,none⟩) l0.length cap) l0) (hb : w0.heap.size ≤ g) (hok : P0_ g) (hg : w.heap[g]? = some (.cells cur 26 (0,0)))
  (hn : l0.length ≤ cap) (hc : cap ≤ maxLen) (hs : cur.size = cap * 9) (hr : Reps (k26.M w w0.heap.size (fun k => P0_ k ∧ some k ≠ (Value.slice (some ⟨g,0,none⟩) l0.length cap).ownBlock)) 9 l0 (cur.toList.take (l0.length * 9)))
  (hgv : w.heap[vb]? = some (.cells cur2 26 (0,0))) (ok2 : Nat → Prop) (hr2 : Reps (k26.M w w0.heap.size ok2) 9 l2 (cur2.toList.take (l2.length * 9))) (hne : vb ≠ g) (hi : i < l0.length) (hm : 0 < l2.length) (hroom : l0.length + l2.length ≤ cap) :
  Calls Tryd.prog 45 #[(.slice (some ⟨g,0,none⟩) l0.length cap),.int .i64 i,(.slice (some ⟨vb,0,none⟩) l2.length cap2)] w fun e w' => ∃ v0_ : Value,e = .returned (v0_) ∧ Kd.R k26 26 w' w0.heap.size (fun k_ => ((P0_ k_ ∨ P2_ k_) ∨ w.heap.size ≤ k_)) v0_ (l0.take i ++ l2 ++ l0.drop i) ∧ Below w0.heap.size w0 w' ∧ Kept w w' (fun k_ => P0_ k_ ∨ P2_ k_) := by
 have hu28 := Tryd.underlying35;obtain ⟨i0,hi0,hz0,hz1,hz2⟩ := info_parts info26;have hsz : (Tryd.prog.info? 26).map (·.size) = some 9 := by rw [hi0];simp [hz1]
 have hz6 : ∀ w,(Go.sizeOf 26).run Tryd.prog w = .ok 9 w := fun w => by simp [sizeOf,typeInfo,hi0,hz1]
 have hgw : g < w.heap.size := (Array.getElem?_eq_some_iff.1 hg).1;have hc63 : cap ≤ 9223372036854775807 := by simp only [maxLen] at hc;omega
 have hml : l0.length + l2.length ≤ 9223372036854775807 := by omega
 have hz1' : ¬ ((l2.length : Int) = 0) := by omega
 have hz2' : ¬ ((i : Int) = (l0.length : Int)) := by omega
 have hone := XS.reps_one hr;have hone2 := XS.reps_one hr2;have hcl : cur.toList.length = cap * 9 := by rw [Array.length_toList];exact hs
 have hin6 : (cur.toList.take (l0.length * 9)).length = l0.length * 9 := hr.1;have hv6 : (cur2.toList.take (l2.length * 9)).length = l2.length * 9 := hr2.1;have hov : ∀ lb cb,(callFunc 64 #[.slice (some ⟨vb,0,none⟩) l2.length cap2,.slice (some ⟨g,(i + l2.length) * 9,none⟩) lb cb]).run Tryd.prog w = .ok (.value (.bool false)) w := fun lb cb => by
  rw [run_callFunc_extern Tryd.func64 (by kernel_rfl) (by kernel_rfl) (by kernel_rfl) (e := Extern.SlicesOverlaps.overlaps #[35,35] #[4]) (by kernel_rfl),
   Lib.run_overlaps_apart w 35 4 26 hu28 9 hz6 ⟨vb,0,none⟩ ⟨g,(i + l2.length) * 9,none⟩ l2.length cap2 lb cb hne 26 26 cur2.size cur.size (by simp [World.shape?,hgv]) (by simp [World.shape?,hg]) (by omega) (by simp [World.frozen?,hgv]) (by simp [World.frozen?,hgv])]
  rfl
 obtain ⟨tail,htail⟩ : ∃ tail,tail = (cur.toList.take (l0.length * 9)).drop (i * 9) := ⟨_,rfl⟩;obtain ⟨vs,hvs⟩ : ∃ vs,vs = cur2.toList.take (l2.length * 9) := ⟨_,rfl⟩;have htl : tail.length = (l0.length - i) * 9 := by rw [htail,List.length_drop,hin6,Nat.sub_mul]
 have hvl : vs.length = l2.length * 9 := by rw [hvs];exact hv6
 have hgd : w.drew.heap[g]? = some (.cells cur 26 (0,0)) := hg;have ht1 : ∀ v ∈ tail,v.oneCell' = true := fun v hv => hone v (by rw [htail] at hv;exact List.mem_of_mem_drop hv)
 have hv1 : ∀ v ∈ vs,v.oneCell' = true := fun v hv => hone2 v (by rw [hvs] at hv;exact hv)
 obtain ⟨W1,hW1⟩ : ∃ W1,W1 = w.drew.setCells g ((i + l2.length) * 9) tail := ⟨_,rfl⟩;have hW1r := hW1.trans (XS.setCells_row Tryd.prog w.drew g ((i + l2.length) * 9) tail cur 26 hgd (by omega) ht1);obtain ⟨c1,hc1⟩ : ∃ c1 : Array Value,c1 = (cur.toList.take ((i + l2.length) * 9) ++ tail ++ cur.toList.drop ((i + l2.length) * 9 + tail.length)).toArray := ⟨_,rfl⟩;rw [← hc1] at hW1r;have hc1s : c1.size = cap * 9 := by rw [hc1,List.size_toArray,List.length_append,List.length_append,List.length_take,List.length_drop,hcl];omega
 have hc1l : c1.toList.length = cap * 9 := by rw [Array.length_toList];exact hc1s
 have hg1 : W1.heap[g]? = some (.cells c1 26 (0,0)) := by rw [hW1r];exact setRow_heap w.drew g cur c1 26 (0,0) hgd
 obtain ⟨W2,hW2⟩ : ∃ W2,W2 = W1.setCells g (i * 9) vs := ⟨_,rfl⟩;have hW2r := hW2.trans (XS.setCells_row Tryd.prog W1 g (i * 9) vs c1 26 hg1 (by omega) hv1);obtain ⟨c2,hc2⟩ : ∃ c2 : Array Value,c2 = (c1.toList.take (i * 9) ++ vs ++ c1.toList.drop (i * 9 + vs.length)).toArray := ⟨_,rfl⟩;rw [← hc2,hW1r,setRow_setRow] at hW2r;have hc2s : c2.size = cap * 9 := by rw [hc2,List.size_toArray,List.length_append,List.length_append,List.length_take,List.length_drop,hc1l];omega
 have htk : c2.toList.take ((l0.length + l2.length) * 9) = (cur.toList.take (l0.length * 9)).take (i * 9) ++ vs ++ tail := by
  have := XS.put_front cur.toList vs tail (i * 9) (l2.length * 9) ((l0.length - i) * 9) hvl htl (by omega);rw [← Nat.add_mul,← Nat.add_mul,show i + l2.length + (l0.length - i) = l0.length + l2.length by omega] at this;rw [hc2,hc1,htl,hvl,← Nat.add_mul,← Nat.add_mul,show i + l2.length + (l0.length - i) = l0.length + l2.length by omega,this,List.take_take,Nat.min_eq_left (by omega)]
 have hg2 : W2.heap[g]? = some (.cells c2 26 (0,0)) := by rw [hW2r];exact setRow_heap w.drew g cur c2 26 (0,0) hgd
 have hoth : ∀ k,k ≠ g → W2.heap[k]? = w.heap[k]? := fun k hk => by rw [hW2r];exact setRow_other w.drew g k c2 hk
 have hsize : W2.heap.size = w.heap.size := by rw [hW2r];exact (by simp [World.setRow] : (w.drew.setRow g c2).heap.size = w.drew.heap.size)
 have hrAll : Reps (k26.M w w0.heap.size (fun k => P0_ k ∧ some k ≠ (Value.slice (some ⟨g,0,none⟩) l0.length cap).ownBlock)) 9 (l0.take i ++ l2 ++ l0.drop i) ((cur.toList.take (l0.length * 9)).take (i * 9) ++ vs ++ tail) := by
  rw [hvs,htail];exact XS.reps_append (XS.reps_append (XS.reps_take hr i (by omega)) (hr2.imp_ (fun p c h => by obtain rfl := k26_openM h;exact k26_mkM _ _ _ p))) (XS.reps_drop hr i)
 have HR2 := Aside0.mk (show Kd.R k26 26 W2 w0.heap.size P0_ (.slice (some ⟨g,0,none⟩) (l0.length + l2.length) cap) (l0.take i ++ l2 ++ l0.drop i) from
  XS.R_rewrite ho0 hg2 hc2s (by omega) hc (fun k _ hk => hoth k hk) htk hrAll (by rw [List.length_append,List.length_append,List.length_take,List.length_drop];omega))
 have HB2 := Aside0.mk (show Below w0.heap.size w0 W2 from hB.trans ⟨by rw [hW2r];rfl,by rw [hW2r];rfl,by rw [hW2r];rfl,by omega,fun k hk => hoth k (by omega)⟩);have HK2 := Aside0.mk (show Kept w W2 (fun k_ => P0_ k_ ∨ P2_ k_) from ⟨by omega,fun k _ hk => hoth k (fun e_ => hk (.inl (e_ ▸ hok)))⟩);have hcurA : ∀ t u,tail[t]? = some u → cur[i * 9 + t]? = some u := fun t u hu => by
  rw [htail,List.getElem?_drop,List.getElem?_take] at hu
  split at hu
  ·rw [← Array.getElem?_toList];exact hu
  ·cases hu
 have hcurV : ∀ t u,vs[t]? = some u → cur2[t]? = some u := fun t u hu => by
  rw [hvs,List.getElem?_take] at hu
  split at hu
  ·rw [← Array.getElem?_toList];exact hu
  ·cases hu
 have hgv1 : W1.heap[vb]? = some (.cells cur2 26 (0,0)) := by rw [hW1r,setRow_other w.drew g vb c1 hne];exact hgv
 have hcp1 : ∀ ty dc sc,(Builtin.copy_ #[35,35] ty #[.slice (some ⟨g,(i + l2.length) * 9,none⟩) (l0.length + l2.length - (i + l2.length)) dc,.slice (some ⟨g,i * 9,none⟩) (l0.length + l2.length - i) sc]).run Tryd.prog w.drew = .ok (goInt (Nat.min (l0.length + l2.length - i) (l0.length + l2.length - (i + l2.length)))) W1 := fun ty dc sc => by
  rw [hW1];refine XS.run_copy_wide w.drew 35 35 ty 26 9 g _ _ dc ⟨g,i * 9,none⟩ _ sc tail hu28 hsz ?_ (fun t u hu => ?_) (fun t ht => ?_) (fun t ht => ?_) ht1
  ·rw [htl]
   congr 1
   simp only [Nat.min_def]
   split <;> omega
  ·rw [Addr.add_lit]
   simpa [World.cell?,hgd] using hcurA t u hu
  ·have : (i + l2.length) * 9 + t < cur.size := by omega
   simp [World.cell?,hgd,this]
  ·simp [World.frozen?,hgd]
 have hcp2 : ∀ ty dc,(Builtin.copy_ #[35,35] ty #[.slice (some ⟨g,i * 9,none⟩) (l0.length + l2.length - i) dc,.slice (some ⟨vb,0,none⟩) l2.length cap2]).run Tryd.prog W1 = .ok (goInt (Nat.min l2.length (l0.length + l2.length - i))) W2 := fun ty dc => by
  rw [hW2];refine XS.run_copy_wide W1 35 35 ty 26 9 g _ _ dc ⟨vb,0,none⟩ _ cap2 vs hu28 hsz ?_ (fun t u hu => ?_) (fun t ht => ?_) (fun t ht => ?_) hv1
  ·rw [hvl]
   congr 1
   simp only [Nat.min_def]
   split <;> omega
  ·rw [Addr.add_lit]
   simpa [World.cell?,hgv1] using hcurV t u hu
  ·have : i * 9 + t < c1.size := by omega
   simp [World.cell?,hg1,this]
  ·simp [World.frozen?,hg1]
 have hw1 : IntKind.i64.wrap ((i : Int) + (l2.length : Int)) = (i : Int) + (l2.length : Int) := by rw [IntKind.wrap_i64];omega
 have hb1 : (0 : Int) ≤ (i : Int) + (l2.length : Int) := by omega
 have hin : i ≤ l0.length := by omega
 have htn : ((i : Int) + (l2.length : Int)).toNat = i + l2.length := by omega
 have hb2 : ¬ (cap = i + l2.length) := by omega
 have hb3 : (i : Int) ≤ (l0.length : Int) + (l2.length : Int) := by omega
 have hb4 : ¬ (cap = i) := by omega
 have hHov : Hid _ := hov;have hHcp1 : Hid _ := hcp1;have hHcp2 : Hid _ := hcp2;clear hov hcp1 hcp2 hcurA hcurV hgv1 hg2 hoth hsize hrAll htk hc2 hc2s hW2 hW2r hc1 hc1s hc1l hg1 hW1 hW1r hgd ht1 hv1 hvl htl htail hvs hone hone2 hcl hin6 hv6 hr hr2 hg hgv hs hz6 hsz hi0 hz0 hz1 hz2 ho0 hB hb hok;go_enter Tryd.func45,Tryd.ntmps45;go_wp2_with (simp only [hHov.out]);have hcp1 := hHcp1.out;go_region_law (refine step_copy_runI rfl _ _ 35 35 rfl _ _ ?e1 ?e2 (hcp1 3 (cap - (i + l2.length)) (cap - i)) ?_;(case e1 => simp [Act.eval,Act.put]);(case e2 => simp [Act.eval,Act.put]));clear hcp1;have hcp2 := hHcp2.out;go_wp2_with (at_builtin;refine wpList_copy_runI W1 rfl (.tmp 80) (.tmp 81) 35 35 rfl (.slice (some ⟨g,i * 9,none⟩) (l0.length + l2.length - i) (cap - i)) (.slice (some ⟨vb,0,none⟩) l2.length cap2) rfl rfl (hcp2 3 (cap - i)) ?_);go_ret;exact ⟨.slice (some ⟨g,0,none⟩) (l0.length + l2.length) cap,rfl,Kd.R_mono HR2.out (fun _ h => .inl (.inl h)),HB2.out,HK2.out⟩
set_option maxHeartbeats 8000000 in
set_option maxRecDepth 100000 in
theorem slices_Insert.grow_ (P0_ P2_ : Nat → Prop) (g cap vb cap2 : Nat) (cur cur2 : Array Value) (l0 l2 : List (S26)) (i : Nat) (w0 w : World) (hB : Below w0.heap.size w0 w) (hok : P0_ g) (hg : w.heap[g]? = some (.cells cur 26 (0,0)))
  (hn : l0.length ≤ cap) (hc : cap ≤ maxLen) (hs : cur.size = cap * 9) (ok0 : Nat → Prop) (hr : Reps (k26.M w w0.heap.size ok0) 9 l0 (cur.toList.take (l0.length * 9)))
  (hgv : w.heap[vb]? = some (.cells cur2 26 (0,0))) (ok2 : Nat → Prop) (hr2 : Reps (k26.M w w0.heap.size ok2) 9 l2 (cur2.toList.take (l2.length * 9))) (hi : i < l0.length) (hm : 0 < l2.length) (hroom : cap < l0.length + l2.length) (hbig : (l0.length + l2.length) * 88 ≤ 140737488355328) :
  Calls Tryd.prog 45 #[(.slice (some ⟨g,0,none⟩) l0.length cap),.int .i64 i,(.slice (some ⟨vb,0,none⟩) l2.length cap2)] w fun e w' => ∃ v0_ : Value,e = .returned (v0_) ∧ Kd.R k26 26 w' w0.heap.size (fun k_ => ((P0_ k_ ∨ P2_ k_) ∨ w.heap.size ≤ k_)) v0_ (l0.take i ++ l2 ++ l0.drop i) ∧ Below w0.heap.size w0 w' ∧ Kept w w' (fun k_ => P0_ k_ ∨ P2_ k_) := by
 have hu28 := Tryd.underlying35;have hu3 := Tryd.underlying3;obtain ⟨i0,hi0,hz0,hz1,hz2⟩ := info_parts info26;have hsz : (Tryd.prog.info? 26).map (·.size) = some 9 := by rw [hi0];simp [hz1]
 have hgw : g < w.heap.size := (Array.getElem?_eq_some_iff.1 hg).1;have hvw : vb < w.heap.size := (Array.getElem?_eq_some_iff.1 hgv).1;have hc63 : cap ≤ 9223372036854775807 := by simp only [maxLen] at hc;omega
 have hml : l0.length + l2.length ≤ 9223372036854775807 := by omega
 have hz1' : ¬ ((l2.length : Int) = 0) := by omega
 have hz2' : ¬ ((i : Int) = (l0.length : Int)) := by omega
 have hone := XS.reps_one hr;have hone2 := XS.reps_one hr2;have hcl : cur.toList.length = cap * 9 := by rw [Array.length_toList];exact hs
 have hin6 : (cur.toList.take (l0.length * 9)).length = l0.length * 9 := hr.1;have hv6 : (cur2.toList.take (l2.length * 9)).length = l2.length * 9 := hr2.1;obtain ⟨tail,htail⟩ : ∃ tail,tail = (cur.toList.take (l0.length * 9)).drop (i * 9) := ⟨_,rfl⟩;obtain ⟨vs,hvs⟩ : ∃ vs,vs = cur2.toList.take (l2.length * 9) := ⟨_,rfl⟩;obtain ⟨olds,holds⟩ : ∃ olds,olds = (cur.toList.take (l0.length * 9)).take (i * 9) := ⟨_,rfl⟩;have htl : tail.length = (l0.length - i) * 9 := by rw [htail,List.length_drop,hin6,Nat.sub_mul]
 have hvl : vs.length = l2.length * 9 := by rw [hvs];exact hv6
 have hol : olds.length = i * 9 := by rw [holds,List.length_take,hin6];omega
 have ht1 : ∀ v ∈ tail,v.oneCell' = true := fun v hv => hone v (by rw [htail] at hv;exact List.mem_of_mem_drop hv)
 have hv1 : ∀ v ∈ vs,v.oneCell' = true := fun v hv => hone2 v (by rw [hvs] at hv;exact hv)
 have hcurA : ∀ t u,tail[t]? = some u → cur[i * 9 + t]? = some u := fun t u hu => by
  rw [htail,List.getElem?_drop,List.getElem?_take] at hu
  split at hu
  ·rw [← Array.getElem?_toList];exact hu
  ·cases hu
 have hcurO : ∀ t u,olds[t]? = some u → cur[t]? = some u := fun t u hu => by
  rw [holds,List.getElem?_take] at hu
  split at hu
  ·rw [List.getElem?_take] at hu
   split at hu
   ·rw [← Array.getElem?_toList];exact hu
   ·cases hu
  ·cases hu
 have hcurV : ∀ t u,vs[t]? = some u → cur2[t]? = some u := fun t u hu => by
  rw [hvs,List.getElem?_take] at hu
  split at hu
  ·rw [← Array.getElem?_toList];exact hu
  ·cases hu
 have hold : (Builtin.firstCells i0.size i (.slice (some ⟨g,0,none⟩) i cap)).run Tryd.prog w.drew = .ok olds.toArray w.drew := by
  rw [hz1];refine run_firstCells_some w.drew 9 i ⟨g,0,none⟩ i cap olds hol (fun t u hu => ?_);rw [Addr.add_lit]
  show w.cell? _ = some u
  simpa [World.cell?,hg] using hcurO t u hu
 have hik : i + (l0.length + l2.length - i) = l0.length + l2.length := by omega
 obtain ⟨G,hG⟩ : ∃ G,G = grownCap w (l0.length + l2.length) cap 26 := ⟨_,rfl⟩;obtain ⟨ROW,hROW⟩ : ∃ ROW : Array Value,ROW = olds.toArray ++ Builtin.zeroCells (Value.cells (.agg #[(.bool false),(.int .u64 0),(.int .u64 0),(.string ⟨#[]⟩),(.int .i64 0),(.int .i64 0),(.int .i64 0),(.string ⟨#[]⟩),(.int .i64 0)])) (l0.length + l2.length - i) ++ Builtin.zeroCells (Value.cells (.agg #[(.bool false),(.int .u64 0),(.int .u64 0),(.string ⟨#[]⟩),(.int .i64 0),(.int .i64 0),(.int .i64 0),(.string ⟨#[]⟩),(.int .i64 0)])) (G - (l0.length + l2.length)) := ⟨_,rfl⟩;obtain ⟨W1,hW1⟩ : ∃ W1,W1 = w.drew.alloc (.cells ROW 26) := ⟨_,rfl⟩;obtain ⟨N,hN⟩ : ∃ N,N = w.heap.size := ⟨_,rfl⟩;have hkk : (l0.length : Int) + (l2.length : Int) - (i : Int) = ((l0.length + l2.length - i : Nat) : Int) := by omega
 have hrz : ∀ ty,(Builtin.append_ #[35,3] ty #[.slice (some ⟨g,0,none⟩) i cap,.int .i64 ((l0.length : Int) + (l2.length : Int) - (i : Int))]).run Tryd.prog w = .ok (.slice (some ⟨N,0,none⟩) (l0.length + l2.length) G) W1 := fun ty => by
  have h := Lib.run_append_grow_zeros w 35 3 ty 26 i0 _ .i64 .i64 hu28 hu3 hi0 hz0 (some ⟨g,0,none⟩) i cap olds hold (l0.length + l2.length - i) (by omega) (by omega) (by omega) (by omega) (by rw [hz2];omega) (by rw [hz2,hik];exact growslice_fits hroom hbig);rw [hik] at h;rw [hkk,hW1,hROW,hG,hN];exact h
 have hGn : l0.length + l2.length ≤ G := by rw [hG];exact grownCap_ge w _ _ _
 have hGm : G ≤ maxLen := by rw [hG];exact grownCap_le_maxLen w _ _ _ (by simp only [maxLen];omega)
 have hG63 : G ≤ 9223372036854775807 := by simp only [maxLen] at hGm;omega
 have hRs : ROW.size = G * 9 := by
  rw [hROW,Array.size_append,Array.size_append,List.size_toArray,hol,size_zeroCells,size_zeroCells]
  show i * 9 + (l0.length + l2.length - i) * 9 + (G - (l0.length + l2.length)) * 9 = G * 9
  omega
 have hRl : ROW.toList.length = G * 9 := by rw [Array.length_toList];exact hRs
 have hRt : ROW.toList.take (i * 9) = olds := by
  rw [hROW];simp only [Array.toList_append,List.toList_toArray,List.append_assoc];exact List.take_left' hol
 have hgN : W1.heap[N]? = some (.cells ROW 26 (0,0)) := by rw [hW1,hN];exact heap_alloc_new w.drew _
 have hold1 : ∀ k,k < N → W1.heap[k]? = w.heap[k]? := fun k hk => by rw [hW1];exact heap_alloc_old w.drew _ (by rw [hN] at hk;exact hk)
 have hs1 : W1.heap.size = N + 1 := by rw [hW1,hN];exact (by simp : (w.drew.alloc (.cells ROW 26)).heap.size = w.drew.heap.size + 1)
 obtain ⟨WA,hWA⟩ : ∃ WA,WA = W1.setCells N (i * 9) vs := ⟨_,rfl⟩;have hWAr := hWA.trans (XS.setCells_row Tryd.prog W1 N (i * 9) vs ROW 26 hgN (by omega) hv1);obtain ⟨c1,hc1⟩ : ∃ c1 : Array Value,c1 = (ROW.toList.take (i * 9) ++ vs ++ ROW.toList.drop (i * 9 + vs.length)).toArray := ⟨_,rfl⟩;rw [← hc1] at hWAr;have hc1s : c1.size = G * 9 := by rw [hc1,List.size_toArray,List.length_append,List.length_append,List.length_take,List.length_drop,hRl];omega
 have hc1l : c1.toList.length = G * 9 := by rw [Array.length_toList];exact hc1s
 have hgA : WA.drew.heap[N]? = some (.cells c1 26 (0,0)) := by rw [hWAr];exact setRow_heap W1 N ROW c1 26 (0,0) hgN
 obtain ⟨WB,hWB⟩ : ∃ WB,WB = WA.drew.setCells N ((i + l2.length) * 9) tail := ⟨_,rfl⟩;have hWBr := hWB.trans (XS.setCells_row Tryd.prog WA.drew N ((i + l2.length) * 9) tail c1 26 hgA (by omega) ht1);obtain ⟨c2,hc2⟩ : ∃ c2 : Array Value,c2 = (c1.toList.take ((i + l2.length) * 9) ++ tail ++ c1.toList.drop ((i + l2.length) * 9 + tail.length)).toArray := ⟨_,rfl⟩;rw [← hc2] at hWBr;have hc2s : c2.size = G * 9 := by rw [hc2,List.size_toArray,List.length_append,List.length_append,List.length_take,List.length_drop,hc1l];omega
 have htk : c2.toList.take ((l0.length + l2.length) * 9) = olds ++ vs ++ tail := by
  have := XS.put_back ROW.toList vs tail (i * 9) (l2.length * 9) ((l0.length - i) * 9) hvl htl (by omega);rw [← Nat.add_mul,← Nat.add_mul,show i + l2.length + (l0.length - i) = l0.length + l2.length by omega,hRt] at this;rw [hc2,hc1,htl,hvl,hRt,← Nat.add_mul,← Nat.add_mul,show i + l2.length + (l0.length - i) = l0.length + l2.length by omega,this]
 have hgB : WB.heap[N]? = some (.cells c2 26 (0,0)) := by rw [hWBr];exact setRow_heap WA.drew N c1 c2 26 (0,0) hgA
 have holdA : ∀ k,k < N → WA.drew.heap[k]? = w.heap[k]? := fun k hk => by
  rw [hWAr];exact (setRow_other W1 N k c1 (by omega)).trans (hold1 k hk)
 have holdB : ∀ k,k < N → WB.heap[k]? = w.heap[k]? := fun k hk => by rw [hWBr,setRow_other WA.drew N k c2 (by omega)];exact holdA k hk
 have hsB : WB.heap.size = N + 1 := by
  rw [hWBr,hWAr];exact (by simp [World.setRow] : (((W1.setRow N c1).drew).setRow N c2).heap.size = W1.heap.size).trans hs1
 have hrAll : Reps (k26.M w w0.heap.size (fun k => ((P0_ k ∨ P2_ k) ∨ w.heap.size ≤ k) ∧ some k ≠ (Value.slice none 0 0).ownBlock)) 9 (l0.take i ++ l2 ++ l0.drop i) (olds ++ vs ++ tail) := by
  rw [hvs,htail,holds];have cv : ∀ {ok : Nat → Prop} (p : S26) (c : List Value),k26.M w w0.heap.size ok p c → k26.M w w0.heap.size (fun k => ((P0_ k ∨ P2_ k) ∨ w.heap.size ≤ k) ∧ some k ≠ (Value.slice none 0 0).ownBlock) p c := fun p c h => by obtain rfl := k26_openM h;exact k26_mkM _ _ _ p
  exact XS.reps_append (XS.reps_append ((XS.reps_take hr i (by omega)).imp_ cv) (hr2.imp_ cv)) ((XS.reps_drop hr i).imp_ cv)
 have hw0 : w0.heap.size ≤ w.heap.size := hB.size;have HR2 := Aside0.mk (show Kd.R k26 26 WB w0.heap.size (fun k => (P0_ k ∨ P2_ k) ∨ w.heap.size ≤ k) (.slice (some ⟨N,0,none⟩) (l0.length + l2.length) G) (l0.take i ++ l2 ++ l0.drop i) from
  XS.R_anew (v := .slice none 0 0) (W := w) (by omega) (by omega) (.inr (by omega)) hgB hc2s hGn hGm (fun k hk _ => holdB k (by omega)) htk hrAll (by rw [List.length_append,List.length_append,List.length_take,List.length_drop];omega))
 have hos : WB.os = w.os := by rw [hWBr,hWAr,hW1];rfl
 have hta : WB.tape = w.tape := by rw [hWBr,hWAr,hW1];rfl
 have hou : WB.output = w.output := by rw [hWBr,hWAr,hW1];rfl
 have HB2 := Aside0.mk (show Below w0.heap.size w0 WB from hB.trans ⟨hos,hta,hou,by omega,fun k hk => holdB k (by omega)⟩);have HK2 := Aside0.mk (show Kept w WB (fun k_ => P0_ k_ ∨ P2_ k_) from ⟨by omega,fun k hk _ => holdB k (by omega)⟩);have hcpA : ∀ ty dc,(Builtin.copy_ #[35,35] ty #[.slice (some ⟨N,i * 9,none⟩) (l0.length + l2.length - i) dc,.slice (some ⟨vb,0,none⟩) l2.length cap2]).run Tryd.prog W1 = .ok (goInt (Nat.min l2.length (l0.length + l2.length - i))) WA := fun ty dc => by
  rw [hWA];refine XS.run_copy_wide W1 35 35 ty 26 9 N _ _ dc ⟨vb,0,none⟩ _ cap2 vs hu28 hsz ?_ (fun t u hu => ?_) (fun t ht => ?_) (fun t ht => ?_) hv1
  ·rw [hvl]
   congr 1
   simp only [Nat.min_def]
   split <;> omega
  ·rw [Addr.add_lit]
   simpa [World.cell?,(hold1 vb (by omega)).trans hgv] using hcurV t u hu
  ·have : i * 9 + t < ROW.size := by omega
   simp [World.cell?,hgN,this]
  ·simp [World.frozen?,hgN]
 have hcpB : ∀ ty dc sc,(Builtin.copy_ #[35,35] ty #[.slice (some ⟨N,(i + l2.length) * 9,none⟩) (l0.length + l2.length - (i + l2.length)) dc,.slice (some ⟨g,i * 9,none⟩) (l0.length - i) sc]).run Tryd.prog WA.drew = .ok (goInt (Nat.min (l0.length - i) (l0.length + l2.length - (i + l2.length)))) WB := fun ty dc sc => by
  rw [hWB];refine XS.run_copy_wide WA.drew 35 35 ty 26 9 N _ _ dc ⟨g,i * 9,none⟩ _ sc tail hu28 hsz ?_ (fun t u hu => ?_) (fun t ht => ?_) (fun t ht => ?_) ht1
  ·rw [htl]
   congr 1
   simp only [Nat.min_def]
   split <;> omega
  ·rw [Addr.add_lit]
   simpa [World.cell?,(holdA g (by omega)).trans hg] using hcurA t u hu
  ·have : (i + l2.length) * 9 + t < c1.size := by omega
   simp [World.cell?,hgA,this]
  ·simp [World.frozen?,hgA]
 have hz3 : (cap : Int) < (l0.length : Int) + (l2.length : Int) := by omega
 have hw1 : IntKind.i64.wrap ((i : Int) + (l2.length : Int)) = (i : Int) + (l2.length : Int) := by rw [IntKind.wrap_i64];omega
 have hb1 : (0 : Int) ≤ (i : Int) + (l2.length : Int) := by omega
 have hin : i ≤ l0.length := by omega
 have htn : ((i : Int) + (l2.length : Int)).toNat = i + l2.length := by omega
 have hb3 : (i : Int) ≤ (l0.length : Int) := by omega
 have hGi : ¬ (G = i) := by omega
 have hGim : ¬ (G = i + l2.length) := by omega
 have hci : ¬ (cap = i) := by omega
 have hHrz : Hid _ := hrz;have hHcpA : Hid _ := hcpA;have hHcpB : Hid _ := hcpB;clear hrz hcpA hcpB hos hta hou hw0 hrAll hsB holdB holdA hgB htk hc2s hc2 hWBr hWB hgA hc1l hc1s hc1 hWAr hWA hs1 hold1 hgN hRt hRl hRs hGm hW1 hROW hG hkk hik hold hcurV hcurO hcurA hv1 ht1 hol hvl htl holds hvs htail hv6 hin6 hcl hone2 hone hsz hi0 hz0 hz1 hz2 hr hr2 hg hgv hs hB hok hN;have hrz := hHrz.out;have hcpA := hHcpA.out;have hcpB := hHcpB.out;go_enter Tryd.func45,Tryd.ntmps45;go_wp2_with (first
  | (at_builtin;refine Lib.wpList_append_run _ rfl (.tmp 34) (.tmp 39) 35 3 rfl (.slice (some ⟨g,0,none⟩) i cap) (.int .i64 ((l0.length : Int) + (l2.length : Int) - (i : Int))) rfl rfl _ _ (hrz _) ?_)
  | (at_builtin;refine wpList_copy_runI W1 rfl (.tmp 43) (.tmp 44) 35 35 rfl (.slice (some ⟨N,i * 9,none⟩) (l0.length + l2.length - i) (G - i)) (.slice (some ⟨vb,0,none⟩) l2.length cap2) rfl rfl (hcpA 3 (G - i)) ?_))
 go_region_law (refine step_copy_runI rfl _ _ 35 35 rfl _ _ ?e1 ?e2 (hcpB 3 (G - (i + l2.length)) (cap - i)) ?_;(case e1 => simp [Act.eval,Act.put]);(case e2 => simp [Act.eval,Act.put]));go_wp2;go_ret;exact ⟨.slice (some ⟨N,0,none⟩) (l0.length + l2.length) G,rfl,HR2.out,HB2.out,HK2.out⟩
set_option maxHeartbeats 8000000 in
set_option maxRecDepth 100000 in
theorem slices_Insert.calls (P0_ : Nat → Prop) (u9000_ : Value) (l0 : List (S26)) (a1 : Int) (P2_ : Nat → Prop) (u9001_ : Value) (l2 : List (S26)) (r : List (S26)) (w0 w : World) (hB : Below w0.heap.size w0 w) (ho0 : Kd.R k26 26 w w0.heap.size P0_ u9000_ l0) (hp0_2 : ∀ k_,P0_ k_ → ¬ P2_ k_) (ho2 : Kd.R k26 26 w w0.heap.size P2_ u9001_ l2) (hp2_0 : ∀ k_,P2_ k_ → ¬ P0_ k_) (h : slices_Insert.f l0 a1 l2 = some r) :
  Calls Tryd.prog 45 #[u9000_,.int .i64 a1,u9001_] w fun e w' => ∃ v0_ : Value,e = .returned (v0_) ∧ Kd.R k26 26 w' w0.heap.size (fun k_ => ((P0_ k_ ∨ P2_ k_) ∨ w.heap.size ≤ k_)) v0_ r ∧ Below w0.heap.size w0 w' ∧ Kept w w' (fun k_ => P0_ k_ ∨ P2_ k_) := by
 unfold slices_Insert.f at h
 by_cases h0 : 0 ≤ a1
 case neg => rw [if_neg h0] at h;cases h
 rw [if_pos h0] at h;by_cases h1 : a1 ≤ (l0.length : Int)
 case neg => rw [if_neg h1] at h;cases h
 rw [if_pos h1] at h;by_cases hl : (l0.length + l2.length) * 88 ≤ 140737488355328
 case neg => rw [if_neg hl] at h;cases h
 rw [if_pos hl] at h;obtain rfl := Option.some.inj h;clear h;obtain ⟨i,rfl⟩ := Int.eq_ofNat_of_zero_le h0;have hi : i ≤ l0.length := by omega
 simp only [Int.toNat_natCast]
 rcases Nat.eq_zero_or_pos l2.length with hm | hm
 ·obtain ⟨A0,c0,rfl,hc0,_⟩ := XS.R_shape ho0;obtain ⟨A2,c2,rfl,_,_⟩ := XS.R_shape ho2;rw [hm,List.length_eq_zero_iff.1 hm,List.append_nil,List.take_append_drop];exact slices_Insert.none_ P0_ P2_ A0 c0 A2 c2 l0 i w0 w hB hc0 ho0 hi
 ·have hrd2 := Kd.R_reads ho2;obtain ⟨vb,cap2,cur2,rfl,_,hok2,_,hgv,_,_,_,hr2⟩ := XS.R_block ho2 hm;by_cases he : i = l0.length
  ·subst he;obtain ⟨A0,c0,rfl,hc0,hn0⟩ := XS.R_shape ho0;obtain ⟨A',c',e',_,hC⟩ := hrd2
   injection e' with e1 _ _
   subst e1;rw [List.take_length,List.drop_length,List.append_nil];exact slices_Insert.end_ P0_ P2_ A0 c0 _ cap2 l0 l2 w0 w hB hc0 ho0 hn0 hm hC hl
  ·obtain ⟨g,cap,cur,rfl,hb,hok,_,hg,hn,hc,hs,hr⟩ := XS.R_block ho0 (by omega);have hne : vb ≠ g := fun e_ => hp0_2 g hok (e_ ▸ hok2)
   by_cases hroom : l0.length + l2.length ≤ cap
   ·exact slices_Insert.shift_ P0_ P2_ g cap vb cap2 cur cur2 l0 l2 i w0 w hB ho0 hb hok hg hn hc hs hr hgv _ hr2 hne (by omega) hm hroom
   ·exact slices_Insert.grow_ P0_ P2_ g cap vb cap2 cur cur2 l0 l2 i w0 w hB hok hg hn hc hs _ hr hgv _ hr2 (by omega) hm (by omega) hl
theorem leasefile_Put.len {l y : List (S26)} (h : slices_Clone.f l = some y) : y.length * 88 ≤ 140737488355328 := by
 unfold slices_Clone.f at h
 split at h
 ·injection h with h
  subst h
  assumption
 ·exact absurd h (by simp)
theorem leasefile_Put.far1 {w : World} {g base o : Nat} {ok : Nat → Prop} {v : Value} {xs : List S26} (h : Kd.R k26 26 w base (fun k => ok k ∧ k ≠ g) v xs) (u : Value) : Kd.R k26 26 (w.setCell ⟨g,o,none⟩ u) base (fun k => ok k ∧ k ≠ g) v xs := Kd.R_far h (fun _ hk => hk.2) u
theorem leasefile_Put.far9 {w : World} {g base : Nat} {ok : Nat → Prop} {v : Value} {xs : List S26} {a0 a1 a2 a3 a4 a5 a6 a7 a8 : Value} (h : Kd.R k26 26 w base (fun k => ok k ∧ k ≠ g) v xs) : Kd.R k26 26 (((((((((w.setCell ⟨g,0,none⟩ a0).setCell ⟨g,1,none⟩ a1).setCell ⟨g,2,none⟩ a2).setCell ⟨g,3,none⟩ a3).setCell ⟨g,4,none⟩ a4).setCell ⟨g,5,none⟩ a5).setCell ⟨g,6,none⟩ a6).setCell ⟨g,7,none⟩ a7).setCell ⟨g,8,none⟩ a8) base (fun k => ok k ∧ k ≠ g) v xs :=
 leasefile_Put.far1 (leasefile_Put.far1 (leasefile_Put.far1 (leasefile_Put.far1 (leasefile_Put.far1 (leasefile_Put.far1 (leasefile_Put.far1 (leasefile_Put.far1 (leasefile_Put.far1 h _) _) _) _) _) _) _) _) _
theorem leasefile_Put.rdz (y : List S26) (i : Nat) (h : i < y.length) : rd_T26 y (i : Int) = y[i] := by
 unfold rd_T26
 rw [Int.toNat_natCast,List.getD_eq_getElem?_getD,List.getElem?_eq_getElem h]
 rfl
set_option maxHeartbeats 8000000 in
set_option maxRecDepth 100000 in
theorem leasefile_Put.calls (k : Nat) (A0 : Option Addr) (c0 : Nat) (l0 : List (S26)) (a1_0 : Bool) (a1_1 : Int) (a1_2 : Int) (a1_3 : ByteArray) (a1_4 : Int) (a1_5 : Int) (a1_6 : Int) (a1_7 : ByteArray) (a1_8 : Int) (r : List (S26)) (w : World) (hr0 : Kd.C k26 w A0 l0.length l0) (hc0 : l0.length ≤ c0) (h : leasefile_Put.f k l0 a1_0 a1_1 a1_2 a1_3 a1_4 a1_5 a1_6 a1_7 a1_8 = some r) :
  Calls Tryd.prog 15 #[.slice A0 l0.length c0,.agg #[.bool a1_0,.int .u64 a1_1,.int .u64 a1_2,.string a1_3,.int .i64 a1_4,.int .i64 a1_5,.int .i64 a1_6,.string a1_7,.int .i64 a1_8]] w fun e w' => ∃ v0_ : Value,e = .returned (v0_) ∧ Kd.R k26 26 w' w.heap.size (fun _ => True) v0_ r ∧ Below w.heap.size w w' := by
 have hu26 := Tryd.underlying26;have hu24 := Tryd.underlying24;have HR0 := Aside0.mk hr0;have HC0 := Aside0.mk hc0;clear hr0 hc0;have HB := Aside0.mk (Below.refl w.heap.size w);have h : ((slices_Clone.f l0).bind fun t => leasefile_Put.l0 k (⟨⟨a1_0,a1_1,a1_2⟩,a1_3,a1_4,a1_5,a1_6,a1_7,a1_8⟩ : S26) t 0 t) = some r := h;replace h := Option.bind_eq_some_iff.mp h;obtain ⟨y,e1,h⟩ := h;have HL := Aside0.mk (leasefile_Put.len e1);have E1 := Aside0.mk e1;clear e1;have H' := Aside0.mk h;clear h;go_enter Tryd.func15,Tryd.ntmps15;go_wp2_with (first | ((with_reducible refine gate_dst (N := 3) rfl ?_);refine XR.bx 3 26 #[.bool a1_0,.int .u64 a1_1,.int .u64 a1_2,.string a1_3,.int .i64 a1_4,.int .i64 a1_5,.int .i64 a1_6,.string a1_7,.int .i64 a1_8] ?_;intro gb3 hg w3 hbox hb;have BK3 := Aside0.mk (hbox);have GW3 := Aside0.mk (XR.ge hg HB.out);replace HR0 := Aside0.mk (Kd.C_below HR0.out hb);replace HB := Aside0.mk (XR.bB HB.out hb);clear hb hbox hg) | ((with_reducible refine gate_callee (f := 43) rfl ?_);refine XR.gL 10 Tryd.func43 #[.slice A0 l0.length c0] ?_;(with_reducible refine (slices_Clone.calls A0 c0 l0 y _ HR0.out HC0.out E1.out).mono ?_);rintro e w4 ⟨v4,rfl,ho0,hb⟩;refine ⟨_,rfl,?_⟩;have HO := Aside0.mk (Kd.R_lower ho0 (below_size (XR.sB HB.out)));replace BK3 := Aside0.mk (XR.bb BK3.out hb);replace HB := Aside0.mk (below_step (XR.sB HB.out) hb);clear hb ho0;obtain ⟨Ao,co,eo⟩ := Kd.R_slice HO.out;subst eo));go_loopg [13] y.length (fun kq v13 w' => ∃ i : Nat,v13 = .int .i64 (i : Int) ∧ Aside0 (kq + i = y.length) ∧ Aside0 (leasefile_Put.l0 k (⟨⟨a1_0,a1_1,a1_2⟩,a1_3,a1_4,a1_5,a1_6,a1_7,a1_8⟩ : S26) y i (y.drop i) = some r) ∧ Aside0 (Kd.R k26 26 w' w.heap.size (fun _ => True) (.slice Ao y.length co) y) ∧ Aside0 (w'.heap[gb3]? = some (.cells #[.bool a1_0,.int .u64 a1_1,.int .u64 a1_2,.string a1_3,.int .i64 a1_4,.int .i64 a1_5,.int .i64 a1_6,.string a1_7,.int .i64 a1_8] 26 (0,0))) ∧ Aside0 (Below w.heap.size w w'))
 case atStart => exact ⟨0,rfl,⟨by omega⟩,H',⟨by (with_reducible repeat (first | apply Kd.R_alloc | apply Kd.R_drewN | apply Kd.R_drew));exact HO.out⟩,(XR.fb BK3.out),⟨XR.sB HB.out⟩⟩
 case round =>
  obtain ⟨i,rfl,HK,HA,HO,BK3,HB⟩ := hrel;by_cases hi : i < y.length
  ·have H := HA.out;clear HA;rw [List.drop_eq_getElem_cons hi] at H;simp only [leasefile_Put.l0] at H;replace H := Option.bind_eq_some_iff.mp H;obtain ⟨c,A1,H⟩ := H;have p : 0 ≤ (i : Int) := by omega
   have q : (i : Int) < (y.length : Int) := by omega
   obtain ⟨g,cap,he,hgb,hgl,cells,hcell⟩ := Kd.R_form HO.out (by omega)
   injection he with he1 he2 he3
   subst he1 he3;clear he2;obtain ⟨ce,hcl,hM,hcc,hfr⟩ := Kd.R_elem HO.out z26 (i : Int) p q;obtain rfl := k26_openM hM;have hz0 : y.getD (i : Int).toNat z26 = y[i] := leasefile_Put.rdz y i hi;rw [hz0] at hcc hM;clear hcl hfr hz0;obtain ⟨z,hz⟩ : ∃ z,y[i] = z := ⟨_,rfl⟩;rw [hz] at A1 hcc hM;have hcc : ∀ j u,[.bool z.f0.f0,.int .u64 z.f0.f1,.int .u64 z.f0.f2,.string z.f1,.int .i64 z.f2,.int .i64 z.f3,.int .i64 z.f4,.string z.f5,.int .i64 z.f6][j]? = some u → wr.cell? ⟨g,i * 9 + j,none⟩ = some u := fun j u h => by have h2 := hcc j u h;rw [Int.toNat_natCast] at h2;exact h2
   have hE : XL.er wr ⟨g,i * 9,none⟩ [.bool z.f0.f0,.int .u64 z.f0.f1,.int .u64 z.f0.f2,.string z.f1,.int .i64 z.f2,.int .i64 z.f3,.int .i64 z.f4,.string z.f5,.int .i64 z.f6] := fun j v h => by have e_ : Addr.add ⟨g,i * 9,none⟩ j = ⟨g,i * 9 + j,none⟩ := (by simp [Addr.add]);rw [e_];exact hcc j v h
   have hx0 : wr.cell? ⟨g,i * 9,none⟩ = some (.bool z.f0.f0) := hE 0 _ rfl;have hx1 : wr.cell? ⟨g,i * 9 + 1,none⟩ = some (.int .u64 z.f0.f1) := hcc 1 _ rfl;have hx2 : wr.cell? ⟨g,i * 9 + 2,none⟩ = some (.int .u64 z.f0.f2) := hcc 2 _ rfl;have hx3 : wr.cell? ⟨g,i * 9 + 3,none⟩ = some (.string z.f1) := hcc 3 _ rfl;have hx4 : wr.cell? ⟨g,i * 9 + 4,none⟩ = some (.int .i64 z.f2) := hcc 4 _ rfl;have hx5 : wr.cell? ⟨g,i * 9 + 5,none⟩ = some (.int .i64 z.f3) := hcc 5 _ rfl;have hx6 : wr.cell? ⟨g,i * 9 + 6,none⟩ = some (.int .i64 z.f4) := hcc 6 _ rfl;have hx7 : wr.cell? ⟨g,i * 9 + 7,none⟩ = some (.string z.f5) := hcc 7 _ rfl;have hx8 : wr.cell? ⟨g,i * 9 + 8,none⟩ = some (.int .i64 z.f6) := hcc 8 _ rfl;have HCC := Aside0.mk hcc;have HM := Aside0.mk hM;clear hcc hM;have HZ := Aside0.mk hz;clear hz;have A1 := Aside0.mk A1;have q0 := decide_eq_true q;replace p := eq_true p;replace q := eq_true q;clear hcell cells;have GWg := Aside0.mk hgb;by_cases cc : c = 0
   ·rw [if_pos cc] at H;have ccb := beq_iff_eq.mpr cc;obtain rfl := Option.some.inj H;go_wp2_with (first | ((with_reducible refine XL.gate_ld 26 17 rfl ?_);first | ((with_reducible refine XL.gw hx0 ?_);refine XL.ldE 26 _ _ _ Tryd.underlying26 hE ?_) | ((with_reducible refine XL.ga hx0 ?_);refine XL.ldE 26 _ _ _ Tryd.underlying26 (XL.er_alloc hE _) ?_) | ((with_reducible refine XL.gd hx0 ?_);refine XL.ldE 26 _ _ _ Tryd.underlying26 (XL.er_drew hE) ?_)) | ((with_reducible refine gate_dst (N := 7) rfl ?_);refine XR.bx 7 26 #[.bool false,.int .u64 0,.int .u64 0,.string (⟨#[]⟩ : ByteArray),.int .i64 0,.int .i64 0,.int .i64 0,.string (⟨#[]⟩ : ByteArray),.int .i64 0] ?_;intro gb7 hg w5 hbox hb;have BK7 := Aside0.mk (hbox);have GW7 := Aside0.mk (XR.ge hg HB.out);have NB37 := Aside0.mk (XR.ne hg BK3.out);have NB73 := Aside0.mk (XR.en hg BK3.out);replace HO := Aside0.mk (Kd.R_below (Kd.R_elderB (XR.lR HO.out) gb7 (Nat.le_of_eq hg.symm)) hb);replace BK3 := Aside0.mk (XR.bb BK3.out hb);replace HB := Aside0.mk (below_step (XR.sB HB.out) hb);clear hb hbox hg;have hnb := NB37.out;have hnc := NB73.out;obtain ⟨Y3_0,Y3_1,Y3_2,Y3_3,Y3_4,Y3_5,Y3_6,Y3_7,Y3_8⟩ := XR.c9 BK3.out;obtain ⟨Z3_0,Z3_1,Z3_2,Z3_3,Z3_4,Z3_5,Z3_6,Z3_7,Z3_8⟩ := XR.f9 BK3.out;obtain ⟨Y7_0,Y7_1,Y7_2,Y7_3,Y7_4,Y7_5,Y7_6,Y7_7,Y7_8⟩ := XR.c9 BK7.out;obtain ⟨Z7_0,Z7_1,Z7_2,Z7_3,Z7_4,Z7_5,Z7_6,Z7_7,Z7_8⟩ := XR.f9 BK7.out) | ((with_reducible refine gate_store (t := 26) (p := 7) rfl ?_);refine XL.stL 26 7 _ gb7 _ [.bool z.f0.f0,.int .u64 z.f0.f1,.int .u64 z.f0.f2,.string z.f1,.int .i64 z.f2,.int .i64 z.f3,.int .i64 z.f4,.string z.f5,.int .i64 z.f6] (by with_reducible first | exact BK7.out | exact XR.lb BK7.out) ?_) | ((with_reducible refine gate_callee (f := 44) rfl ?_);refine XR.gL 22 Tryd.func44 #[.agg #[.bool z.f0.f0,.int .u64 z.f0.f1,.int .u64 z.f0.f2],.agg #[.bool a1_0,.int .u64 a1_1,.int .u64 a1_2]] ?_;(with_reducible refine (addr_Compare.calls k z.f0.f0 z.f0.f1 z.f0.f2 a1_0 a1_1 a1_2 c _ A1.out).mono ?_);rintro e w6 ⟨rfl,hb⟩;refine ⟨_,rfl,?_⟩;have n0 := Aside0.mk (Kd.R_below (leasefile_Put.far9 HO.out) hb);have n1 := Aside0.mk (blk_below (g := gb3) (o := .cells #[.bool a1_0,.int .u64 a1_1,.int .u64 a1_2,.string a1_3,.int .i64 a1_4,.int .i64 a1_5,.int .i64 a1_6,.string a1_7,.int .i64 a1_8] 26 (0,0)) (by (with_reducible repeat (first | refine blk_far ?_ NB37.out _ | refine blk_drewN ?_ _ | refine blk_drew ?_ | refine blk_alloc ?_ _));exact BK3.out) hb);have n3 := Aside0.mk (below_step (XR.sB HB.out) hb);clear HO BK3 BK7 HB;have HO := n0;have BK3 := n1;have HB := n3;clear n0 n1 n3;clear hb;clear Y3_0 Y3_1 Y3_2 Y3_3 Y3_4 Y3_5 Y3_6 Y3_7 Y3_8 Z3_0 Z3_1 Z3_2 Z3_3 Z3_4 Z3_5 Z3_6 Z3_7 Z3_8;obtain ⟨Y3_0,Y3_1,Y3_2,Y3_3,Y3_4,Y3_5,Y3_6,Y3_7,Y3_8⟩ := XR.c9 BK3.out;obtain ⟨Z3_0,Z3_1,Z3_2,Z3_3,Z3_4,Z3_5,Z3_6,Z3_7,Z3_8⟩ := XR.f9 BK3.out;obtain ⟨ce,hcl2,hM2,hcc2,hfr2⟩ := Kd.R_elem HO.out z26 (i : Int) (of_eq_true p) (of_eq_true q);obtain rfl := k26_openM hM2;have sx0 : w6.cell? ⟨g,i * 9,none⟩ = some _ := hcc2 0 _ rfl;have sf0 : w6.frozen? ⟨g,i * 9,none⟩ = false := hfr2 0;have sx1 : w6.cell? ⟨g,i * 9 + 1,none⟩ = some _ := hcc2 1 _ rfl;have sf1 : w6.frozen? ⟨g,i * 9 + 1,none⟩ = false := hfr2 1;have sx2 : w6.cell? ⟨g,i * 9 + 2,none⟩ = some _ := hcc2 2 _ rfl;have sf2 : w6.frozen? ⟨g,i * 9 + 2,none⟩ = false := hfr2 2;have sx3 : w6.cell? ⟨g,i * 9 + 3,none⟩ = some _ := hcc2 3 _ rfl;have sf3 : w6.frozen? ⟨g,i * 9 + 3,none⟩ = false := hfr2 3;have sx4 : w6.cell? ⟨g,i * 9 + 4,none⟩ = some _ := hcc2 4 _ rfl;have sf4 : w6.frozen? ⟨g,i * 9 + 4,none⟩ = false := hfr2 4;have sx5 : w6.cell? ⟨g,i * 9 + 5,none⟩ = some _ := hcc2 5 _ rfl;have sf5 : w6.frozen? ⟨g,i * 9 + 5,none⟩ = false := hfr2 5;have sx6 : w6.cell? ⟨g,i * 9 + 6,none⟩ = some _ := hcc2 6 _ rfl;have sf6 : w6.frozen? ⟨g,i * 9 + 6,none⟩ = false := hfr2 6;have sx7 : w6.cell? ⟨g,i * 9 + 7,none⟩ = some _ := hcc2 7 _ rfl;have sf7 : w6.frozen? ⟨g,i * 9 + 7,none⟩ = false := hfr2 7;have sx8 : w6.cell? ⟨g,i * 9 + 8,none⟩ = some _ := hcc2 8 _ rfl;have sf8 : w6.frozen? ⟨g,i * 9 + 8,none⟩ = false := hfr2 8;have HC2 := Aside0.mk hcc2;have HL2 := Aside0.mk hcl2;clear hcc2 hcl2 hM2 hfr2) | ((with_reducible refine XL.gate_ld 26 28 rfl ?_);refine XL.ldL 26 _ gb3 [.bool a1_0,.int .u64 a1_1,.int .u64 a1_2,.string a1_3,.int .i64 a1_4,.int .i64 a1_5,.int .i64 a1_6,.string a1_7,.int .i64 a1_8] Tryd.underlying26 (by with_reducible first | exact XL.rng BK3.out | exact XL.rng (XR.lb BK3.out)) ?_) | ((with_reducible refine XL.gate_ld 26 3 rfl ?_);refine XL.ldL 26 _ gb3 _ Tryd.underlying26 (by with_reducible first | exact XL.rng BK3.out | exact XL.rng (XR.lb BK3.out)) ?_) | ((with_reducible refine XL.gate_ld 26 7 rfl ?_);refine XL.ldL 26 _ gb7 _ Tryd.underlying26 (by with_reducible first | exact XL.rng BK7.out | exact XL.rng (XR.lb BK7.out)) ?_) | ((with_reducible refine gate_store (t := 26) (p := 3) rfl ?_);refine XL.stL 26 3 _ gb3 _ _ (by with_reducible first | exact BK3.out | exact XR.lb BK3.out) ?_));have HP := Kd.R_seg HO.out (i : Int) (of_eq_true p) (of_eq_true q) (seg := [.bool a1_0,.int .u64 a1_1,.int .u64 a1_2,.string a1_3,.int .i64 a1_4,.int .i64 a1_5,.int .i64 a1_6,.string a1_7,.int .i64 a1_8]) (j := 0) HL2.out HC2.out (show 0 + 9 ≤ 9 from by decide) (x' := (⟨⟨a1_0,a1_1,a1_2⟩,a1_3,a1_4,a1_5,a1_6,a1_7,a1_8⟩ : S26)) (okp := fun _ => False) (k26_mkM _ _ _ (⟨⟨a1_0,a1_1,a1_2⟩,a1_3,a1_4,a1_5,a1_6,a1_7,a1_8⟩ : S26)) (fun _ hk => hk.elim);go_ret;exact ⟨_,rfl,Kd.R_mono HP.1 (fun _ _ => trivial),XR.sB HB.out⟩
   ·rw [if_neg cc] at H;have ccb := beq_eq_false_iff_ne.mpr cc;by_cases cg : c > 0
    ·rw [if_pos cg] at H;have cgb := decide_eq_true cg;have H := Aside0.mk H
     go_wp2_with (first | ((with_reducible refine XL.gate_ld 26 17 rfl ?_);first | ((with_reducible refine XL.gw hx0 ?_);refine XL.ldE 26 _ _ _ Tryd.underlying26 hE ?_) | ((with_reducible refine XL.ga hx0 ?_);refine XL.ldE 26 _ _ _ Tryd.underlying26 (XL.er_alloc hE _) ?_) | ((with_reducible refine XL.gd hx0 ?_);refine XL.ldE 26 _ _ _ Tryd.underlying26 (XL.er_drew hE) ?_)) | ((with_reducible refine gate_dst (N := 7) rfl ?_);refine XR.bx 7 26 #[.bool false,.int .u64 0,.int .u64 0,.string (⟨#[]⟩ : ByteArray),.int .i64 0,.int .i64 0,.int .i64 0,.string (⟨#[]⟩ : ByteArray),.int .i64 0] ?_;intro gb7 hg w5 hbox hb;have BK7 := Aside0.mk (hbox);have GW7 := Aside0.mk (XR.ge hg HB.out);have NB37 := Aside0.mk (XR.ne hg BK3.out);have NB73 := Aside0.mk (XR.en hg BK3.out);replace HO := Aside0.mk (Kd.R_below (Kd.R_elderB (XR.lR HO.out) gb7 (Nat.le_of_eq hg.symm)) hb);replace BK3 := Aside0.mk (XR.bb BK3.out hb);replace HB := Aside0.mk (below_step (XR.sB HB.out) hb);clear hb hbox hg;have hnb := NB37.out;have hnc := NB73.out;obtain ⟨Y3_0,Y3_1,Y3_2,Y3_3,Y3_4,Y3_5,Y3_6,Y3_7,Y3_8⟩ := XR.c9 BK3.out;obtain ⟨Z3_0,Z3_1,Z3_2,Z3_3,Z3_4,Z3_5,Z3_6,Z3_7,Z3_8⟩ := XR.f9 BK3.out;obtain ⟨Y7_0,Y7_1,Y7_2,Y7_3,Y7_4,Y7_5,Y7_6,Y7_7,Y7_8⟩ := XR.c9 BK7.out;obtain ⟨Z7_0,Z7_1,Z7_2,Z7_3,Z7_4,Z7_5,Z7_6,Z7_7,Z7_8⟩ := XR.f9 BK7.out) | ((with_reducible refine gate_store (t := 26) (p := 7) rfl ?_);refine XL.stL 26 7 _ gb7 _ [.bool z.f0.f0,.int .u64 z.f0.f1,.int .u64 z.f0.f2,.string z.f1,.int .i64 z.f2,.int .i64 z.f3,.int .i64 z.f4,.string z.f5,.int .i64 z.f6] (by with_reducible first | exact BK7.out | exact XR.lb BK7.out) ?_) | ((with_reducible refine gate_callee (f := 44) rfl ?_);refine XR.gL 22 Tryd.func44 #[.agg #[.bool z.f0.f0,.int .u64 z.f0.f1,.int .u64 z.f0.f2],.agg #[.bool a1_0,.int .u64 a1_1,.int .u64 a1_2]] ?_;(with_reducible refine (addr_Compare.calls k z.f0.f0 z.f0.f1 z.f0.f2 a1_0 a1_1 a1_2 c _ A1.out).mono ?_);rintro e w6 ⟨rfl,hb⟩;refine ⟨_,rfl,?_⟩;have n0 := Aside0.mk (Kd.R_below (leasefile_Put.far9 HO.out) hb);have n1 := Aside0.mk (blk_below (g := gb3) (o := .cells #[.bool a1_0,.int .u64 a1_1,.int .u64 a1_2,.string a1_3,.int .i64 a1_4,.int .i64 a1_5,.int .i64 a1_6,.string a1_7,.int .i64 a1_8] 26 (0,0)) (by (with_reducible repeat (first | refine blk_far ?_ NB37.out _ | refine blk_drewN ?_ _ | refine blk_drew ?_ | refine blk_alloc ?_ _));exact BK3.out) hb);have n3 := Aside0.mk (below_step (XR.sB HB.out) hb);clear HO BK3 BK7 HB;have HO := n0;have BK3 := n1;have HB := n3;clear n0 n1 n3;clear hb;clear Y3_0 Y3_1 Y3_2 Y3_3 Y3_4 Y3_5 Y3_6 Y3_7 Y3_8 Z3_0 Z3_1 Z3_2 Z3_3 Z3_4 Z3_5 Z3_6 Z3_7 Z3_8;obtain ⟨Y3_0,Y3_1,Y3_2,Y3_3,Y3_4,Y3_5,Y3_6,Y3_7,Y3_8⟩ := XR.c9 BK3.out;obtain ⟨Z3_0,Z3_1,Z3_2,Z3_3,Z3_4,Z3_5,Z3_6,Z3_7,Z3_8⟩ := XR.f9 BK3.out;obtain ⟨ce,hcl2,hM2,hcc2,hfr2⟩ := Kd.R_elem HO.out z26 (i : Int) (of_eq_true p) (of_eq_true q);obtain rfl := k26_openM hM2;have sx0 : w6.cell? ⟨g,i * 9,none⟩ = some _ := hcc2 0 _ rfl;have sf0 : w6.frozen? ⟨g,i * 9,none⟩ = false := hfr2 0;have sx1 : w6.cell? ⟨g,i * 9 + 1,none⟩ = some _ := hcc2 1 _ rfl;have sf1 : w6.frozen? ⟨g,i * 9 + 1,none⟩ = false := hfr2 1;have sx2 : w6.cell? ⟨g,i * 9 + 2,none⟩ = some _ := hcc2 2 _ rfl;have sf2 : w6.frozen? ⟨g,i * 9 + 2,none⟩ = false := hfr2 2;have sx3 : w6.cell? ⟨g,i * 9 + 3,none⟩ = some _ := hcc2 3 _ rfl;have sf3 : w6.frozen? ⟨g,i * 9 + 3,none⟩ = false := hfr2 3;have sx4 : w6.cell? ⟨g,i * 9 + 4,none⟩ = some _ := hcc2 4 _ rfl;have sf4 : w6.frozen? ⟨g,i * 9 + 4,none⟩ = false := hfr2 4;have sx5 : w6.cell? ⟨g,i * 9 + 5,none⟩ = some _ := hcc2 5 _ rfl;have sf5 : w6.frozen? ⟨g,i * 9 + 5,none⟩ = false := hfr2 5;have sx6 : w6.cell? ⟨g,i * 9 + 6,none⟩ = some _ := hcc2 6 _ rfl;have sf6 : w6.frozen? ⟨g,i * 9 + 6,none⟩ = false := hfr2 6;have sx7 : w6.cell? ⟨g,i * 9 + 7,none⟩ = some _ := hcc2 7 _ rfl;have sf7 : w6.frozen? ⟨g,i * 9 + 7,none⟩ = false := hfr2 7;have sx8 : w6.cell? ⟨g,i * 9 + 8,none⟩ = some _ := hcc2 8 _ rfl;have sf8 : w6.frozen? ⟨g,i * 9 + 8,none⟩ = false := hfr2 8;have HC2 := Aside0.mk hcc2;have HL2 := Aside0.mk hcl2;clear hcc2 hcl2 hM2 hfr2) | ((with_reducible refine XL.gate_ld 26 28 rfl ?_);refine XL.ldL 26 _ gb3 [.bool a1_0,.int .u64 a1_1,.int .u64 a1_2,.string a1_3,.int .i64 a1_4,.int .i64 a1_5,.int .i64 a1_6,.string a1_7,.int .i64 a1_8] Tryd.underlying26 (by with_reducible first | exact XL.rng BK3.out | exact XL.rng (XR.lb BK3.out)) ?_) | ((with_reducible refine gate_dst (N := 37) rfl ?_);refine Kd.R_lit k26 _ 26 ?hg (N := 37) ?hd (xs := [(⟨⟨a1_0,a1_1,a1_2⟩,a1_3,a1_4,a1_5,a1_6,a1_7,a1_8⟩ : S26)]) (inner := [.bool a1_0,.int .u64 a1_1,.int .u64 a1_2,.string a1_3,.int .i64 a1_4,.int .i64 a1_5,.int .i64 a1_6,.string a1_7,.int .i64 a1_8]) (ok := fun _ => True) (okp := fun _ => True) ?hr ?hp (fun _ hk => hk) trivial (Below.refl _ _) (Nat.le_refl _) (by simp) ?_;(case hd => rfl);(case hg => rfl);(case hr => first | (go_simp;done) | (go_simp;rfl));(case hp => exact Reps.c9 (k26_mkM _ _ _ (⟨⟨a1_0,a1_1,a1_2⟩,a1_3,a1_4,a1_5,a1_6,a1_7,a1_8⟩ : S26)) (Reps.none _ _));intro v37 w8 hl hb hg_ hnew_;clear hg_ hnew_;have n0 := Aside0.mk (Kd.R_elder' (XR.lR HO.out) (Kd.R_base hl) hb);have n1 := Aside0.mk (Kd.R_lower (Kd.R_new' hl (Kd.R_lt (XR.lR HO.out))) (below_size (XR.sB HB.out)));have n2 := Aside0.mk (below_step (XR.sB HB.out) hb);clear HO HB BK3;have HO := n0;have HV := n1;have HB := n2;clear n0 n1 n2;clear hb hl;obtain ⟨A37,c37,e37⟩ := Kd.R_slice HV.out;subst e37) | ((with_reducible refine gate_callee (f := 45) rfl ?_);refine XR.gL 38 Tryd.func45 #[.slice (some ⟨g,0,none⟩) y.length co,.int .i64 (i : Int),.slice A37 [(⟨⟨a1_0,a1_1,a1_2⟩,a1_3,a1_4,a1_5,a1_6,a1_7,a1_8⟩ : S26)].length c37] ?_;(with_reducible refine (slices_Insert.calls (fun k_ => some k_ = (.slice (some ⟨g,0,none⟩) y.length co : Value).ownBlock) _ y (i : Int) (fun k_ => some k_ = (.slice A37 [(⟨⟨a1_0,a1_1,a1_2⟩,a1_3,a1_4,a1_5,a1_6,a1_7,a1_8⟩ : S26)].length c37 : Value).ownBlock) _ [(⟨⟨a1_0,a1_1,a1_2⟩,a1_3,a1_4,a1_5,a1_6,a1_7,a1_8⟩ : S26)] r w _ ?side1 ?side2 ?side3 ?side4 ?side5 H.out).mono ?_);(case side1 => exact XR.sB HB.out);(case side2 => exact Kd.R_tight rfl HO.out);(case side3 => exact fun k_ e_ => (HO.out.1 k_ e_.symm).2);(case side4 => exact Kd.R_tight rfl HV.out);(case side5 => exact fun k_ e_ => (HV.out.1 k_ e_.symm).2);rintro e w9 ⟨v9,rfl,ho,hb,hkp⟩;refine ⟨_,rfl,?_⟩;clear HO HB HV hkp;have HO := Aside0.mk (Kd.R_mono ho (fun _ _ => (trivial : (fun _ : Nat => True) _)));have HB := Aside0.mk hb;clear ho hb) | ((with_reducible refine XL.gate_ld 26 3 rfl ?_);refine XL.ldL 26 _ gb3 _ Tryd.underlying26 (by with_reducible first | exact XL.rng BK3.out | exact XL.rng (XR.lb BK3.out)) ?_) | ((with_reducible refine XL.gate_ld 26 7 rfl ?_);refine XL.ldL 26 _ gb7 _ Tryd.underlying26 (by with_reducible first | exact XL.rng BK7.out | exact XL.rng (XR.lb BK7.out)) ?_) | ((with_reducible refine gate_store (t := 26) (p := 3) rfl ?_);refine XL.stL 26 3 _ gb3 _ _ (by with_reducible first | exact BK3.out | exact XR.lb BK3.out) ?_))
     go_ret;exact ⟨_,rfl,HO.out,XR.sB HB.out⟩
    ·rw [if_neg cg] at H;have cgb := decide_eq_false cg;have H := Aside0.mk H
     cases gk with
     | zero => have := HK.out;omega
     | succ k1 =>
      have hw : wrap64 ((i : Int) + 1) = ((i + 1 : Nat) : Int) := by have := HL.out;unfold wrap64;omega
      go_wp2_with (first | ((with_reducible refine XL.gate_ld 26 17 rfl ?_);first | ((with_reducible refine XL.gw hx0 ?_);refine XL.ldE 26 _ _ _ Tryd.underlying26 hE ?_) | ((with_reducible refine XL.ga hx0 ?_);refine XL.ldE 26 _ _ _ Tryd.underlying26 (XL.er_alloc hE _) ?_) | ((with_reducible refine XL.gd hx0 ?_);refine XL.ldE 26 _ _ _ Tryd.underlying26 (XL.er_drew hE) ?_)) | ((with_reducible refine gate_dst (N := 7) rfl ?_);refine XR.bx 7 26 #[.bool false,.int .u64 0,.int .u64 0,.string (⟨#[]⟩ : ByteArray),.int .i64 0,.int .i64 0,.int .i64 0,.string (⟨#[]⟩ : ByteArray),.int .i64 0] ?_;intro gb7 hg w5 hbox hb;have BK7 := Aside0.mk (hbox);have GW7 := Aside0.mk (XR.ge hg HB.out);have NB37 := Aside0.mk (XR.ne hg BK3.out);have NB73 := Aside0.mk (XR.en hg BK3.out);replace HO := Aside0.mk (Kd.R_below (Kd.R_elderB (XR.lR HO.out) gb7 (Nat.le_of_eq hg.symm)) hb);replace BK3 := Aside0.mk (XR.bb BK3.out hb);replace HB := Aside0.mk (below_step (XR.sB HB.out) hb);clear hb hbox hg;have hnb := NB37.out;have hnc := NB73.out;obtain ⟨Y3_0,Y3_1,Y3_2,Y3_3,Y3_4,Y3_5,Y3_6,Y3_7,Y3_8⟩ := XR.c9 BK3.out;obtain ⟨Z3_0,Z3_1,Z3_2,Z3_3,Z3_4,Z3_5,Z3_6,Z3_7,Z3_8⟩ := XR.f9 BK3.out;obtain ⟨Y7_0,Y7_1,Y7_2,Y7_3,Y7_4,Y7_5,Y7_6,Y7_7,Y7_8⟩ := XR.c9 BK7.out;obtain ⟨Z7_0,Z7_1,Z7_2,Z7_3,Z7_4,Z7_5,Z7_6,Z7_7,Z7_8⟩ := XR.f9 BK7.out) | ((with_reducible refine gate_store (t := 26) (p := 7) rfl ?_);refine XL.stL 26 7 _ gb7 _ [.bool z.f0.f0,.int .u64 z.f0.f1,.int .u64 z.f0.f2,.string z.f1,.int .i64 z.f2,.int .i64 z.f3,.int .i64 z.f4,.string z.f5,.int .i64 z.f6] (by with_reducible first | exact BK7.out | exact XR.lb BK7.out) ?_) | ((with_reducible refine gate_callee (f := 44) rfl ?_);refine XR.gL 22 Tryd.func44 #[.agg #[.bool z.f0.f0,.int .u64 z.f0.f1,.int .u64 z.f0.f2],.agg #[.bool a1_0,.int .u64 a1_1,.int .u64 a1_2]] ?_;(with_reducible refine (addr_Compare.calls k z.f0.f0 z.f0.f1 z.f0.f2 a1_0 a1_1 a1_2 c _ A1.out).mono ?_);rintro e w6 ⟨rfl,hb⟩;refine ⟨_,rfl,?_⟩;have n0 := Aside0.mk (Kd.R_below (leasefile_Put.far9 HO.out) hb);have n1 := Aside0.mk (blk_below (g := gb3) (o := .cells #[.bool a1_0,.int .u64 a1_1,.int .u64 a1_2,.string a1_3,.int .i64 a1_4,.int .i64 a1_5,.int .i64 a1_6,.string a1_7,.int .i64 a1_8] 26 (0,0)) (by (with_reducible repeat (first | refine blk_far ?_ NB37.out _ | refine blk_drewN ?_ _ | refine blk_drew ?_ | refine blk_alloc ?_ _));exact BK3.out) hb);have n3 := Aside0.mk (below_step (XR.sB HB.out) hb);clear HO BK3 BK7 HB;have HO := n0;have BK3 := n1;have HB := n3;clear n0 n1 n3;clear hb;clear Y3_0 Y3_1 Y3_2 Y3_3 Y3_4 Y3_5 Y3_6 Y3_7 Y3_8 Z3_0 Z3_1 Z3_2 Z3_3 Z3_4 Z3_5 Z3_6 Z3_7 Z3_8;obtain ⟨Y3_0,Y3_1,Y3_2,Y3_3,Y3_4,Y3_5,Y3_6,Y3_7,Y3_8⟩ := XR.c9 BK3.out;obtain ⟨Z3_0,Z3_1,Z3_2,Z3_3,Z3_4,Z3_5,Z3_6,Z3_7,Z3_8⟩ := XR.f9 BK3.out;obtain ⟨ce,hcl2,hM2,hcc2,hfr2⟩ := Kd.R_elem HO.out z26 (i : Int) (of_eq_true p) (of_eq_true q);obtain rfl := k26_openM hM2;have sx0 : w6.cell? ⟨g,i * 9,none⟩ = some _ := hcc2 0 _ rfl;have sf0 : w6.frozen? ⟨g,i * 9,none⟩ = false := hfr2 0;have sx1 : w6.cell? ⟨g,i * 9 + 1,none⟩ = some _ := hcc2 1 _ rfl;have sf1 : w6.frozen? ⟨g,i * 9 + 1,none⟩ = false := hfr2 1;have sx2 : w6.cell? ⟨g,i * 9 + 2,none⟩ = some _ := hcc2 2 _ rfl;have sf2 : w6.frozen? ⟨g,i * 9 + 2,none⟩ = false := hfr2 2;have sx3 : w6.cell? ⟨g,i * 9 + 3,none⟩ = some _ := hcc2 3 _ rfl;have sf3 : w6.frozen? ⟨g,i * 9 + 3,none⟩ = false := hfr2 3;have sx4 : w6.cell? ⟨g,i * 9 + 4,none⟩ = some _ := hcc2 4 _ rfl;have sf4 : w6.frozen? ⟨g,i * 9 + 4,none⟩ = false := hfr2 4;have sx5 : w6.cell? ⟨g,i * 9 + 5,none⟩ = some _ := hcc2 5 _ rfl;have sf5 : w6.frozen? ⟨g,i * 9 + 5,none⟩ = false := hfr2 5;have sx6 : w6.cell? ⟨g,i * 9 + 6,none⟩ = some _ := hcc2 6 _ rfl;have sf6 : w6.frozen? ⟨g,i * 9 + 6,none⟩ = false := hfr2 6;have sx7 : w6.cell? ⟨g,i * 9 + 7,none⟩ = some _ := hcc2 7 _ rfl;have sf7 : w6.frozen? ⟨g,i * 9 + 7,none⟩ = false := hfr2 7;have sx8 : w6.cell? ⟨g,i * 9 + 8,none⟩ = some _ := hcc2 8 _ rfl;have sf8 : w6.frozen? ⟨g,i * 9 + 8,none⟩ = false := hfr2 8;have HC2 := Aside0.mk hcc2;have HL2 := Aside0.mk hcl2;clear hcc2 hcl2 hM2 hfr2) | ((with_reducible refine XL.gate_ld 26 28 rfl ?_);refine XL.ldL 26 _ gb3 [.bool a1_0,.int .u64 a1_1,.int .u64 a1_2,.string a1_3,.int .i64 a1_4,.int .i64 a1_5,.int .i64 a1_6,.string a1_7,.int .i64 a1_8] Tryd.underlying26 (by with_reducible first | exact XL.rng BK3.out | exact XL.rng (XR.lb BK3.out)) ?_) | ((with_reducible refine XL.gate_ld 26 3 rfl ?_);refine XL.ldL 26 _ gb3 _ Tryd.underlying26 (by with_reducible first | exact XL.rng BK3.out | exact XL.rng (XR.lb BK3.out)) ?_) | ((with_reducible refine XL.gate_ld 26 7 rfl ?_);refine XL.ldL 26 _ gb7 _ Tryd.underlying26 (by with_reducible first | exact XL.rng BK7.out | exact XL.rng (XR.lb BK7.out)) ?_) | ((with_reducible refine gate_store (t := 26) (p := 3) rfl ?_);refine XL.stL 26 3 _ gb3 _ _ (by with_reducible first | exact BK3.out | exact XR.lb BK3.out) ?_));go_roundg k1
      case measure => omega
      case rel => exact ⟨i + 1,by first | rfl | rw [hw] | simp [hw],⟨by have := HK.out;omega⟩,H,⟨Kd.R_mono HO.out (fun _ _ => trivial)⟩,BK3,⟨XR.sB HB.out⟩⟩
  ·have H := HA.out;clear HA;rw [List.drop_eq_nil_of_le (by omega)] at H;simp only [leasefile_Put.l0] at H;by_cases lm : (y.length + 1) * 88 ≤ 140737488355328
   ·rw [if_pos lm] at H;obtain rfl := Option.some.inj H;have LM := Aside0.mk lm;clear lm;have q0 : decide ((i : Int) < (y.length : Int)) = false := decide_eq_false (by omega);obtain ⟨Y3_0,Y3_1,Y3_2,Y3_3,Y3_4,Y3_5,Y3_6,Y3_7,Y3_8⟩ := XR.c9 BK3.out;obtain ⟨Z3_0,Z3_1,Z3_2,Z3_3,Z3_4,Z3_5,Z3_6,Z3_7,Z3_8⟩ := XR.f9 BK3.out;go_wp2_with (first | ((with_reducible refine gate_builtin (b := .append) (xs := #[.tmp 40,.tmp 42]) rfl ?_);at_builtin;refine Kd.R_append k26 (w0 := w) w.heap.size rfl (.tmp 40) (.tmp 42) 35 26 (.agg #[.bool false,.int .u64 0,.int .u64 0,.string (⟨#[]⟩ : ByteArray),.int .i64 0,.int .i64 0,.int .i64 0,.string (⟨#[]⟩ : ByteArray),.int .i64 0]) 88 rfl Tryd.underlying35 info26 rfl (by decide) (by omega) (.slice Ao y.length co) y (⟨⟨a1_0,a1_1,a1_2⟩,a1_3,a1_4,a1_5,a1_6,a1_7,a1_8⟩ : S26) [.bool a1_0,.int .u64 a1_1,.int .u64 a1_2,.string a1_3,.int .i64 a1_4,.int .i64 a1_5,.int .i64 a1_6,.string a1_7,.int .i64 a1_8] (fun _ => True) (fun _ => False) rfl rfl ?aP (fun _ hk => hk.elim) ?aF ?aO ?aB ?aS ?aL ?_;(case aP => exact k26_mkM _ _ _ (⟨⟨a1_0,a1_1,a1_2⟩,a1_3,a1_4,a1_5,a1_6,a1_7,a1_8⟩ : S26));(case aB => exact XR.sB HB.out);(case aF => exact fun _ _ => trivial);(case aO => exact XR.lR HO.out);(case aS => exact below_size (XR.sB HB.out));(case aL => exact LM.out);intro v43 w9 ho hb hg hat;clear HO HB BK3 hg hat;have HO := Aside0.mk ho;have HB := Aside0.mk hb;clear ho hb) | ((with_reducible refine XL.gate_ld 26 3 rfl ?_);refine XL.ldL 26 _ gb3 _ Tryd.underlying26 (by with_reducible first | exact XL.rng BK3.out | exact XL.rng (XR.lb BK3.out)) ?_) | ((with_reducible refine gate_store (t := 26) (p := 3) rfl ?_);refine XL.stL 26 3 _ gb3 _ _ (by with_reducible first | exact BK3.out | exact XR.lb BK3.out) ?_));go_ret;exact ⟨_,rfl,HO.out,XR.sB HB.out⟩
   ·rw [if_neg lm] at H;exact absurd H (by simp)
end Go.Proofs.YtikhpegamnnabaaDoor.QA
