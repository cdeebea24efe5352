import Derived.Test.YtioopjondjfchaaQAd1
import Derived.Test.YtioopjondjfchaaQAx0
import Derived.Test.YtioopjondjfchaaXS
import Derived.Test.YtioopjondjfchaaXN
namespace Go.Proofs.Ytioopjondjfchaa.QA
open Go.RowKit Go.Proofs.YtioopjondjfchaaW.PrintWords Go.Proofs.YtioopjondjfchaaW.PrintLast Go.Proofs.YtioopjondjfchaaW.PrintMore
attribute [local go_sem] max2_int min2_int max_two min_two max_three min_three max_four min_four
attribute [local go_sem high] Go.Proofs.Ytioopjondjfchaa.XW.cell_setCell_lit
set_option linter.unusedVariables false
set_option linter.unusedSimpArgs false
set_option maxHeartbeats 8000000 in
set_option maxRecDepth 100000 in
theorem slices_Insert_raw.none_ (P0_ P2_ : Nat → Prop) (A0 : Option Addr) (c0 : Nat) (A2 : Option Addr) (c2 : Nat) (l0 : List (List Value)) (i : Nat) (w0 w : World) (hB : Below w0.heap.size w0 w) (hc0 : l0.length ≤ c0) (ho0 : Kd.R (Kd.raw 20) 33 w w0.heap.size P0_ (.slice A0 l0.length c0) l0) (hi : i ≤ l0.length) :
  Calls Try.prog 28 #[(.slice A0 l0.length c0),.int .i64 i,(.slice A2 0 c2)] w fun e w' => ∃ v0_ : Value,e = .returned (v0_) ∧ Kd.R (Kd.raw 20) 33 w' w0.heap.size (fun k_ => ((P0_ k_ ∨ P2_ k_) ∨ w.heap.size ≤ k_)) v0_ (l0) ∧ Below w0.heap.size w0 w' ∧ Kept w w' (fun k_ => P0_ k_ ∨ P2_ k_) := by
 have hic : i ≤ c0 := by omega
 have HO := Aside0.mk ho0;have HB := Aside0.mk hB;clear ho0 hB;go_enter Try.func28,Try.ntmps28;go_wp2
 all_goals (go_ret;refine ⟨_,rfl,?_,HB.out,Kept.refl _ _⟩;first | exact Kd.R_mono HO.out (fun _ h => .inl (.inl h)) | ((obtain rfl : c0 = i := by omega);exact Kd.R_mono HO.out (fun _ h => .inl (.inl h))))
set_option maxHeartbeats 8000000 in
set_option maxRecDepth 100000 in
theorem slices_Insert_raw.end_ (P0_ P2_ : Nat → Prop) (A0 : Option Addr) (c0 : Nat) (A2 : Addr) (c2 : Nat) (l0 l2 : List (List Value)) (w0 w : World) (hB : Below w0.heap.size w0 w) (hc0 : l0.length ≤ c0) (ho0 : Kd.R (Kd.raw 20) 33 w w0.heap.size P0_ (.slice A0 l0.length c0) l0) (hn0 : A0 = none → l0.length = 0 ∧ c0 = 0) (hm : 0 < l2.length) (hr2 : Kd.C (Kd.raw 20) w (some A2) l2.length l2) (hl : (l0.length + l2.length) * 192 ≤ 140737488355328) :
  Calls Try.prog 28 #[(.slice A0 l0.length c0),.int .i64 l0.length,(.slice (some A2) l2.length c2)] w fun e w' => ∃ v0_ : Value,e = .returned (v0_) ∧ Kd.R (Kd.raw 20) 33 w' w0.heap.size (fun k_ => ((P0_ k_ ∨ P2_ k_) ∨ w.heap.size ≤ k_)) v0_ (l0 ++ l2) ∧ Below w0.heap.size w0 w' ∧ Kept w w' (fun k_ => P0_ k_ ∨ P2_ k_) := by
 have hz1 : ¬ ((l2.length : Int) = 0) := by omega
 have hu28 := Try.underlying22;have HO := Aside0.mk (show Kd.R (Kd.raw 20) 33 w w0.heap.size (fun k_ => (P0_ k_ ∨ P2_ k_) ∨ w.heap.size ≤ k_) (.slice A0 l0.length c0) l0 from Kd.R_mono ho0 (fun _ h => .inl (.inl h)));have HR := Aside0.mk hr2;have HL := Aside0.mk hl;have HB := Aside0.mk hB;have HS := Aside0.mk hB.size;have HO0 := Aside0.mk ho0;clear ho0 hB hr2 hl
 cases A0 with
 | none =>
  obtain ⟨h1,h2⟩ := hn0 rfl;obtain rfl : l0 = [] := List.length_eq_zero_iff.1 h1;subst h2;clear hn0;go_enter Try.func28,Try.ntmps28;go_wp2_with (first | ((with_reducible refine gate_builtin (b := .append) (xs := #[.tmp 23,.tmp 24]) rfl ?_);at_builtin;refine Kd.R_append_rows (Kd.raw 20) (Rr := (Kd.raw 20).K w) (w0 := w0) w0.heap.size rfl (.tmp 23) (.tmp 24) 22 33 (.agg #[(.bool false),(.int .u64 0),(.int .u64 0),(.string ⟨#[]⟩),(.int .i64 0),(.int .i64 0),(.int .i64 0),(.string ⟨#[]⟩),(.bool false),(.int .u64 0),(.int .u64 0),(.bool false),(.int .u64 0),(.int .u64 0),(.bool false),(.int .u64 0),(.int .u64 0),(.bool false),(.slice none 0 0),(.int .i64 0)]) 192 rfl Try.underlying22 info33 rfl (by decide) (by omega) (.slice none 0 0) ([] : List (List Value)) l2 _ _ _ (fun k_ => (P0_ k_ ∨ P2_ k_) ∨ w.heap.size ≤ k_) (fun _ => False) rfl rfl HO.out HR.out (fun x cs h => h) (fun _ h => h.elim) (fun _ h => .inr h) HB.out HS.out HL.out ?_;intro v1 w1 ho hb hg hat;have HO1 := Aside0.mk ho;have HB1 := Aside0.mk hb;have HG1 := Aside0.mk hg;clear ho hb hg hat))
  all_goals (go_ret;exact ⟨v1,rfl,HO1.out,HB1.out,Kept.of_grown HG1.out (Kept.refl _ _) (fun k_ e_ => .inl (.inl (HO0.out.1 k_ e_)))⟩)
 | some a =>
  obtain ⟨ab,ao,asp⟩ := a;clear hn0;go_enter Try.func28,Try.ntmps28;go_wp2_with (first | ((with_reducible refine gate_builtin (b := .append) (xs := #[.tmp 23,.tmp 24]) rfl ?_);at_builtin;refine Kd.R_append_rows (Kd.raw 20) (Rr := (Kd.raw 20).K w) (w0 := w0) w0.heap.size rfl (.tmp 23) (.tmp 24) 22 33 (.agg #[(.bool false),(.int .u64 0),(.int .u64 0),(.string ⟨#[]⟩),(.int .i64 0),(.int .i64 0),(.int .i64 0),(.string ⟨#[]⟩),(.bool false),(.int .u64 0),(.int .u64 0),(.bool false),(.int .u64 0),(.int .u64 0),(.bool false),(.int .u64 0),(.int .u64 0),(.bool false),(.slice none 0 0),(.int .i64 0)]) 192 rfl Try.underlying22 info33 rfl (by decide) (by omega) (.slice (some ⟨ab,ao,asp⟩) l0.length c0) l0 l2 _ _ _ (fun k_ => (P0_ k_ ∨ P2_ k_) ∨ w.heap.size ≤ k_) (fun _ => False) rfl rfl HO.out HR.out (fun x cs h => h) (fun _ h => h.elim) (fun _ h => .inr h) HB.out HS.out HL.out ?_;intro v1 w1 ho hb hg hat;have HO1 := Aside0.mk ho;have HB1 := Aside0.mk hb;have HG1 := Aside0.mk hg;clear ho hb hg hat))
  all_goals (go_ret;exact ⟨v1,rfl,HO1.out,HB1.out,Kept.of_grown HG1.out (Kept.refl _ _) (fun k_ e_ => .inl (.inl (HO0.out.1 k_ e_)))⟩)
set_option maxHeartbeats 8000000 in
set_option maxRecDepth 100000 in
theorem slices_Insert_raw.shift_ (P0_ P2_ : Nat → Prop) (g cap vb cap2 : Nat) (cur cur2 : Array Value) (l0 l2 : List (List Value)) (i : Nat) (w0 w : World) (hB : Below w0.heap.size w0 w) (ho0 : Kd.R (Kd.raw 20) 33 w w0.heap.size P0_ (.slice (some ⟨g,0,none⟩) l0.length cap) l0) (hb : w0.heap.size ≤ g) (hok : P0_ g) (hg : w.heap[g]? = some (.cells cur 33 (0,0)))
  (hn : l0.length ≤ cap) (hc : cap ≤ maxLen) (hs : cur.size = cap * 20) (hr : Reps ((Kd.raw 20).M w w0.heap.size (fun k => P0_ k ∧ some k ≠ (Value.slice (some ⟨g,0,none⟩) l0.length cap).ownBlock)) 20 l0 (cur.toList.take (l0.length * 20)))
  (hgv : w.heap[vb]? = some (.cells cur2 33 (0,0))) (ok2 : Nat → Prop) (hr2 : Reps ((Kd.raw 20).M w w0.heap.size ok2) 20 l2 (cur2.toList.take (l2.length * 20))) (hne : vb ≠ g) (hi : i < l0.length) (hm : 0 < l2.length) (hroom : l0.length + l2.length ≤ cap) :
  Calls Try.prog 28 #[(.slice (some ⟨g,0,none⟩) l0.length cap),.int .i64 i,(.slice (some ⟨vb,0,none⟩) l2.length cap2)] w fun e w' => ∃ v0_ : Value,e = .returned (v0_) ∧ Kd.R (Kd.raw 20) 33 w' w0.heap.size (fun k_ => ((P0_ k_ ∨ P2_ k_) ∨ w.heap.size ≤ k_)) v0_ (l0.take i ++ l2 ++ l0.drop i) ∧ Below w0.heap.size w0 w' ∧ Kept w w' (fun k_ => P0_ k_ ∨ P2_ k_) := by
 have hu28 := Try.underlying22;obtain ⟨i0,hi0,hz0,hz1,hz2⟩ := info_parts info33;have hsz : (Try.prog.info? 33).map (·.size) = some 20 := by rw [hi0];simp [hz1]
 have hz6 : ∀ w,(Go.sizeOf 33).run Try.prog w = .ok 20 w := fun w => by simp [sizeOf,typeInfo,hi0,hz1]
 have hgw : g < w.heap.size := (Array.getElem?_eq_some_iff.1 hg).1;have hc63 : cap ≤ 9223372036854775807 := by simp only [maxLen] at hc;omega
 have hml : l0.length + l2.length ≤ 9223372036854775807 := by omega
 have hz1' : ¬ ((l2.length : Int) = 0) := by omega
 have hz2' : ¬ ((i : Int) = (l0.length : Int)) := by omega
 have hone := XS.reps_one hr;have hone2 := XS.reps_one hr2;have hcl : cur.toList.length = cap * 20 := by rw [Array.length_toList];exact hs
 have hin6 : (cur.toList.take (l0.length * 20)).length = l0.length * 20 := hr.1;have hv6 : (cur2.toList.take (l2.length * 20)).length = l2.length * 20 := hr2.1;have hov : ∀ lb cb,(callFunc 35 #[.slice (some ⟨vb,0,none⟩) l2.length cap2,.slice (some ⟨g,(i + l2.length) * 20,none⟩) lb cb]).run Try.prog w = .ok (.value (.bool false)) w := fun lb cb => by
  rw [run_callFunc_extern Try.func35 (by kernel_rfl) (by kernel_rfl) (by kernel_rfl) (e := Extern.SlicesOverlaps.overlaps #[22,22] #[4]) (by kernel_rfl),
   Lib.run_overlaps_apart w 22 4 33 hu28 20 hz6 ⟨vb,0,none⟩ ⟨g,(i + l2.length) * 20,none⟩ l2.length cap2 lb cb hne 33 33 cur2.size cur.size (by simp [World.shape?,hgv]) (by simp [World.shape?,hg]) (by omega) (by simp [World.frozen?,hgv]) (by simp [World.frozen?,hgv])]
  rfl
 obtain ⟨tail,htail⟩ : ∃ tail,tail = (cur.toList.take (l0.length * 20)).drop (i * 20) := ⟨_,rfl⟩;obtain ⟨vs,hvs⟩ : ∃ vs,vs = cur2.toList.take (l2.length * 20) := ⟨_,rfl⟩;have htl : tail.length = (l0.length - i) * 20 := by rw [htail,List.length_drop,hin6,Nat.sub_mul]
 have hvl : vs.length = l2.length * 20 := by rw [hvs];exact hv6
 have hgd : w.drew.heap[g]? = some (.cells cur 33 (0,0)) := hg;have ht1 : ∀ v ∈ tail,v.oneCell' = true := fun v hv => hone v (by rw [htail] at hv;exact List.mem_of_mem_drop hv)
 have hv1 : ∀ v ∈ vs,v.oneCell' = true := fun v hv => hone2 v (by rw [hvs] at hv;exact hv)
 obtain ⟨W1,hW1⟩ : ∃ W1,W1 = w.drew.setCells g ((i + l2.length) * 20) tail := ⟨_,rfl⟩;have hW1r := hW1.trans (XS.setCells_row Try.prog w.drew g ((i + l2.length) * 20) tail cur 33 hgd (by omega) ht1);obtain ⟨c1,hc1⟩ : ∃ c1 : Array Value,c1 = (cur.toList.take ((i + l2.length) * 20) ++ tail ++ cur.toList.drop ((i + l2.length) * 20 + tail.length)).toArray := ⟨_,rfl⟩;rw [← hc1] at hW1r;have hc1s : c1.size = cap * 20 := by rw [hc1,List.size_toArray,List.length_append,List.length_append,List.length_take,List.length_drop,hcl];omega
 have hc1l : c1.toList.length = cap * 20 := by rw [Array.length_toList];exact hc1s
 have hg1 : W1.heap[g]? = some (.cells c1 33 (0,0)) := by rw [hW1r];exact setRow_heap w.drew g cur c1 33 (0,0) hgd
 obtain ⟨W2,hW2⟩ : ∃ W2,W2 = W1.setCells g (i * 20) vs := ⟨_,rfl⟩;have hW2r := hW2.trans (XS.setCells_row Try.prog W1 g (i * 20) vs c1 33 hg1 (by omega) hv1);obtain ⟨c2,hc2⟩ : ∃ c2 : Array Value,c2 = (c1.toList.take (i * 20) ++ vs ++ c1.toList.drop (i * 20 + vs.length)).toArray := ⟨_,rfl⟩;rw [← hc2,hW1r,setRow_setRow] at hW2r;have hc2s : c2.size = cap * 20 := by rw [hc2,List.size_toArray,List.length_append,List.length_append,List.length_take,List.length_drop,hc1l];omega
 have htk : c2.toList.take ((l0.length + l2.length) * 20) = (cur.toList.take (l0.length * 20)).take (i * 20) ++ vs ++ tail := by
  have := XS.put_front cur.toList vs tail (i * 20) (l2.length * 20) ((l0.length - i) * 20) hvl htl (by omega);rw [← Nat.add_mul,← Nat.add_mul,show i + l2.length + (l0.length - i) = l0.length + l2.length by omega] at this;rw [hc2,hc1,htl,hvl,← Nat.add_mul,← Nat.add_mul,show i + l2.length + (l0.length - i) = l0.length + l2.length by omega,this,List.take_take,Nat.min_eq_left (by omega)]
 have hg2 : W2.heap[g]? = some (.cells c2 33 (0,0)) := by rw [hW2r];exact setRow_heap w.drew g cur c2 33 (0,0) hgd
 have hoth : ∀ k,k ≠ g → W2.heap[k]? = w.heap[k]? := fun k hk => by rw [hW2r];exact setRow_other w.drew g k c2 hk
 have hsize : W2.heap.size = w.heap.size := by rw [hW2r];exact (by simp [World.setRow] : (w.drew.setRow g c2).heap.size = w.drew.heap.size)
 have hrAll : Reps ((Kd.raw 20).M w w0.heap.size (fun k => P0_ k ∧ some k ≠ (Value.slice (some ⟨g,0,none⟩) l0.length cap).ownBlock)) 20 (l0.take i ++ l2 ++ l0.drop i) ((cur.toList.take (l0.length * 20)).take (i * 20) ++ vs ++ tail) := by
  rw [hvs,htail];exact XS.reps_append (XS.reps_append (XS.reps_take hr i (by omega)) (hr2.imp_ (fun p c h => h))) (XS.reps_drop hr i)
 have HR2 := Aside0.mk (show Kd.R (Kd.raw 20) 33 W2 w0.heap.size P0_ (.slice (some ⟨g,0,none⟩) (l0.length + l2.length) cap) (l0.take i ++ l2 ++ l0.drop i) from
  XS.R_rewrite ho0 hg2 hc2s (by omega) hc (fun k _ hk => hoth k hk) htk hrAll (by rw [List.length_append,List.length_append,List.length_take,List.length_drop];omega))
 have HB2 := Aside0.mk (show Below w0.heap.size w0 W2 from hB.trans ⟨by rw [hW2r];rfl,by rw [hW2r];rfl,by rw [hW2r];rfl,by omega,fun k hk => hoth k (by omega)⟩);have HK2 := Aside0.mk (show Kept w W2 (fun k_ => P0_ k_ ∨ P2_ k_) from ⟨by omega,fun k _ hk => hoth k (fun e_ => hk (.inl (e_ ▸ hok)))⟩);have hcurA : ∀ t u,tail[t]? = some u → cur[i * 20 + t]? = some u := fun t u hu => by
  rw [htail,List.getElem?_drop,List.getElem?_take] at hu
  split at hu
  ·rw [← Array.getElem?_toList];exact hu
  ·cases hu
 have hcurV : ∀ t u,vs[t]? = some u → cur2[t]? = some u := fun t u hu => by
  rw [hvs,List.getElem?_take] at hu
  split at hu
  ·rw [← Array.getElem?_toList];exact hu
  ·cases hu
 have hgv1 : W1.heap[vb]? = some (.cells cur2 33 (0,0)) := by rw [hW1r,setRow_other w.drew g vb c1 hne];exact hgv
 have hcp1 : ∀ ty dc sc,(Builtin.copy_ #[22,22] ty #[.slice (some ⟨g,(i + l2.length) * 20,none⟩) (l0.length + l2.length - (i + l2.length)) dc,.slice (some ⟨g,i * 20,none⟩) (l0.length + l2.length - i) sc]).run Try.prog w.drew = .ok (goInt (Nat.min (l0.length + l2.length - i) (l0.length + l2.length - (i + l2.length)))) W1 := fun ty dc sc => by
  rw [hW1];refine XS.run_copy_wide w.drew 22 22 ty 33 20 g _ _ dc ⟨g,i * 20,none⟩ _ sc tail hu28 hsz ?_ (fun t u hu => ?_) (fun t ht => ?_) (fun t ht => ?_) ht1
  ·rw [htl]
   congr 1
   simp only [Nat.min_def]
   split <;> omega
  ·rw [Addr.add_lit]
   simpa [World.cell?,hgd] using hcurA t u hu
  ·have : (i + l2.length) * 20 + t < cur.size := by omega
   simp [World.cell?,hgd,this]
  ·simp [World.frozen?,hgd]
 have hcp2 : ∀ ty dc,(Builtin.copy_ #[22,22] ty #[.slice (some ⟨g,i * 20,none⟩) (l0.length + l2.length - i) dc,.slice (some ⟨vb,0,none⟩) l2.length cap2]).run Try.prog W1 = .ok (goInt (Nat.min l2.length (l0.length + l2.length - i))) W2 := fun ty dc => by
  rw [hW2];refine XS.run_copy_wide W1 22 22 ty 33 20 g _ _ dc ⟨vb,0,none⟩ _ cap2 vs hu28 hsz ?_ (fun t u hu => ?_) (fun t ht => ?_) (fun t ht => ?_) hv1
  ·rw [hvl]
   congr 1
   simp only [Nat.min_def]
   split <;> omega
  ·rw [Addr.add_lit]
   simpa [World.cell?,hgv1] using hcurV t u hu
  ·have : i * 20 + t < c1.size := by omega
   simp [World.cell?,hg1,this]
  ·simp [World.frozen?,hg1]
 have hw1 : IntKind.i64.wrap ((i : Int) + (l2.length : Int)) = (i : Int) + (l2.length : Int) := by rw [IntKind.wrap_i64];omega
 have hb1 : (0 : Int) ≤ (i : Int) + (l2.length : Int) := by omega
 have hin : i ≤ l0.length := by omega
 have htn : ((i : Int) + (l2.length : Int)).toNat = i + l2.length := by omega
 have hb2 : ¬ (cap = i + l2.length) := by omega
 have hb3 : (i : Int) ≤ (l0.length : Int) + (l2.length : Int) := by omega
 have hb4 : ¬ (cap = i) := by omega
 have hHov : Hid _ := hov;have hHcp1 : Hid _ := hcp1;have hHcp2 : Hid _ := hcp2;clear hov hcp1 hcp2 hcurA hcurV hgv1 hg2 hoth hsize hrAll htk hc2 hc2s hW2 hW2r hc1 hc1s hc1l hg1 hW1 hW1r hgd ht1 hv1 hvl htl htail hvs hone hone2 hcl hin6 hv6 hr hr2 hg hgv hs hz6 hsz hi0 hz0 hz1 hz2 ho0 hB hb hok;go_enter Try.func28,Try.ntmps28;go_wp2_with (simp only [hHov.out]);have hcp1 := hHcp1.out;go_region_law (refine step_copy_runI rfl _ _ 22 22 rfl _ _ ?e1 ?e2 (hcp1 3 (cap - (i + l2.length)) (cap - i)) ?_;(case e1 => simp [Act.eval,Act.put]);(case e2 => simp [Act.eval,Act.put]));clear hcp1;have hcp2 := hHcp2.out;go_wp2_with (at_builtin;refine wpList_copy_runI W1 rfl (.tmp 80) (.tmp 81) 22 22 rfl (.slice (some ⟨g,i * 20,none⟩) (l0.length + l2.length - i) (cap - i)) (.slice (some ⟨vb,0,none⟩) l2.length cap2) rfl rfl (hcp2 3 (cap - i)) ?_);go_ret;exact ⟨.slice (some ⟨g,0,none⟩) (l0.length + l2.length) cap,rfl,Kd.R_mono HR2.out (fun _ h => .inl (.inl h)),HB2.out,HK2.out⟩
set_option maxHeartbeats 8000000 in
set_option maxRecDepth 100000 in
theorem slices_Insert_raw.grow_ (P0_ P2_ : Nat → Prop) (g cap vb cap2 : Nat) (cur cur2 : Array Value) (l0 l2 : List (List Value)) (i : Nat) (w0 w : World) (hB : Below w0.heap.size w0 w) (hok : P0_ g) (hg : w.heap[g]? = some (.cells cur 33 (0,0)))
  (hn : l0.length ≤ cap) (hc : cap ≤ maxLen) (hs : cur.size = cap * 20) (ok0 : Nat → Prop) (hr : Reps ((Kd.raw 20).M w w0.heap.size ok0) 20 l0 (cur.toList.take (l0.length * 20)))
  (hgv : w.heap[vb]? = some (.cells cur2 33 (0,0))) (ok2 : Nat → Prop) (hr2 : Reps ((Kd.raw 20).M w w0.heap.size ok2) 20 l2 (cur2.toList.take (l2.length * 20))) (hi : i < l0.length) (hm : 0 < l2.length) (hroom : cap < l0.length + l2.length) (hbig : (l0.length + l2.length) * 192 ≤ 140737488355328) :
  Calls Try.prog 28 #[(.slice (some ⟨g,0,none⟩) l0.length cap),.int .i64 i,(.slice (some ⟨vb,0,none⟩) l2.length cap2)] w fun e w' => ∃ v0_ : Value,e = .returned (v0_) ∧ Kd.R (Kd.raw 20) 33 w' w0.heap.size (fun k_ => ((P0_ k_ ∨ P2_ k_) ∨ w.heap.size ≤ k_)) v0_ (l0.take i ++ l2 ++ l0.drop i) ∧ Below w0.heap.size w0 w' ∧ Kept w w' (fun k_ => P0_ k_ ∨ P2_ k_) := by
 have hu28 := Try.underlying22;have hu3 := Try.underlying3;obtain ⟨i0,hi0,hz0,hz1,hz2⟩ := info_parts info33;have hsz : (Try.prog.info? 33).map (·.size) = some 20 := by rw [hi0];simp [hz1]
 have hgw : g < w.heap.size := (Array.getElem?_eq_some_iff.1 hg).1;have hvw : vb < w.heap.size := (Array.getElem?_eq_some_iff.1 hgv).1;have hc63 : cap ≤ 9223372036854775807 := by simp only [maxLen] at hc;omega
 have hml : l0.length + l2.length ≤ 9223372036854775807 := by omega
 have hz1' : ¬ ((l2.length : Int) = 0) := by omega
 have hz2' : ¬ ((i : Int) = (l0.length : Int)) := by omega
 have hone := XS.reps_one hr;have hone2 := XS.reps_one hr2;have hcl : cur.toList.length = cap * 20 := by rw [Array.length_toList];exact hs
 have hin6 : (cur.toList.take (l0.length * 20)).length = l0.length * 20 := hr.1;have hv6 : (cur2.toList.take (l2.length * 20)).length = l2.length * 20 := hr2.1;obtain ⟨tail,htail⟩ : ∃ tail,tail = (cur.toList.take (l0.length * 20)).drop (i * 20) := ⟨_,rfl⟩;obtain ⟨vs,hvs⟩ : ∃ vs,vs = cur2.toList.take (l2.length * 20) := ⟨_,rfl⟩;obtain ⟨olds,holds⟩ : ∃ olds,olds = (cur.toList.take (l0.length * 20)).take (i * 20) := ⟨_,rfl⟩;have htl : tail.length = (l0.length - i) * 20 := by rw [htail,List.length_drop,hin6,Nat.sub_mul]
 have hvl : vs.length = l2.length * 20 := by rw [hvs];exact hv6
 have hol : olds.length = i * 20 := by rw [holds,List.length_take,hin6];omega
 have ht1 : ∀ v ∈ tail,v.oneCell' = true := fun v hv => hone v (by rw [htail] at hv;exact List.mem_of_mem_drop hv)
 have hv1 : ∀ v ∈ vs,v.oneCell' = true := fun v hv => hone2 v (by rw [hvs] at hv;exact hv)
 have hcurA : ∀ t u,tail[t]? = some u → cur[i * 20 + t]? = some u := fun t u hu => by
  rw [htail,List.getElem?_drop,List.getElem?_take] at hu
  split at hu
  ·rw [← Array.getElem?_toList];exact hu
  ·cases hu
 have hcurO : ∀ t u,olds[t]? = some u → cur[t]? = some u := fun t u hu => by
  rw [holds,List.getElem?_take] at hu
  split at hu
  ·rw [List.getElem?_take] at hu
   split at hu
   ·rw [← Array.getElem?_toList];exact hu
   ·cases hu
  ·cases hu
 have hcurV : ∀ t u,vs[t]? = some u → cur2[t]? = some u := fun t u hu => by
  rw [hvs,List.getElem?_take] at hu
  split at hu
  ·rw [← Array.getElem?_toList];exact hu
  ·cases hu
 have hold : (Builtin.firstCells i0.size i (.slice (some ⟨g,0,none⟩) i cap)).run Try.prog w.drew = .ok olds.toArray w.drew := by
  rw [hz1];refine run_firstCells_some w.drew 20 i ⟨g,0,none⟩ i cap olds hol (fun t u hu => ?_);rw [Addr.add_lit]
  show w.cell? _ = some u
  simpa [World.cell?,hg] using hcurO t u hu
 have hik : i + (l0.length + l2.length - i) = l0.length + l2.length := by omega
 obtain ⟨G,hG⟩ : ∃ G,G = grownCap w (l0.length + l2.length) cap 33 := ⟨_,rfl⟩;obtain ⟨ROW,hROW⟩ : ∃ ROW : Array Value,ROW = olds.toArray ++ Builtin.zeroCells (Value.cells (.agg #[(.bool false),(.int .u64 0),(.int .u64 0),(.string ⟨#[]⟩),(.int .i64 0),(.int .i64 0),(.int .i64 0),(.string ⟨#[]⟩),(.bool false),(.int .u64 0),(.int .u64 0),(.bool false),(.int .u64 0),(.int .u64 0),(.bool false),(.int .u64 0),(.int .u64 0),(.bool false),(.slice none 0 0),(.int .i64 0)])) (l0.length + l2.length - i) ++ Builtin.zeroCells (Value.cells (.agg #[(.bool false),(.int .u64 0),(.int .u64 0),(.string ⟨#[]⟩),(.int .i64 0),(.int .i64 0),(.int .i64 0),(.string ⟨#[]⟩),(.bool false),(.int .u64 0),(.int .u64 0),(.bool false),(.int .u64 0),(.int .u64 0),(.bool false),(.int .u64 0),(.int .u64 0),(.bool false),(.slice none 0 0),(.int .i64 0)])) (G - (l0.length + l2.length)) := ⟨_,rfl⟩;obtain ⟨W1,hW1⟩ : ∃ W1,W1 = w.drew.alloc (.cells ROW 33) := ⟨_,rfl⟩;obtain ⟨N,hN⟩ : ∃ N,N = w.heap.size := ⟨_,rfl⟩;have hkk : (l0.length : Int) + (l2.length : Int) - (i : Int) = ((l0.length + l2.length - i : Nat) : Int) := by omega
 have hrz : ∀ ty,(Builtin.append_ #[22,3] ty #[.slice (some ⟨g,0,none⟩) i cap,.int .i64 ((l0.length : Int) + (l2.length : Int) - (i : Int))]).run Try.prog w = .ok (.slice (some ⟨N,0,none⟩) (l0.length + l2.length) G) W1 := fun ty => by
  have h := Lib.run_append_grow_zeros w 22 3 ty 33 i0 _ .i64 .i64 hu28 hu3 hi0 hz0 (some ⟨g,0,none⟩) i cap olds hold (l0.length + l2.length - i) (by omega) (by omega) (by omega) (by omega) (by rw [hz2];omega) (by rw [hz2,hik];exact growslice_fits hroom hbig);rw [hik] at h;rw [hkk,hW1,hROW,hG,hN];exact h
 have hGn : l0.length + l2.length ≤ G := by rw [hG];exact grownCap_ge w _ _ _
 have hGm : G ≤ maxLen := by rw [hG];exact grownCap_le_maxLen w _ _ _ (by simp only [maxLen];omega)
 have hG63 : G ≤ 9223372036854775807 := by simp only [maxLen] at hGm;omega
 have hRs : ROW.size = G * 20 := by
  rw [hROW,Array.size_append,Array.size_append,List.size_toArray,hol,size_zeroCells,size_zeroCells]
  show i * 20 + (l0.length + l2.length - i) * 20 + (G - (l0.length + l2.length)) * 20 = G * 20
  omega
 have hRl : ROW.toList.length = G * 20 := by rw [Array.length_toList];exact hRs
 have hRt : ROW.toList.take (i * 20) = olds := by
  rw [hROW];simp only [Array.toList_append,List.toList_toArray,List.append_assoc];exact List.take_left' hol
 have hgN : W1.heap[N]? = some (.cells ROW 33 (0,0)) := by rw [hW1,hN];exact heap_alloc_new w.drew _
 have hold1 : ∀ k,k < N → W1.heap[k]? = w.heap[k]? := fun k hk => by rw [hW1];exact heap_alloc_old w.drew _ (by rw [hN] at hk;exact hk)
 have hs1 : W1.heap.size = N + 1 := by rw [hW1,hN];exact (by simp : (w.drew.alloc (.cells ROW 33)).heap.size = w.drew.heap.size + 1)
 obtain ⟨WA,hWA⟩ : ∃ WA,WA = W1.setCells N (i * 20) vs := ⟨_,rfl⟩;have hWAr := hWA.trans (XS.setCells_row Try.prog W1 N (i * 20) vs ROW 33 hgN (by omega) hv1);obtain ⟨c1,hc1⟩ : ∃ c1 : Array Value,c1 = (ROW.toList.take (i * 20) ++ vs ++ ROW.toList.drop (i * 20 + vs.length)).toArray := ⟨_,rfl⟩;rw [← hc1] at hWAr;have hc1s : c1.size = G * 20 := by rw [hc1,List.size_toArray,List.length_append,List.length_append,List.length_take,List.length_drop,hRl];omega
 have hc1l : c1.toList.length = G * 20 := by rw [Array.length_toList];exact hc1s
 have hgA : WA.drew.heap[N]? = some (.cells c1 33 (0,0)) := by rw [hWAr];exact setRow_heap W1 N ROW c1 33 (0,0) hgN
 obtain ⟨WB,hWB⟩ : ∃ WB,WB = WA.drew.setCells N ((i + l2.length) * 20) tail := ⟨_,rfl⟩;have hWBr := hWB.trans (XS.setCells_row Try.prog WA.drew N ((i + l2.length) * 20) tail c1 33 hgA (by omega) ht1);obtain ⟨c2,hc2⟩ : ∃ c2 : Array Value,c2 = (c1.toList.take ((i + l2.length) * 20) ++ tail ++ c1.toList.drop ((i + l2.length) * 20 + tail.length)).toArray := ⟨_,rfl⟩;rw [← hc2] at hWBr;have hc2s : c2.size = G * 20 := by rw [hc2,List.size_toArray,List.length_append,List.length_append,List.length_take,List.length_drop,hc1l];omega
 have htk : c2.toList.take ((l0.length + l2.length) * 20) = olds ++ vs ++ tail := by
  have := XS.put_back ROW.toList vs tail (i * 20) (l2.length * 20) ((l0.length - i) * 20) hvl htl (by omega);rw [← Nat.add_mul,← Nat.add_mul,show i + l2.length + (l0.length - i) = l0.length + l2.length by omega,hRt] at this;rw [hc2,hc1,htl,hvl,hRt,← Nat.add_mul,← Nat.add_mul,show i + l2.length + (l0.length - i) = l0.length + l2.length by omega,this]
 have hgB : WB.heap[N]? = some (.cells c2 33 (0,0)) := by rw [hWBr];exact setRow_heap WA.drew N c1 c2 33 (0,0) hgA
 have holdA : ∀ k,k < N → WA.drew.heap[k]? = w.heap[k]? := fun k hk => by
  rw [hWAr];exact (setRow_other W1 N k c1 (by omega)).trans (hold1 k hk)
 have holdB : ∀ k,k < N → WB.heap[k]? = w.heap[k]? := fun k hk => by rw [hWBr,setRow_other WA.drew N k c2 (by omega)];exact holdA k hk
 have hsB : WB.heap.size = N + 1 := by
  rw [hWBr,hWAr];exact (by simp [World.setRow] : (((W1.setRow N c1).drew).setRow N c2).heap.size = W1.heap.size).trans hs1
 have hrAll : Reps ((Kd.raw 20).M w w0.heap.size (fun k => ((P0_ k ∨ P2_ k) ∨ w.heap.size ≤ k) ∧ some k ≠ (Value.slice none 0 0).ownBlock)) 20 (l0.take i ++ l2 ++ l0.drop i) (olds ++ vs ++ tail) := by
  rw [hvs,htail,holds];have cv : ∀ {ok : Nat → Prop} (p : List Value) (c : List Value),(Kd.raw 20).M w w0.heap.size ok p c → (Kd.raw 20).M w w0.heap.size (fun k => ((P0_ k ∨ P2_ k) ∨ w.heap.size ≤ k) ∧ some k ≠ (Value.slice none 0 0).ownBlock) p c := fun p c h => h
  exact XS.reps_append (XS.reps_append ((XS.reps_take hr i (by omega)).imp_ cv) (hr2.imp_ cv)) ((XS.reps_drop hr i).imp_ cv)
 have hw0 : w0.heap.size ≤ w.heap.size := hB.size;have HR2 := Aside0.mk (show Kd.R (Kd.raw 20) 33 WB w0.heap.size (fun k => (P0_ k ∨ P2_ k) ∨ w.heap.size ≤ k) (.slice (some ⟨N,0,none⟩) (l0.length + l2.length) G) (l0.take i ++ l2 ++ l0.drop i) from
  XS.R_anew (v := .slice none 0 0) (W := w) (by omega) (by omega) (.inr (by omega)) hgB hc2s hGn hGm (fun k hk _ => holdB k (by omega)) htk hrAll (by rw [List.length_append,List.length_append,List.length_take,List.length_drop];omega))
 have hos : WB.os = w.os := by rw [hWBr,hWAr,hW1];rfl
 have hta : WB.tape = w.tape := by rw [hWBr,hWAr,hW1];rfl
 have hou : WB.output = w.output := by rw [hWBr,hWAr,hW1];rfl
 have HB2 := Aside0.mk (show Below w0.heap.size w0 WB from hB.trans ⟨hos,hta,hou,by omega,fun k hk => holdB k (by omega)⟩);have HK2 := Aside0.mk (show Kept w WB (fun k_ => P0_ k_ ∨ P2_ k_) from ⟨by omega,fun k hk _ => holdB k (by omega)⟩);have hcpA : ∀ ty dc,(Builtin.copy_ #[22,22] ty #[.slice (some ⟨N,i * 20,none⟩) (l0.length + l2.length - i) dc,.slice (some ⟨vb,0,none⟩) l2.length cap2]).run Try.prog W1 = .ok (goInt (Nat.min l2.length (l0.length + l2.length - i))) WA := fun ty dc => by
  rw [hWA];refine XS.run_copy_wide W1 22 22 ty 33 20 N _ _ dc ⟨vb,0,none⟩ _ cap2 vs hu28 hsz ?_ (fun t u hu => ?_) (fun t ht => ?_) (fun t ht => ?_) hv1
  ·rw [hvl]
   congr 1
   simp only [Nat.min_def]
   split <;> omega
  ·rw [Addr.add_lit]
   simpa [World.cell?,(hold1 vb (by omega)).trans hgv] using hcurV t u hu
  ·have : i * 20 + t < ROW.size := by omega
   simp [World.cell?,hgN,this]
  ·simp [World.frozen?,hgN]
 have hcpB : ∀ ty dc sc,(Builtin.copy_ #[22,22] ty #[.slice (some ⟨N,(i + l2.length) * 20,none⟩) (l0.length + l2.length - (i + l2.length)) dc,.slice (some ⟨g,i * 20,none⟩) (l0.length - i) sc]).run Try.prog WA.drew = .ok (goInt (Nat.min (l0.length - i) (l0.length + l2.length - (i + l2.length)))) WB := fun ty dc sc => by
  rw [hWB];refine XS.run_copy_wide WA.drew 22 22 ty 33 20 N _ _ dc ⟨g,i * 20,none⟩ _ sc tail hu28 hsz ?_ (fun t u hu => ?_) (fun t ht => ?_) (fun t ht => ?_) ht1
  ·rw [htl]
   congr 1
   simp only [Nat.min_def]
   split <;> omega
  ·rw [Addr.add_lit]
   simpa [World.cell?,(holdA g (by omega)).trans hg] using hcurA t u hu
  ·have : (i + l2.length) * 20 + t < c1.size := by omega
   simp [World.cell?,hgA,this]
  ·simp [World.frozen?,hgA]
 have hz3 : (cap : Int) < (l0.length : Int) + (l2.length : Int) := by omega
 have hw1 : IntKind.i64.wrap ((i : Int) + (l2.length : Int)) = (i : Int) + (l2.length : Int) := by rw [IntKind.wrap_i64];omega
 have hb1 : (0 : Int) ≤ (i : Int) + (l2.length : Int) := by omega
 have hin : i ≤ l0.length := by omega
 have htn : ((i : Int) + (l2.length : Int)).toNat = i + l2.length := by omega
 have hb3 : (i : Int) ≤ (l0.length : Int) := by omega
 have hGi : ¬ (G = i) := by omega
 have hGim : ¬ (G = i + l2.length) := by omega
 have hci : ¬ (cap = i) := by omega
 have hHrz : Hid _ := hrz;have hHcpA : Hid _ := hcpA;have hHcpB : Hid _ := hcpB;clear hrz hcpA hcpB hos hta hou hw0 hrAll hsB holdB holdA hgB htk hc2s hc2 hWBr hWB hgA hc1l hc1s hc1 hWAr hWA hs1 hold1 hgN hRt hRl hRs hGm hW1 hROW hG hkk hik hold hcurV hcurO hcurA hv1 ht1 hol hvl htl holds hvs htail hv6 hin6 hcl hone2 hone hsz hi0 hz0 hz1 hz2 hr hr2 hg hgv hs hB hok hN;have hrz := hHrz.out;have hcpA := hHcpA.out;have hcpB := hHcpB.out;go_enter Try.func28,Try.ntmps28;go_wp2_with (first
  | (at_builtin;refine Lib.wpList_append_run _ rfl (.tmp 34) (.tmp 39) 22 3 rfl (.slice (some ⟨g,0,none⟩) i cap) (.int .i64 ((l0.length : Int) + (l2.length : Int) - (i : Int))) rfl rfl _ _ (hrz _) ?_)
  | (at_builtin;refine wpList_copy_runI W1 rfl (.tmp 43) (.tmp 44) 22 22 rfl (.slice (some ⟨N,i * 20,none⟩) (l0.length + l2.length - i) (G - i)) (.slice (some ⟨vb,0,none⟩) l2.length cap2) rfl rfl (hcpA 3 (G - i)) ?_))
 go_region_law (refine step_copy_runI rfl _ _ 22 22 rfl _ _ ?e1 ?e2 (hcpB 3 (G - (i + l2.length)) (cap - i)) ?_;(case e1 => simp [Act.eval,Act.put]);(case e2 => simp [Act.eval,Act.put]));go_wp2;go_ret;exact ⟨.slice (some ⟨N,0,none⟩) (l0.length + l2.length) G,rfl,HR2.out,HB2.out,HK2.out⟩
set_option maxHeartbeats 8000000 in
set_option maxRecDepth 100000 in
theorem slices_Insert_raw.calls (P0_ : Nat → Prop) (u9000_ : Value) (l0 : List (List Value)) (a1 : Int) (P2_ : Nat → Prop) (u9001_ : Value) (l2 : List (List Value)) (r : List (List Value)) (w0 w : World) (hB : Below w0.heap.size w0 w) (ho0 : Kd.R (Kd.raw 20) 33 w w0.heap.size P0_ u9000_ l0) (hp0_2 : ∀ k_,P0_ k_ → ¬ P2_ k_) (ho2 : Kd.R (Kd.raw 20) 33 w w0.heap.size P2_ u9001_ l2) (hp2_0 : ∀ k_,P2_ k_ → ¬ P0_ k_) (h : slices_Insert_raw.f l0 a1 l2 = some r) :
  Calls Try.prog 28 #[u9000_,.int .i64 a1,u9001_] w fun e w' => ∃ v0_ : Value,e = .returned (v0_) ∧ Kd.R (Kd.raw 20) 33 w' w0.heap.size (fun k_ => ((P0_ k_ ∨ P2_ k_) ∨ w.heap.size ≤ k_)) v0_ r ∧ Below w0.heap.size w0 w' ∧ Kept w w' (fun k_ => P0_ k_ ∨ P2_ k_) := by
 unfold slices_Insert_raw.f at h
 by_cases h0 : 0 ≤ a1
 case neg => rw [if_neg h0] at h;cases h
 rw [if_pos h0] at h;by_cases h1 : a1 ≤ (l0.length : Int)
 case neg => rw [if_neg h1] at h;cases h
 rw [if_pos h1] at h;by_cases hl : (l0.length + l2.length) * 192 ≤ 140737488355328
 case neg => rw [if_neg hl] at h;cases h
 rw [if_pos hl] at h;obtain rfl := Option.some.inj h;clear h;obtain ⟨i,rfl⟩ := Int.eq_ofNat_of_zero_le h0;have hi : i ≤ l0.length := by omega
 simp only [Int.toNat_natCast]
 rcases Nat.eq_zero_or_pos l2.length with hm | hm
 ·obtain ⟨A0,c0,rfl,hc0,_⟩ := XS.R_shape ho0;obtain ⟨A2,c2,rfl,_,_⟩ := XS.R_shape ho2;rw [hm,List.length_eq_zero_iff.1 hm,List.append_nil,List.take_append_drop];exact slices_Insert_raw.none_ P0_ P2_ A0 c0 A2 c2 l0 i w0 w hB hc0 ho0 hi
 ·have hrd2 := Kd.R_reads ho2;obtain ⟨vb,cap2,cur2,rfl,_,hok2,_,hgv,_,_,_,hr2⟩ := XS.R_block ho2 hm;by_cases he : i = l0.length
  ·subst he;obtain ⟨A0,c0,rfl,hc0,hn0⟩ := XS.R_shape ho0;obtain ⟨A',c',e',_,hC⟩ := hrd2
   injection e' with e1 _ _
   subst e1;rw [List.take_length,List.drop_length,List.append_nil];exact slices_Insert_raw.end_ P0_ P2_ A0 c0 _ cap2 l0 l2 w0 w hB hc0 ho0 hn0 hm hC hl
  ·obtain ⟨g,cap,cur,rfl,hb,hok,_,hg,hn,hc,hs,hr⟩ := XS.R_block ho0 (by omega);have hne : vb ≠ g := fun e_ => hp0_2 g hok (e_ ▸ hok2)
   by_cases hroom : l0.length + l2.length ≤ cap
   ·exact slices_Insert_raw.shift_ P0_ P2_ g cap vb cap2 cur cur2 l0 l2 i w0 w hB ho0 hb hok hg hn hc hs hr hgv _ hr2 hne (by omega) hm hroom
   ·exact slices_Insert_raw.grow_ P0_ P2_ g cap vb cap2 cur cur2 l0 l2 i w0 w hB hok hg hn hc hs _ hr hgv _ hr2 (by omega) hm (by omega) hl
set_option maxHeartbeats 8000000 in
set_option maxRecDepth 100000 in
theorem slices_Insert.calls (P0_ : Nat → Prop) (u9000_ : Value) (l0 : List (S33)) (a1 : Int) (P2_ : Nat → Prop) (u9001_ : Value) (l2 : List (S33)) (r : List (S33)) (w0 w : World) (hB : Below w0.heap.size w0 w) (ho0 : Kd.N k33 33 w w0.heap.size P0_ u9000_ l0) (hp0_2 : ∀ k_,P0_ k_ → ¬ some k_ = (u9001_ : Value).ownBlock) (ho2 : Kd.N k33 33 w w0.heap.size P2_ u9001_ l2) (hp2_0 : ∀ k_,P2_ k_ → ¬ some k_ = (u9000_ : Value).ownBlock) (h : slices_Insert.f l0 a1 l2 = some r) :
  Calls Try.prog 28 #[u9000_,.int .i64 a1,u9001_] w fun e w' => ∃ v0_ : Value,e = .returned (v0_) ∧ (Kd.N k33 33 w' w0.heap.size (fun k_ => ((P0_ k_ ∨ P2_ k_) ∨ w.heap.size ≤ k_)) v0_ r ∧ ∀ k_,(v0_ : Value).ownBlock = some k_ → (some k_ = (u9000_ : Value).ownBlock ∨ some k_ = (u9001_ : Value).ownBlock) ∨ w.heap.size ≤ k_) ∧ Below w0.heap.size w0 w' ∧ Kept w w' (fun k_ => some k_ = (u9000_ : Value).ownBlock ∨ some k_ = (u9001_ : Value).ownBlock) := by
 obtain ⟨h0,rows,hlr,hR,hf⟩ := ho0;obtain ⟨h02,rows2,hlr2,hR2,hf2⟩ := ho2;have hA : XN.Al k33 w (fun k => (P0_ k ∨ P2_ k) ∧ ¬ (some k = u9000_.ownBlock ∨ some k = u9001_.ownBlock)) rows l0 := ⟨hlr,fun j x c hx hc => Kd.FK_mono (hf j x c hx hc) (fun k hk => ⟨.inl hk.1,fun he => he.elim hk.2 (hp0_2 k hk.1)⟩)⟩;have hA2 : XN.Al k33 w (fun k => (P0_ k ∨ P2_ k) ∧ ¬ (some k = u9000_.ownBlock ∨ some k = u9001_.ownBlock)) rows2 l2 := ⟨hlr2,fun j x c hx hc => Kd.FK_mono (hf2 j x c hx hc) (fun k hk => ⟨.inr hk.1,fun he => he.elim (hp2_0 k hk.1) hk.2⟩)⟩;have h2 : slices_Insert_raw.f rows a1 rows2 = some (rows.take a1.toNat ++ rows2 ++ rows.drop a1.toNat) ∧ r = l0.take a1.toNat ++ l2 ++ l0.drop a1.toNat := by
  unfold slices_Insert.f at h
  unfold slices_Insert_raw.f
  rw [hlr,hlr2]
  repeat' split at h
  all_goals first | cases h;done | (rename_i g0 g1 g2;rw [if_pos g0,if_pos g1,if_pos g2];exact ⟨rfl,(Option.some.inj h).symm⟩)
 obtain ⟨h2,rfl⟩ := h2;refine (slices_Insert_raw.calls (fun k_ => some k_ = u9000_.ownBlock) u9000_ rows a1 (fun k_ => some k_ = u9001_.ownBlock) u9001_ rows2 _ w0 w hB hR (fun k hk => hp0_2 k (h0 k hk.symm)) hR2 (fun k hk => hp2_0 k (h02 k hk.symm)) h2).mono ?_;rintro e w' ⟨v0,rfl,hR',hB',hK⟩;refine ⟨v0,rfl,⟨XN.moved hR' (XN.Al_append (XN.Al_append (XN.Al_take hA _) hA2) (XN.Al_drop hA _)) hK (fun k hk => hk.2) (fun k hk => hR'.1 k hk) (fun k hk => ?_) (fun k hk => .inl hk.1),fun k hk => hR'.1 k hk⟩,hB',hK⟩
 rcases hR'.1 k hk with (h1 | h1) | h1
 ·exact .inl (.inl (h0 k h1.symm))
 ·exact .inl (.inr (h02 k h1.symm))
 ·exact .inr h1
set_option maxHeartbeats 8000000 in
set_option maxRecDepth 100000 in
theorem slices_Clone_29.calls (P0_ : Nat → Prop) (A0 : Option Addr) (c0 : Nat) (l0 : List (S33)) (r : List (S33)) (w : World) (hs0 : Kd.V k33 33 w w.heap.size (fun k_ => P0_ k_) (.slice A0 l0.length c0) l0) (h : slices_Clone_29.f l0 = some r) :
  Calls Try.prog 29 #[.slice A0 l0.length c0] w fun e w' => ∃ v0_ : Value,e = .returned (v0_) ∧ Kd.N k33 33 w' w.heap.size (fun k_ => (P0_ k_ ∨ w.heap.size ≤ k_)) v0_ r ∧ Below w.heap.size w w' := by
 unfold slices_Clone_29.f at h
 by_cases hl : l0.length * 192 ≤ 140737488355328
 case neg => rw [if_neg hl] at h;cases h
 rw [if_pos hl] at h;obtain rfl := Option.some.inj h;clear h;have hu28 := Try.underlying22;have hnil : ∀ (a : Option Addr) n c w,(binOp .eql 22 (.slice a n c) (.slice none 0 0)).run Try.prog w = .ok (.bool a.isNone) w := fun a n c w => XS.run_eql_nil w 22 33 a n c 0 0 hu28
 obtain ⟨A1,c1,he,hc0,hF⟩ := hs0
 injection he with e1 e2 e3
 subst e1;subst e3
 cases A0 with
 | none =>
  have h0 : l0 = [] := by
   rcases Nat.eq_zero_or_pos l0.length with h | h
   ·exact List.length_eq_zero_iff.1 h
   ·obtain ⟨ad,e,_⟩ := (Kd.F_now hF).2.2 h
    cases e
  subst h0;clear hF hc0 hl;go_enter Try.func29,Try.ntmps29;go_wp2;go_ret;exact ⟨.slice none 0 0,rfl,Kd.N_nil _ _ _ _ _,Below.refl _ _⟩
 | some ad =>
  have HR := Aside0.mk (Kd.F_below (Kd.F_bound hF) (below_alloc (Below.refl _ _) (.cells #[] 33)));have HL := Aside0.mk hl;have HO0 := Aside0.mk (show Kd.N k33 33 (w.alloc (.cells #[] 33)) w.heap.size (fun k_ => (P0_ k_ ∨ w.heap.size ≤ k_)) (.slice (some ⟨w.heap.size,0,none⟩) 0 0) ([] : List (S33)) from Kd.R_N ⟨fun k hk => .inr (by simp [Value.ownBlock] at hk;omega),[],World.ownsRow_made w #[] 0 (Nat.le_refl _) (by decide) rfl,Reps.none _ _⟩);have HK0 := Aside0.mk (show ∀ k,(P0_ k ∧ k < w.heap.size) → (P0_ k ∨ w.heap.size ≤ k) ∧ some k ≠ (Value.slice (some ⟨w.heap.size,0,none⟩) 0 0).ownBlock from fun k hk => ⟨.inl hk.1,fun he => by simp [Value.ownBlock] at he;have := hk.2;omega⟩);have HF0 := Aside0.mk (show ∀ k,(w.alloc (.cells #[] 33)).heap.size ≤ k → P0_ k ∨ w.heap.size ≤ k from fun k hk => .inr (by simp at hk;omega));clear hF hl;go_enter Try.func29,Try.ntmps29;go_wp2_with (first | ((with_reducible refine gate_builtin (b := .append) (xs := #[.tmp 5,.tmp 6]) rfl ?_);at_builtin;refine Kd.N_append_rows k33 (w0 := w) w.heap.size rfl (.tmp 5) (.tmp 6) 22 33 (.agg #[(.bool false),(.int .u64 0),(.int .u64 0),(.string ⟨#[]⟩),(.int .i64 0),(.int .i64 0),(.int .i64 0),(.string ⟨#[]⟩),(.bool false),(.int .u64 0),(.int .u64 0),(.bool false),(.int .u64 0),(.int .u64 0),(.bool false),(.int .u64 0),(.int .u64 0),(.bool false),(.slice none 0 0),(.int .i64 0)]) 192 rfl Try.underlying22 info33 rfl (by decide) (by omega) (.slice (some ⟨w.heap.size,0,none⟩) 0 0) ([] : List (S33)) l0 _ _ _ (fun k_ => (P0_ k_ ∨ w.heap.size ≤ k_)) (fun k_ => P0_ k_ ∧ k_ < w.heap.size) rfl rfl HO0.out HR.out HK0.out HF0.out (below_alloc (Below.refl _ _) _) ?aS ?aL ?_;(case aS => simp);(case aL => have := HL.out;simpa using this);intro v1 w1 ho hb hg hat;have HO := Aside0.mk ho;have HB := Aside0.mk hb;clear ho hb hg hat));go_ret;exact ⟨v1,rfl,HO.out,HB.out⟩
set_option maxHeartbeats 8000000 in
set_option maxRecDepth 100000 in
theorem probe_until.calls (a0 : Int) (a1 : Int) (r : Int) (w : World) (h : probe_until.f a0 a1 = some r) :
  Calls Try.prog 30 #[.int .i64 a0,.int .i64 a1] w fun e w' => e = .returned (.int .i64 r) ∧ Drawn0 w w' := by
 have H : (if a1 > (wrap64 (4294967295 - a0)) then (some 4294967295) else (some (wrap64 (a0 + a1)))) = some r := h;clear h;by_cases c3 : a1 > (wrap64 (4294967295 - a0))
 ·rw [if_pos c3] at H;have c3b0 := decide_eq_true c3;clear c3;obtain rfl := Option.some.inj H;go_enter Try.func30,Try.ntmps30;go_wp2;go_ret;exact ⟨by first | rfl | (simp;done) | (simp [*];done),by repeat (first | exact Drawn0.refl _ | apply Drawn0.step)⟩
 ·rw [if_neg c3] at H;have c3b0 := decide_eq_false c3;clear c3;obtain rfl := Option.some.inj H;go_enter Try.func30,Try.ntmps30;go_wp2;go_ret;exact ⟨by first | rfl | (simp;done) | (simp [*];done),by repeat (first | exact Drawn0.refl _ | apply Drawn0.step)⟩
end Go.Proofs.Ytioopjondjfchaa.QA
