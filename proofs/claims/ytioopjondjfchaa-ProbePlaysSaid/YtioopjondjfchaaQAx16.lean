import Derived.Test.YtioopjondjfchaaQAd3
import Derived.Test.YtioopjondjfchaaQAx0
import Derived.Test.YtioopjondjfchaaXS
import Derived.Test.YtioopjondjfchaaXN
namespace Go.Proofs.Ytioopjondjfchaa.QA
open Go.RowKit Go.Proofs.YtioopjondjfchaaW.PrintWords Go.Proofs.YtioopjondjfchaaW.PrintLast Go.Proofs.YtioopjondjfchaaW.PrintMore
attribute [local go_sem] max2_int min2_int max_two min_two max_three min_three max_four min_four
attribute [local go_sem high] Go.Proofs.Ytioopjondjfchaa.XW.cell_setCell_lit
set_option linter.unusedVariables false
set_option linter.unusedSimpArgs false
set_option maxHeartbeats 8000000 in
set_option maxRecDepth 100000 in
theorem slices_Delete_raw.calls (P0_ : Nat → Prop) (u9000_ : Value) (l0 : List (List Value)) (a1 a2 : Int) (r : List (List Value)) (w0 w : World) (hB : Below w0.heap.size w0 w) (ho0 : Kd.R (Kd.raw 20) 33 w w0.heap.size P0_ u9000_ l0) (h : slices_Delete_raw.f l0 a1 a2 = some r) :
  Calls Try.prog 31 #[u9000_,.int .i64 a1,.int .i64 a2] w fun e w' => ∃ v0_ : Value,e = .returned (v0_) ∧ Kd.R (Kd.raw 20) 33 w' w0.heap.size (fun k_ => (P0_ k_ ∨ w.heap.size ≤ k_)) v0_ r ∧ Below w0.heap.size w0 w' ∧ Kept w w' (fun k_ => P0_ k_) := by
 unfold slices_Delete_raw.f at h
 by_cases h0 : 0 ≤ a1
 case neg => rw [if_neg h0] at h;cases h
 rw [if_pos h0] at h;by_cases h1 : a1 ≤ a2
 case neg => rw [if_neg h1] at h;cases h
 rw [if_pos h1] at h;by_cases h2 : a2 ≤ (l0.length : Int)
 case neg => rw [if_neg h2] at h;cases h
 rw [if_pos h2] at h;obtain rfl := Option.some.inj h;clear h;obtain ⟨i,rfl⟩ := Int.eq_ofNat_of_zero_le h0;obtain ⟨j,rfl⟩ := Int.eq_ofNat_of_zero_le (Int.le_trans h0 h1);have hij : i ≤ j := by omega
 have hj : j ≤ l0.length := by omega
 clear h0 h1 h2;simp only [Int.toNat_natCast];have hu28 := Try.underlying22;by_cases heq : i = j
 ·subst heq;obtain ⟨Ao,co,rfl⟩ := Kd.R_slice ho0;have hnc : l0.length ≤ co := by
   obtain ⟨_,_,he,hnc,_⟩ := Kd.R_reads ho0
   injection he with _ _ e3
   omega
  have HO := Aside0.mk ho0;have HB := Aside0.mk hB;clear ho0 hB;have hic : i ≤ co := by omega
  go_enter Try.func31,Try.ntmps31;go_wp2
  all_goals (go_ret;refine ⟨_,rfl,?_,HB.out,Kept.refl _ _⟩;(try rw [List.take_append_drop]);first | exact Kd.R_mono HO.out (fun _ h => .inl h) | (have e_ : l0.length = i := by omega);rw [e_] at HO;exact Kd.R_mono HO.out (fun _ h => .inl h))
 ·obtain ⟨g,cap,cur,rfl,hb,hok,hgw,hg,hn,hc,hs,hr⟩ := XS.R_block ho0 (by omega);have hic : i ≤ cap := by omega
  have hjc : j ≤ cap := by omega
  obtain ⟨i0,hi0,hz0,hz1,hz2⟩ := info_parts info33;have hone := XS.reps_one hr;have hs6 : cur.size = cap * 20 := hs;have hlen6 : l0.length * 20 ≤ cur.size := by rw [hs6];exact Nat.mul_le_mul_right _ hn
  have hr6 : Reps ((Kd.raw 20).M w w0.heap.size (fun k => P0_ k ∧ some k ≠ (Value.slice (some ⟨g,0,none⟩) l0.length cap).ownBlock)) 20 l0 (cur.toList.take (l0.length * 20)) := hr;have hin : (cur.toList.take (l0.length * 20)).length = l0.length * 20 := hr6.1;have hrT := XS.reps_take hr6 i (by omega);have hrD := XS.reps_drop hr6 j;obtain ⟨news,hnews⟩ : ∃ news,news = (cur.toList.take (l0.length * 20)).drop (j * 20) := ⟨_,rfl⟩;rw [← hnews] at hrD;have hnl : news.length = (l0.length - j) * 20 := by rw [hrD.1,List.length_drop]
  have hcur : ∀ t u,news[t]? = some u → cur[j * 20 + t]? = some u := fun t u hu => by
   rw [hnews,List.getElem?_drop,List.getElem?_take] at hu
   split at hu
   ·rw [← Array.getElem?_toList];exact hu
   ·cases hu
  obtain ⟨A,hA,hsrc⟩ : ∃ A : Addr,(if cap = j then some (⟨g,0,none⟩ : Addr) else some ⟨g,j * 20,none⟩) = some A ∧ Hid (∀ t u,news[t]? = some u → w.drew.cell? (A.add t) = some u) := by
   by_cases hcj : cap = j
   ·refine ⟨⟨g,0,none⟩,by simp [hcj],fun t u hu => ?_⟩;have h0 : news.length = 0 := by rw [hnl];omega
    rw [List.length_eq_zero_iff.1 h0] at hu
    simp at hu
   ·refine ⟨⟨g,j * 20,none⟩,by simp [hcj],fun t u hu => ?_⟩;rw [Addr.add_lit]
    show w.cell? _ = some u
    simpa [World.cell?,hg] using hcur t u hu
  have s1 : Hid (news.length = (l0.length - j) * 20) := hnl;have s2 : Hid (∀ u ∈ news,u.oneCell' = true) := fun u hu => hone u (by rw [hnews] at hu;exact List.mem_of_mem_drop hu)
  have hfit : i * 20 + news.length ≤ cur.size := by rw [hnl];omega
  have s3 : Hid (∀ t,t < news.length → (w.drew.cell? ⟨g,0 + i * 20 + t,none⟩).isSome = true ∧ w.drew.frozen? ⟨g,0 + i * 20 + t,none⟩ = false) := fun t ht => by
   have : i * 20 + t < cur.size := by omega
   refine ⟨?_,?_⟩
   ·show (w.cell? _).isSome = true
    simp [World.cell?,hg,this]
   ·show w.frozen? _ = false
    simp [World.frozen?,hg]
  have hgd : w.drew.heap[g]? = some (.cells cur 33 (0,0)) := hg;obtain ⟨W1,hW1⟩ : ∃ W1,W1 = w.drew.setCells g (0 + i * 20) news := ⟨_,rfl⟩;have hW1r := hW1.trans (XS.setCells_row Try.prog w.drew g (0 + i * 20) news cur 33 hgd (by omega) s2.out);obtain ⟨c1,hc1⟩ : ∃ c1 : Array Value,c1 = (cur.toList.take (0 + i * 20) ++ news ++ cur.toList.drop (0 + i * 20 + news.length)).toArray := ⟨_,rfl⟩;rw [← hc1] at hW1r;have hc1s : c1.size = cap * 20 := by rw [hc1,List.size_toArray,List.length_append,List.length_append,List.length_take,List.length_drop,Array.length_toList];omega
  have hc1l : c1.toList.length = cap * 20 := by rw [Array.length_toList];exact hc1s
  have hg1 : W1.heap[g]? = some (.cells c1 33 (0,0)) := by rw [hW1r];exact setRow_heap w.drew g cur c1 33 (0,0) hgd
  have hzl : ∀ m,(Builtin.zeroCells (Value.cells (.agg #[(.bool false),(.int .u64 0),(.int .u64 0),(.string ⟨#[]⟩),(.int .i64 0),(.int .i64 0),(.int .i64 0),(.string ⟨#[]⟩),(.bool false),(.int .u64 0),(.int .u64 0),(.bool false),(.int .u64 0),(.int .u64 0),(.bool false),(.int .u64 0),(.int .u64 0),(.bool false),(.slice none 0 0),(.int .i64 0)])) m).toList.length = m * 20 := fun m => by rw [Array.length_toList,size_zeroCells];rfl
  have hz1c : ∀ m,∀ v ∈ (Builtin.zeroCells (Value.cells (.agg #[(.bool false),(.int .u64 0),(.int .u64 0),(.string ⟨#[]⟩),(.int .i64 0),(.int .i64 0),(.int .i64 0),(.string ⟨#[]⟩),(.bool false),(.int .u64 0),(.int .u64 0),(.bool false),(.int .u64 0),(.int .u64 0),(.bool false),(.int .u64 0),(.int .u64 0),(.bool false),(.slice none 0 0),(.int .i64 0)])) m).toList,v.oneCell' = true := fun m => XS.zero_one (by decide) (by decide)
  have hz0v : ∀ w,(zeroValue 33).run Try.prog w = .ok (.agg #[(.bool false),(.int .u64 0),(.int .u64 0),(.string ⟨#[]⟩),(.int .i64 0),(.int .i64 0),(.int .i64 0),(.string ⟨#[]⟩),(.bool false),(.int .u64 0),(.int .u64 0),(.bool false),(.int .u64 0),(.int .u64 0),(.bool false),(.int .u64 0),(.int .u64 0),(.bool false),(.slice none 0 0),(.int .i64 0)]) w := fun w => by simp [zeroValue,typeInfo,hi0,hz0]
  obtain ⟨Z,hZ⟩ : ∃ Z,Z = (Builtin.zeroCells (Value.cells (.agg #[(.bool false),(.int .u64 0),(.int .u64 0),(.string ⟨#[]⟩),(.int .i64 0),(.int .i64 0),(.int .i64 0),(.string ⟨#[]⟩),(.bool false),(.int .u64 0),(.int .u64 0),(.bool false),(.int .u64 0),(.int .u64 0),(.bool false),(.int .u64 0),(.int .u64 0),(.bool false),(.slice none 0 0),(.int .i64 0)])) (l0.length - (i + (l0.length - j)))).toList := ⟨_,rfl⟩;obtain ⟨W2,hW2⟩ : ∃ W2,W2 = W1.setCells g ((i + (l0.length - j)) * 20) Z := ⟨_,rfl⟩;have hZl : Z.length = (l0.length - (i + (l0.length - j))) * 20 := by rw [hZ];exact hzl _
  obtain ⟨c2,hc2⟩ : ∃ c2 : Array Value,c2 = (c1.toList.take ((i + (l0.length - j)) * 20) ++ Z ++ c1.toList.drop ((i + (l0.length - j)) * 20 + Z.length)).toArray := ⟨_,rfl⟩;have hW2r := hW2.trans (XS.setCells_row Try.prog W1 g ((i + (l0.length - j)) * 20) Z c1 33 hg1 (by omega) (by rw [hZ];exact hz1c _));rw [← hc2,hW1r,setRow_setRow] at hW2r;have hc2s : c2.size = cap * 20 := by rw [hc2,List.size_toArray,List.length_append,List.length_append,List.length_take,List.length_drop,hc1l];omega
  have htk : c2.toList.take ((i + (l0.length - j)) * 20) = (cur.toList.take (l0.length * 20)).take (i * 20) ++ news := by
   have hA : (cur.toList.take (0 + i * 20)).length = i * 20 := by rw [List.length_take,Array.length_toList];omega
   have e1 : (i + (l0.length - j)) * 20 = (cur.toList.take (0 + i * 20) ++ news).length := by rw [List.length_append,hA,hnl,Nat.add_mul]
   have e2 : (c1.toList.take ((i + (l0.length - j)) * 20)).length = (i + (l0.length - j)) * 20 := by rw [List.length_take,hc1l];omega
   rw [hc2,List.append_assoc,List.take_left' e2,hc1,e1,List.take_left,Nat.zero_add,List.take_take,Nat.min_eq_left (by omega)]
  have hg2 : W2.heap[g]? = some (.cells c2 33 (0,0)) := by rw [hW2r];exact setRow_heap w.drew g cur c2 33 (0,0) hgd
  have hoth : ∀ k,k ≠ g → W2.heap[k]? = w.heap[k]? := fun k hk => by rw [hW2r];exact setRow_other w.drew g k c2 hk
  have hsize : W2.heap.size = w.heap.size := by rw [hW2r];exact (by simp [World.setRow] : (w.drew.setRow g c2).heap.size = w.drew.heap.size)
  have hR : Kd.R (Kd.raw 20) 33 W2 w0.heap.size P0_ (.slice (some ⟨g,0,none⟩) (i + (l0.length - j)) cap) (l0.take i ++ l0.drop j) :=
   XS.R_rewrite ho0 hg2 hc2s (by omega) hc (fun k _ hk => hoth k hk) htk (XS.reps_append hrT hrD) (by rw [List.length_append,List.length_take,List.length_drop];omega)
  have hB2 : Below w0.heap.size w0 W2 := hB.trans ⟨by rw [hW2r];rfl,by rw [hW2r];rfl,by rw [hW2r];rfl,by omega,fun k hk => hoth k (by omega)⟩;have hK2 : Kept w W2 (fun k_ => P0_ k_) := ⟨by omega,fun k _ hk => hoth k (fun e_ => hk (e_ ▸ hok))⟩;have HR2 := Aside0.mk hR;have HB2 := Aside0.mk hB2;have HK2 := Aside0.mk hK2;have hcl : ∀ ty,(Builtin.clear_ #[22] ty #[.slice (some ⟨g,(i + (l0.length - j)) * 20,none⟩) (l0.length - (i + (l0.length - j))) (cap - (i + (l0.length - j)))]).run Try.prog W1 = .ok (.tuple #[]) W2 := fun ty => by
   rw [hW2,hZ];refine XS.run_clear_cells W1 22 33 ty _ hu28 hz0v g _ _ _ (by omega) (hz1c _) (fun t ht => ?_) (fun t ht => ?_)
   ·rw [hzl] at ht;have : (i + (l0.length - j)) * 20 + t < c1.size := by omega
    simp [World.cell?,hg1,this]
   ·simp [World.frozen?,hg1]
  have hW : Hid (W1 = w.drew.setCells g (0 + i * 20) news) := hW1;have hci : ¬ cap = i + (l0.length - j) := by omega
  clear hW1 hW1r hW2 hW2r hR hB2 hK2 hg2 hoth hsize htk hc2 hc2s hc1 hc1s hc1l hg1 hZ hZl hz0v hz1c hzl hrT hrD hr6 hcur hnews hr ho0 hB hg hgd hone;go_enter Try.func31,Try.ntmps31;go_wp2_with fail;go_region_law (refine step_append_room rfl (.tmp 22) (.tmp 25) 22 rfl 33 i0 20 hu28 hi0 hz1 g 0 i cap (by simp [Act.eval,Act.put]) A (l0.length - j) (cap - j) news (by simp [Act.eval,Act.put]) s1.out hsrc.out s2.out (by omega) s3.out ?_;rw [← hW.out]);go_wp2;go_ret;exact ⟨.slice (some ⟨g,0,none⟩) (i + (l0.length - j)) cap,rfl,Kd.R_mono HR2.out (fun _ h => .inl h),HB2.out,HK2.out⟩
set_option maxHeartbeats 8000000 in
set_option maxRecDepth 100000 in
theorem slices_Delete.calls (P0_ : Nat → Prop) (u9000_ : Value) (l0 : List (S33)) (a1 a2 : Int) (r : List (S33)) (w0 w : World) (hB : Below w0.heap.size w0 w) (ho0 : Kd.N k33 33 w w0.heap.size P0_ u9000_ l0) (h : slices_Delete.f l0 a1 a2 = some r) :
  Calls Try.prog 31 #[u9000_,.int .i64 a1,.int .i64 a2] w fun e w' => ∃ v0_ : Value,e = .returned (v0_) ∧ (Kd.N k33 33 w' w0.heap.size (fun k_ => (P0_ k_ ∨ w.heap.size ≤ k_)) v0_ r ∧ ∀ k_,(v0_ : Value).ownBlock = some k_ → some k_ = (u9000_ : Value).ownBlock ∨ w.heap.size ≤ k_) ∧ Below w0.heap.size w0 w' ∧ Kept w w' (fun k_ => some k_ = (u9000_ : Value).ownBlock) := by
 obtain ⟨h0,rows,hlr,hR,hf⟩ := ho0;have hA : XN.Al k33 w (fun k => P0_ k ∧ some k ≠ u9000_.ownBlock) rows l0 := ⟨hlr,hf⟩;have h2 : slices_Delete_raw.f rows a1 a2 = some (rows.take a1.toNat ++ rows.drop a2.toNat) ∧ r = l0.take a1.toNat ++ l0.drop a2.toNat := by
  unfold slices_Delete.f at h
  unfold slices_Delete_raw.f
  rw [hlr]
  repeat' split at h
  all_goals first | cases h;done | (rename_i g0 g1 g2;rw [if_pos g0,if_pos g1,if_pos g2];exact ⟨rfl,(Option.some.inj h).symm⟩)
 obtain ⟨h2,rfl⟩ := h2;refine (slices_Delete_raw.calls (fun k_ => some k_ = u9000_.ownBlock) u9000_ rows a1 a2 _ w0 w hB hR h2).mono ?_;rintro e w' ⟨v0,rfl,hR',hB',hK⟩;refine ⟨v0,rfl,⟨XN.moved hR' (XN.Al_append (XN.Al_take hA _) (XN.Al_drop hA _)) hK (fun k hk => hk.2) (fun k hk => hR'.1 k hk) (fun k hk => ?_) (fun k hk => .inl hk.1),fun k hk => hR'.1 k hk⟩,hB',hK⟩
 rcases hR'.1 k hk with h1 | h1
 ·exact .inl (h0 k h1.symm)
 ·exact .inr h1
end Go.Proofs.Ytioopjondjfchaa.QA
