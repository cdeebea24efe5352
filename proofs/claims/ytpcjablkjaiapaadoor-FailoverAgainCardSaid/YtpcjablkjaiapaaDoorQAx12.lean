import Derived.Test.YtpcjablkjaiapaaDoorQAd1
import Derived.Test.YtpcjablkjaiapaaDoorQAx0
import Derived.Test.YtpcjablkjaiapaaDoorQAx4
import Derived.Test.YtpcjablkjaiapaaDoorXS
namespace Go.Proofs.YtpcjablkjaiapaaDoor.QA
open Go.RowKit Go.Proofs.YtpcjablkjaiapaaDoorW.PrintWords Go.Proofs.YtpcjablkjaiapaaDoorW.PrintLast Go.Proofs.YtpcjablkjaiapaaDoorW.PrintMore
attribute [local go_sem] max2_int min2_int max_two min_two max_three min_three max_four min_four   -- for this text's walks alone
attribute [local go_sem high] Go.Proofs.YtpcjablkjaiapaaDoor.XW.cell_setCell_lit
set_option linter.unusedVariables false
set_option linter.unusedSimpArgs false
set_option maxHeartbeats 8000000 in
set_option maxRecDepth 100000 in
theorem slices_Clone_21.calls (A0 : Option Addr) (c0 : Nat) (l0 : List (S27)) (r : List (S27)) (w : World) (hr0 : Kd.C k27 w A0 l0.length l0) (hc0 : l0.length ≤ c0) (h : slices_Clone_21.f l0 = some r) :
  Calls Tryd.prog 21 #[.slice A0 l0.length c0] w fun e w' => ∃ v0_ : Value,e = .returned (v0_) ∧ Kd.R k27 27 w' w.heap.size (fun _ => True) v0_ r ∧ Below w.heap.size w w' := by
 unfold slices_Clone_21.f at h
 by_cases hl : l0.length * 88 ≤ 140737488355328
 case neg => rw [if_neg hl] at h;cases h
 rw [if_pos hl] at h;obtain rfl := Option.some.inj h;clear h;have hu28 := Tryd.underlying22;have hnil : ∀ (a : Option Addr) n c w,(binOp .eql 22 (.slice a n c) (.slice none 0 0)).run Tryd.prog w = .ok (.bool a.isNone) w := fun a n c w => XS.run_eql_nil w 22 27 a n c 0 0 hu28
 cases A0 with
 | none =>
  have h0 : l0 = [] := by
   rcases Nat.eq_zero_or_pos l0.length with h | h
   ·exact List.length_eq_zero_iff.1 h
   ·obtain ⟨ad,e,_⟩ := hr0.2.2 h
    cases e
  subst h0;clear hr0 hc0 hl;go_enter Tryd.func21,Tryd.ntmps21;go_wp2;go_ret;exact ⟨.slice none 0 0,rfl,Kd.R_nil _ _ _ _ _,Below.refl _ _⟩
 | some ad =>
  have HR := Aside0.mk hr0;have HL := Aside0.mk hl;clear hr0 hl;go_enter Tryd.func21,Tryd.ntmps21;go_wp2_with (first | ((with_reducible refine gate_builtin (b := .append) (xs := #[.tmp 5,.tmp 6]) rfl ?_);at_builtin;refine Kd.R_append_rows k27 (Rr := k27.K (w.alloc (.cells #[] 27))) (w0 := w) w.heap.size rfl (.tmp 5) (.tmp 6) 22 27 (.agg #[(.bool false),(.int .u64 0),(.int .u64 0),(.string ⟨#[]⟩),(.int .i64 0),(.int .i64 0),(.int .i64 0),(.string ⟨#[]⟩),(.int .i64 0)]) 88 rfl Tryd.underlying22 info27 rfl (by decide) (by omega) (.slice (some ⟨w.heap.size,0,none⟩) 0 0) ([] : List (S27)) l0 _ _ _ (fun _ => True) (fun _ => False) rfl rfl ?aO ?aR (fun x cs h => by obtain rfl := k27_open h;exact k27_mkM _ _ _ x) (fun _ h => h.elim) (fun _ _ => trivial) (below_alloc (Below.refl _ _) _) ?aS ?aL ?_;(case aO => exact ⟨fun _ _ => trivial,[],World.ownsRow_made w #[] 0 (Nat.le_refl _) (by decide) rfl,Reps.none _ _⟩);(case aR => exact Kd.C_below HR.out (below_alloc (Below.refl _ _) _));(case aS => simp);(case aL => have := HL.out;simpa using this);intro v1 w1 ho hb hg hat;have HO := Aside0.mk ho;have HB := Aside0.mk hb;clear ho hb hg hat));go_ret;exact ⟨v1,rfl,HO.out,HB.out⟩
set_option maxHeartbeats 8000000 in
set_option maxRecDepth 100000 in
theorem failover_Merge_1.calls (k : Nat) (a0_0 : Bool) (a0_1 : Int) (a0_2 : Int) (a0_3 : ByteArray) (a0_4 : Int) (a0_5 : Int) (a0_6 : Int) (a0_7 : ByteArray) (a0_8 : Int) (a1_0 : Bool) (a1_1 : Int) (a1_2 : Int) (r : Int) (w : World) (h : failover_Merge_1.f k a0_0 a0_1 a0_2 a0_3 a0_4 a0_5 a0_6 a0_7 a0_8 a1_0 a1_1 a1_2 = some r) :
  Calls Tryd.prog 23 #[.agg #[.bool a0_0,.int .u64 a0_1,.int .u64 a0_2,.string a0_3,.int .i64 a0_4,.int .i64 a0_5,.int .i64 a0_6,.string a0_7,.int .i64 a0_8],.agg #[.bool a1_0,.int .u64 a1_1,.int .u64 a1_2]] w fun e w' => e = .returned (.int .i64 r) ∧ Below w.heap.size w w' := by
 have hu27 := Tryd.underlying27;have hu25 := Tryd.underlying25;have HB := Aside0.mk (Below.refl w.heap.size w);have H : ((addr_Compare.f k a0_0 a0_1 a0_2 a1_0 a1_1 a1_2).bind fun t149 => (some t149)) = some r := h;clear h;replace H := Option.bind_eq_some_iff.mp H;obtain ⟨t149,A30,H⟩ := H;replace H : (some t149) = some r := H;have A3 := Aside0.mk A30;clear A30;obtain rfl := Option.some.inj H;go_enter Tryd.func23,Tryd.ntmps23;go_wp2_with (first | ((with_reducible refine gate_dst (N := 2) rfl ?_);refine XR.bx 2 27 #[.bool a0_0,.int .u64 a0_1,.int .u64 a0_2,.string a0_3,.int .i64 a0_4,.int .i64 a0_5,.int .i64 a0_6,.string a0_7,.int .i64 a0_8] ?_;intro gb147 hg w4 hbox hb;have BK147 := Aside0.mk (hbox);have GW147 := Aside0.mk (XR.ge hg HB.out);have GE147 := GW147;replace HB := Aside0.mk (XR.bB HB.out hb);clear hb hbox hg) | ((with_reducible refine gate_dst (N := 3) rfl ?_);refine XR.bx 3 25 #[.bool a1_0,.int .u64 a1_1,.int .u64 a1_2] ?_;intro gb148 hg w5 hbox hb;have BK148 := Aside0.mk (hbox);have GW148 := Aside0.mk (XR.ge hg HB.out);have GE148 := GW148;have NB147_148 := Aside0.mk (XR.ne hg BK147.out);have NB148_147 := Aside0.mk (XR.en hg BK147.out);replace BK147 := Aside0.mk (XR.bb BK147.out hb);replace HB := Aside0.mk (below_step (XR.sB HB.out) hb);clear hb hbox hg;have hnb6 := NB147_148.out;have hnc6 := NB148_147.out;obtain ⟨Y7_0,Y7_1,Y7_2,Y7_3,Y7_4,Y7_5,Y7_6,Y7_7,Y7_8⟩ := XR.c9 BK147.out;obtain ⟨Z7_0,Z7_1,Z7_2,Z7_3,Z7_4,Z7_5,Z7_6,Z7_7,Z7_8⟩ := XR.f9 BK147.out;obtain ⟨Y8_0,Y8_1,Y8_2⟩ := XR.c3 BK148.out;obtain ⟨Z8_0,Z8_1,Z8_2⟩ := XR.f3 BK148.out) | ((with_reducible refine gate_callee (f := 24) rfl ?_);refine XR.gL 8 Tryd.func24 #[.agg #[.bool a0_0,.int .u64 a0_1,.int .u64 a0_2],.agg #[.bool a1_0,.int .u64 a1_1,.int .u64 a1_2]] ?_;(with_reducible refine (addr_Compare.calls k a0_0 a0_1 a0_2 a1_0 a1_1 a1_2 t149 _ A3.out).mono ?_);rintro e w9 ⟨rfl,hb⟩;refine ⟨_,rfl,?_⟩;replace BK147 := Aside0.mk (XR.bb BK147.out hb);replace BK148 := Aside0.mk (XR.bb BK148.out hb);replace HB := Aside0.mk (below_step (XR.sB HB.out) hb);(try clear hb);(try clear hk)));go_ret;exact XR.re HB.out
end Go.Proofs.YtpcjablkjaiapaaDoor.QA
