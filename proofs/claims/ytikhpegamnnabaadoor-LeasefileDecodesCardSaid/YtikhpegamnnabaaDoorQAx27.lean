import Derived.Test.YtikhpegamnnabaaDoorQAd1
import Derived.Test.YtikhpegamnnabaaDoorQAx0
import Derived.Test.YtikhpegamnnabaaDoorQAx26
namespace Go.Proofs.YtikhpegamnnabaaDoor.QA
open Go.RowKit Go.Proofs.YtikhpegamnnabaaDoorW.PrintWords Go.Proofs.YtikhpegamnnabaaDoorW.PrintLast Go.Proofs.YtikhpegamnnabaaDoorW.PrintMore
attribute [local go_sem] max2_int min2_int max_two min_two max_three min_three max_four min_four
attribute [local go_sem high] Go.Proofs.YtikhpegamnnabaaDoor.XW.cell_setCell_lit
set_option linter.unusedVariables false
set_option linter.unusedSimpArgs false
def wal_next.T7 : Bool × List (List Nat × List Nat) := (true,[([],[]),([],[]),([1],[1]),([2],[2]),([],[]),([4],[4]),([],[]),([5,6],[5,6]),([7,3],[7]),([3,8],[3,8]),([0,8,0],[0]),([9,10,0,1,2,3,4,5,6,7,8,9,10],[9])])
def wal_next.B7 : List Nat := [0,0,2,6,0,16,0,112,254,510,511,2047]
theorem wal_next.tab7 : rtab .any (opsOf Tryd.f77 7) = wal_next.T7 := by kernel_rfl
theorem wal_next.bits7 : waitsOk wal_next.T7.2 wal_next.B7 = true := by kernel_rfl
set_option maxHeartbeats 8000000 in
set_option maxRecDepth 100000 in
theorem wal_next.calls (k : Nat) (a0 : ByteArray) (r1 : ByteArray) (r2 : Bool) (w : World) (h : wal_next.f k a0 = some (r1,r2)) :
  Calls Tryd.prog 77 #[.string a0] w fun e w' => e = .returned (.tuple #[.string r1,.bool r2]) ∧ Below w.heap.size w w' := by
 have HB := Aside0.mk (Below.refl w.heap.size w);have H : (if (a0.size : Int) < 8 then (some ((⟨#[]⟩ : ByteArray),false)) else ((wal_number4.f a0).bind fun t271 => (if t271 > 32768 then (wal_next.j0 k a0 t271 true) else (wal_next.j0 k a0 t271 (decide ((wrap64 (t271)) > (wrap64 ((a0.size : Int) - 8)))))))) = some (r1,r2) := h;clear h;by_cases c2 : (a0.size : Int) < 8
 ·rw [if_pos c2] at H;have c2b0 := decide_eq_true c2;have c2b1 : decide (a0.size < 8) = true := decide_eq_true (by omega);clear c2;simp only [Option.some.injEq,Prod.mk.injEq] at H;obtain ⟨rfl,rfl⟩ := H;go_enter Tryd.func77,Tryd.ntmps77;go_wp2;go_ret2;exact XR.re HB.out
 ·rw [if_neg c2] at H;have c2b0 := decide_eq_false c2;have c2b1 : decide (a0.size < 8) = false := decide_eq_false (by omega);clear c2;replace H := Option.bind_eq_some_iff.mp H;obtain ⟨t271,A30,H⟩ := H;(try dsimp only at H);have A3 := Aside0.mk A30;clear A30;have HC4 := Aside0.mk H;clear H;go_enter Tryd.func77,Tryd.ntmps77;go_upto_region 4 with (first | ((with_reducible refine gate_callee (f := 89) rfl ?_);refine XR.gL 10 Tryd.func89 #[.string a0] ?_;(with_reducible refine (wal_number4.calls a0 t271 _ A3.out).mono ?_);rintro e w' ⟨rfl,⟨nd,rfl⟩⟩;refine ⟨_,rfl,?_⟩));(try simp only [Act.put,List.setIfInBounds_toArray,List.set_cons_zero,List.set_cons_succ]);go_cut [20] (fun v20 wc => ∃ (kq : Nat) (x20_3 : Bool),v20 = .bool x20_3 ∧ Aside0 (wal_next.j0 kq a0 t271 x20_3 = some (r1,r2)) ∧ Aside0 (kq ≤ k) ∧ Aside0 (Below w.heap.size w wc))
  case first =>
   have H := HC4.out;clear HC4;by_cases c5 : t271 > 32768
   ·rw [if_pos c5] at H;have c5b0 := decide_eq_true c5;clear c5;(first | rw [c5b0] | (simp only [i64_w,i32_w];rw [c5b0]) | skip);have H' := Aside0.mk H;clear H;go_wp2
    first | go_meet | ((refine Met.intro ?_);go_step;(try simp only [c2b0,c5b0]);(repeat apply Exists.intro);refine ⟨?rel,rfl⟩)
    case rel => exact ⟨_,(true),XR.rf,(by first | exact H' | (have h_ := H';simp only [c2b0,c5b0] at h_;exact h_)),XR.om,⟨XR.sB HB.out⟩⟩
   ·rw [if_neg c5] at H;have c5b0 := decide_eq_false c5;clear c5;(first | rw [c5b0] | (simp only [i64_w,i32_w];rw [c5b0]) | skip);have H' := Aside0.mk H;clear H;go_wp2
    first | go_meet | ((refine Met.intro ?_);go_step;(try simp only [c2b0,c5b0]);(repeat apply Exists.intro);refine ⟨?rel,rfl⟩)
    case rel => exact ⟨_,(decide ((wrap64 (t271)) > (wrap64 ((a0.size : Int) - 8)))),XR.rf,(by first | exact H' | (have h_ := H';simp only [c2b0,c5b0] at h_;exact h_)),XR.om,⟨XR.sB HB.out⟩⟩
  case rest =>
   clear HC4;(try clear c2);(try clear c2b0);(try clear c2b1);(try clear p2);(try clear c5);(try clear c5b0);obtain ⟨kq,x20_3,rfl,HA,HJ3,HB⟩ := hcut
   cases kq with
   | zero => exact absurd HA.out (by simp [wal_next.j0])
   | succ kj3 =>
    have H := HA.out;clear HA;simp only [wal_next.j0] at H;by_cases c6 : x20_3 = true
    ·subst c6;rw [if_pos rfl] at H;(try dsimp only at H);simp only [Option.some.injEq,Prod.mk.injEq] at H;obtain ⟨rfl,rfl⟩ := H;go_wp2;go_ret2;exact XR.re HB.out
    ·replace c6 := Bool.eq_false_iff.mpr c6;subst c6;rw [if_neg (show ¬ (false = true) by decide)] at H;(try dsimp only at H);by_cases c7 : 8 ≤ (wrap64 (8 + (wrap64 (t271))))
     ·rw [if_pos c7] at H;have c7b0 := eq_true c7;have c7b1 := decide_eq_true c7;by_cases c8 : (wrap64 (8 + (wrap64 (t271)))) ≤ (a0.size : Int)
      ·rw [if_pos c8] at H;have c8b0 := eq_true c8;have c8b1 := decide_eq_true c8;by_cases c9 : 4 ≤ (a0.size : Int)
       ·rw [if_pos c9] at H;have c9b0 := eq_true c9;have c9b1 := decide_eq_true c9;clear c9;replace H := Option.bind_eq_some_iff.mp H;obtain ⟨t272,A100,H⟩ := H;(try dsimp only at H);have A10 := Aside0.mk A100;clear A100;by_cases c11 : 0 ≤ 4
        ·rw [if_pos c11] at H;have c11b0 := eq_true c11;have c11b1 := decide_eq_true c11;clear c11;have c12b0 := eq_true (of_decide_eq_true (by first | (with_reducible assumption) | assumption) : 4 ≤ (a0.size : Int));obtain ⟨y273,hy273⟩ : ∃ y_ : List ByteArray,y_ = (([a0.extract 0 4,a0.extract 8 ((wrap64 (8 + (wrap64 (t271)))) : Int).toNat] : List ByteArray)) := ⟨_,rfl⟩;replace H : ((wal_checksum.f kj3 y273).bind fun t276 => (some (a0.extract 8 ((wrap64 (8 + (wrap64 (t271)))) : Int).toNat,(t272 == t276)))) = some (r1,r2) := by first | (rw [hy273];with_reducible exact H) | (have H2_ := (Option.bind_some _ _).symm.trans H;rw [hy273];with_reducible exact H2_) | (have H2_ := (Option.bind_some _ _).symm.trans H;with_reducible exact H2_) | with_reducible exact H | (rw [hy273];exact H) | exact H
         have Ny273 := Aside0.mk hy273;clear hy273;replace H := Option.bind_eq_some_iff.mp H;obtain ⟨t276,A130,H⟩ := H;(try dsimp only at H);have A13 := Aside0.mk A130;clear A130;simp only [Option.some.injEq,Prod.mk.injEq] at H;obtain ⟨rfl,rfl⟩ := H
         try go_wp2
         replace HB := Aside0.mk (below_drew1 HB.out);refine start_ (n := 12) (S := fun w' => True) (ds := []) #[false,false,false,false,false,false,false,false,false,false,false,false] (by kernel_rfl) rfl rfl trivial (fun hHeld => ?_);refine with_tabW wal_next.tab7 wal_next.bits7 (fun HT_ HW_ => ?_);generalize wc.drew = w14 at HB hHeld ⊢;refine XR.pu 0 26 HT_.out ?_;refine XR.pu 1 27 HT_.out ?_;refine XR.pu 2 28 HT_.out ?_;refine XR.pu 4 30 HT_.out ?_;refine XR.pu 5 31 HT_.out ?_;refine XR.pu 6 32 HT_.out ?_;refine join_ (σ := Value) 4 #[true,true,true,true,true,true,true,true,false,false,false,false] (fun s_ => [(29,.int .u32 t272),(33,s_)]) (fun s_ w' => (Kd.R Kd.string 9 w' w.heap.size (fun _ => True) s_ y273) ∧ (Below w.heap.size w w')) ?_ ?_
         rotate_left
         ·intro hCont;refine two_ (i := 3) (j := 7) (Ni := some 29) (Nj := some 33) #[true,true,true,true,true,true,true,false,false,false,false,false] #[true,true,true,false,true,true,true,true,false,false,false,false] rfl rfl rfl rfl (two_of HT_.out (by kernel_rfl)) (by decide) (by decide) (fun K hK => ?_) (fun K hK => ?_)
          ·skip
           refine XR.gO Tryd.func89 #[.string (a0.extract 4 a0.size)] ?_
           with_reducible refine (wal_number4.calls (a0.extract 4 a0.size) t272 _ A10.out).mono ?_
           rintro e w' ⟨rfl,⟨nd,rfl⟩⟩;refine ⟨_,rfl,?_⟩;refine hK.out _ _ trivial (fun hHeld => ?_);clear hK K;refine norm_ (a' := ?_) ?_ ?_
           rotate_left
           ·show Act.put _ (some 29) _ = _
            simp only [Act.put,List.setIfInBounds_toArray,List.set_cons_zero,List.set_cons_succ,i64_w,i32_w]
            rfl
           refine XR.on 7 (some 33) HT_.out (fun K hK => ?_);refine Kd.R_lit_step Kd.string _ 9 ?hg (N := 33) ?hd (xs := ([a0.extract 0 4,a0.extract 8 ((wrap64 (8 + (wrap64 (t271)))) : Int).toNat] : List ByteArray)) (inner := [.string (a0.extract 0 4),.string (a0.extract 8 ((wrap64 (8 + (wrap64 (t271)))) : Int).toNat)]) (ok := fun _ => True) (okp := fun _ => True) ?hr ?hp (fun _ hk => hk) trivial (Below.refl _ _) (Nat.le_refl _) (by simp) ?_;(case hd => rfl);(case hg => rfl);(case hr => first | (go_simp;done) | (go_simp;rfl));(case hp => exact (Reps.one (show Kd.M Kd.string _ _ _ (a0.extract 0 4) [.string (a0.extract 0 4)] from rfl) (Reps.one (show Kd.M Kd.string _ _ _ (a0.extract 8 ((wrap64 (8 + (wrap64 (t271)))) : Int).toNat) [.string (a0.extract 8 ((wrap64 (8 + (wrap64 (t271)))) : Int).toNat)] from rfl) (Reps.none _ _))));intro v274 w15 ho16 hb hg_ hnew_;clear hg_ hnew_;(first | rw [← Ny273.out] at ho16 | (simp only [Int.reduceToNat] at ho16;rw [← Ny273.out] at ho16));have HO275 := Aside0.mk (Kd.R_lower ho16 (below_size (XR.lB HB.out)));replace HB := Aside0.mk (XR.bB HB.out hb);clear hb ho16;refine hK.out _ _ trivial (fun hHeld => ?_);clear hK K;refine norm_ (a' := ?_) ?_ ?_
           rotate_left
           ·show Act.put _ (some 33) _ = _
            simp only [Act.put,List.setIfInBounds_toArray,List.set_cons_zero,List.set_cons_succ,i64_w,i32_w]
            rfl
           exact norm_ (by simp only [putAll,Act.put,List.setIfInBounds_toArray,List.set_cons_zero,List.set_cons_succ]) (hCont (v274) _ ⟨(XR.lR HO275.out),(XR.lB HB.out)⟩)
          ·skip
           refine Kd.R_lit_step Kd.string _ 9 ?hg (N := 33) ?hd (xs := ([a0.extract 0 4,a0.extract 8 ((wrap64 (8 + (wrap64 (t271)))) : Int).toNat] : List ByteArray)) (inner := [.string (a0.extract 0 4),.string (a0.extract 8 ((wrap64 (8 + (wrap64 (t271)))) : Int).toNat)]) (ok := fun _ => True) (okp := fun _ => True) ?hr ?hp (fun _ hk => hk) trivial (Below.refl _ _) (Nat.le_refl _) (by simp) ?_;(case hd => rfl);(case hg => rfl);(case hr => first | (go_simp;done) | (go_simp;rfl));(case hp => exact (Reps.one (show Kd.M Kd.string _ _ _ (a0.extract 0 4) [.string (a0.extract 0 4)] from rfl) (Reps.one (show Kd.M Kd.string _ _ _ (a0.extract 8 ((wrap64 (8 + (wrap64 (t271)))) : Int).toNat) [.string (a0.extract 8 ((wrap64 (8 + (wrap64 (t271)))) : Int).toNat)] from rfl) (Reps.none _ _))));intro v274 w15 ho16 hb hg_ hnew_;clear hg_ hnew_;(first | rw [← Ny273.out] at ho16 | (simp only [Int.reduceToNat] at ho16;rw [← Ny273.out] at ho16));have HO275 := Aside0.mk (Kd.R_lower ho16 (below_size (XR.lB HB.out)));replace HB := Aside0.mk (XR.bB HB.out hb);clear hb ho16;refine hK.out _ _ trivial (fun hHeld => ?_);clear hK K;refine norm_ (a' := ?_) ?_ ?_
           rotate_left
           ·show Act.put _ (some 33) _ = _
            simp only [Act.put,List.setIfInBounds_toArray,List.set_cons_zero,List.set_cons_succ,i64_w,i32_w]
            rfl
           refine XR.on 3 (some 29) HT_.out (fun K hK => ?_);refine XR.gO Tryd.func89 #[.string (a0.extract 4 a0.size)] ?_
           with_reducible refine (wal_number4.calls (a0.extract 4 a0.size) t272 _ A10.out).mono ?_
           rintro e w' ⟨rfl,⟨nd,rfl⟩⟩;refine ⟨_,rfl,?_⟩;refine hK.out _ _ trivial (fun hHeld => ?_);clear hK K;refine norm_ (a' := ?_) ?_ ?_
           rotate_left
           ·show Act.put _ (some 29) _ = _
            simp only [Act.put,List.setIfInBounds_toArray,List.set_cons_zero,List.set_cons_succ,i64_w,i32_w]
            rfl
           exact norm_ (by simp only [putAll,Act.put,List.setIfInBounds_toArray,List.set_cons_zero,List.set_cons_succ]) (hCont (v274) _ ⟨(XR.lR HO275.out),(XR.lB HB.out)⟩)
         rintro v274 w17 ⟨h0_,h1_⟩;have n0_ : Aside0 (Kd.R Kd.string 9 w17 w.heap.size (fun _ => True) v274 y273) := ⟨h0_⟩;have n1_ : Aside0 (Below w.heap.size w w17) := ⟨h1_⟩;clear HB;clear h0_ h1_;have HO275 := n0_;have HB := n1_;clear n0_ n1_;have hHeld := trivial;obtain ⟨Ao18,co18,eo18⟩ := Kd.R_slice HO275.out;(first | subst eo18 | (injection eo18 with f1_ f2_ f3_;have f4_ := f1_.symm;have f5_ := f3_.symm;clear f1_ f2_ f3_;subst f4_;subst f5_));refine norm_ (a' := ?_) ?_ ?_
         rotate_left
         ·simp only [putAll,Act.put,List.setIfInBounds_toArray,List.set_cons_zero,List.set_cons_succ]
          rfl
         refine XR.on 8 (some 34) HT_.out (fun K hK => ?_);refine XR.gO Tryd.func79 #[.slice Ao18 y273.length co18] ?_
         with_reducible refine (wal_checksum.calls kj3 _ _ y273 t276 _ ?side1 ?side2 A13.out).mono ?_
         (case side1 => exact XR.lC (Kd.R_reads' HO275.out).2.2)
         (case side2 => exact (Kd.R_reads' HO275.out).2.1)
         rintro e w' ⟨rfl,⟨nd,rfl⟩⟩;refine ⟨_,rfl,?_⟩;refine hK.out _ _ trivial (fun hHeld => ?_);clear hK K;refine norm_ (a' := ?_) ?_ ?_
         rotate_left
         ·show Act.put _ (some 34) _ = _
          simp only [Act.put,List.setIfInBounds_toArray,List.set_cons_zero,List.set_cons_succ,i64_w,i32_w]
          rfl
         refine XR.pu 9 35 HT_.out ?_;refine XR.pu 10 2 HT_.out ?_;refine XR.pu 11 3 HT_.out ?_;refine done_ (done_of HT_.out (by kernel_rfl)) ?_
         try go_wp2
         go_ret2;exact XR.re HB.out
        ·rw [if_neg c11] at H;exact absurd H (by simp)
       ·rw [if_neg c9] at H;exact absurd H (by simp)
      ·rw [if_neg c8] at H;exact absurd H (by simp)
     ·rw [if_neg c7] at H;exact absurd H (by simp)
set_option maxHeartbeats 8000000 in
set_option maxRecDepth 100000 in
theorem wal_Scan.calls (k : Nat) (a0 : ByteArray) (r1 : List ByteArray) (r2 : Int) (w : World) (h : wal_Scan.f k a0 = some (r1,r2)) :
  Calls Tryd.prog 66 #[.string a0] w fun e w' => ∃ v0_ : Value,e = .returned (.tuple #[v0_,.int .i64 r2]) ∧ Kd.R Kd.string 9 w' w.heap.size (fun _ => True) v0_ r1 ∧ Below w.heap.size w w' := by
 have HB := Aside0.mk (Below.refl w.heap.size w);have H : (wal_Scan.l0 k a0 ([] : List ByteArray) 0) = some (r1,r2) := h;clear h;have H' := Aside0.mk H;clear H;go_enter Tryd.func66,Tryd.ntmps66;go_wp2;go_loopg [4,5] k (fun kq v4 v5 w' => ∃ (x4_1 : List ByteArray) (x5_1 : Int),v5 = .int .i64 x5_1 ∧ Aside0 (wal_Scan.l0 kq a0 x4_1 x5_1 = some (r1,r2)) ∧ Aside0 (kq ≤ k) ∧ Aside0 (Kd.R Kd.string 9 w' w.heap.size (fun _ => True) v4 x4_1) ∧ Aside0 (Below w.heap.size w w'))
 case atStart => exact ⟨(([] : List ByteArray)),(0),XR.rf,H',⟨Nat.le_refl _⟩,⟨by first | exact Kd.R_nil _ _ _ _ _ | exact Kd.N_nil _ _ _ _ _ | exact Kd.V_nil _ _ _ _ _ | exact Kd.Q_nil _ _ _ _ _ | exact Kd.S_nil _ _ _ _ _⟩,⟨XR.sB HB.out⟩⟩
 case round =>
  clear H';obtain ⟨x4_1,x5_1,rfl,HA,HK1,HO_4,HB⟩ := hrel
  cases gk with
  | zero => exact absurd HA.out (by simp [wal_Scan.l0])
  | succ k1 =>
   have H := HA.out;clear HA;simp only [wal_Scan.l0] at H;by_cases c2 : 0 ≤ x5_1
   ·rw [if_pos c2] at H;have c2b0 := eq_true c2;have c2b1 := decide_eq_true c2;clear c2;by_cases c3 : x5_1 ≤ (a0.size : Int)
    ·rw [if_pos c3] at H;have c3b0 := eq_true c3;have c3b1 := decide_eq_true c3;clear c3;replace H := Option.bind_eq_some_iff.mp H;obtain ⟨⟨t277,t278⟩,A40,H⟩ := H;(try dsimp only at H);have A4 := Aside0.mk A40;clear A40;by_cases c5 : t278 = true
     ·subst c5;rw [if_pos rfl] at H;(try dsimp only at H);by_cases c6 : x4_1.length < 8796093022208
      ·rw [if_pos c6] at H;have LMc6 := Aside0.mk c6;clear c6;obtain ⟨y279,hy279⟩ : ∃ y_ : List ByteArray,y_ = (x4_1 ++ [t277]) := ⟨_,rfl⟩;replace H : (wal_Scan.l0 k1 a0 y279 (wrap64 (x5_1 + (wrap64 (8 + (t277.size : Int)))))) = some (r1,r2) := by first | (rw [hy279];with_reducible exact H) | (have H2_ := (Option.bind_some _ _).symm.trans H;rw [hy279];with_reducible exact H2_) | (have H2_ := (Option.bind_some _ _).symm.trans H;with_reducible exact H2_) | with_reducible exact H | (rw [hy279];exact H) | exact H
       have Ny279 := Aside0.mk hy279;clear hy279;have H' := Aside0.mk H;clear H;go_wp2_with (first | ((with_reducible refine gate_callee (f := 77) rfl ?_);refine XR.gL 12 Tryd.func77 #[.string (a0.extract (x5_1 : Int).toNat a0.size)] ?_;(with_reducible refine (wal_next.calls k1 (a0.extract (x5_1 : Int).toNat a0.size) t277 true _ A4.out).mono ?_);rintro e w7 ⟨rfl,hb⟩;refine ⟨_,rfl,?_⟩;replace HO_4 := Aside0.mk (XR.bR HO_4.out hb);replace HB := Aside0.mk (XR.bB HB.out hb);(try clear hb);(try clear hk)) | ((with_reducible refine gate_builtin (b := .append) (xs := #[.tmp 19,.tmp 21]) rfl ?_);at_builtin;refine Kd.R_append Kd.string (w0 := w) w.heap.size rfl (.tmp 19) (.tmp 21) 71 9 (.string ⟨#[]⟩) 16 rfl Tryd.underlying71 info9 rfl (by decide) (by omega) u4 x4_1 t277 [.string t277] (fun _ => True) (fun _ => False) rfl rfl ?aP (fun _ hk => hk.elim) ?aF ?aO ?aB ?aS ?aL ?_;(case aP => exact rfl);(case aB => exact (XR.lB HB.out));(case aF => exact (fun _ _ => trivial));(case aO => exact (XR.lR HO_4.out));(case aS => exact (below_size (XR.lB HB.out)));(case aL => have := LMc6.out;omega);intro v280 w8 ho hb hg hat;rw [← Ny279.out] at ho;have n0_ := Aside0.mk (hb);have n1_ := Aside0.mk (ho);clear HB;clear HO_4;have HB := n0_;have HO281 := n1_;clear n0_ n1_;clear ho hb hg hat));go_roundg k1
       case measure => have := HK1.out;omega
       case rel => exact ⟨(y279),(wrap64 (x5_1 + (wrap64 (8 + (t277.size : Int))))),XR.rf,H',⟨by have := HK1.out;omega⟩,⟨by (with_reducible repeat (first | apply Kd.R_alloc | apply Kd.R_drewN | apply Kd.R_drew));exact HO281.out⟩,⟨XR.sB HB.out⟩⟩
      ·rw [if_neg c6] at H;exact absurd H (by simp)
     ·replace c5 := Bool.eq_false_iff.mpr c5;subst c5;rw [if_neg (show ¬ (false = true) by decide)] at H;(try dsimp only at H);simp only [Option.some.injEq,Prod.mk.injEq] at H;obtain ⟨rfl,rfl⟩ := H;go_wp2_with (first | ((with_reducible refine gate_callee (f := 77) rfl ?_);refine XR.gL 12 Tryd.func77 #[.string (a0.extract (x5_1 : Int).toNat a0.size)] ?_;(with_reducible refine (wal_next.calls k1 (a0.extract (x5_1 : Int).toNat a0.size) t277 false _ A4.out).mono ?_);rintro e w9 ⟨rfl,hb⟩;refine ⟨_,rfl,?_⟩;replace HO_4 := Aside0.mk (XR.bR HO_4.out hb);replace HB := Aside0.mk (XR.bB HB.out hb);(try clear hb);(try clear hk)));go_ret2;exact ⟨_,by first | rfl | (simp [errW_none,errW_some] <;> rfl) | (simp [*,errW_none,errW_some] <;> rfl),by (with_reducible repeat (first | apply Kd.R_alloc | apply Kd.R_drewN | apply Kd.R_drew));exact HO_4.out,XR.sB HB.out⟩
    ·rw [if_neg c3] at H;exact absurd H (by simp)
   ·rw [if_neg c2] at H;exact absurd H (by simp)
end Go.Proofs.YtikhpegamnnabaaDoor.QA
